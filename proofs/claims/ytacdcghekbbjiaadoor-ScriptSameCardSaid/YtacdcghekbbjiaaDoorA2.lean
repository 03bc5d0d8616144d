/-
  Part 2 of what the claim leans on: an evaluator of the model, proved sound; the contracts of the functions.
-/
import Derived.Laws.BytesString
import GoSem.Instr.Lookup
import GoSem.Extern.MathSqrt
import GoSem.Extern.MathFloatBits
import GoSem.Extern.MathBitsCarry
import GoSem.Extern.BytealgIndexByte
import GoSem.Extern.BytealgCount
import Derived.LoopN
import Derived.Scope
import Derived.Laws.Externs
import Derived.WalkKit
import Derived.ProofKit
import Derived.OpenShut
import Derived.Deep.Slices
import Derived.Test.YtacdcghekbbjiaaDoorChecked
import Derived.KernelRfl
import Derived.Test.YtacdcghekbbjiaaDoorRows
import Derived.LaidLaws
import Derived.LaidHandle
import Derived.Lib.LaidTab
import Derived.Stop.LaidErr
import Derived.JoinedOf
import Derived.Below
import Derived.WalkSpells
import Derived.Maps.RangeRun
import Derived.Maps.RangeWalk
import Derived.Maps.OwnIn
import Derived.Shelf.Strings.OnBuilder
import Derived.Shelf.Strings.BuilderF
import Derived.Shelf.Strings.BuilderK
import Derived.Shelf.Strconv.Itoa3
import Derived.Shelf.Strconv.AtoiAll
import Derived.Shelf.Strings.Search2
import Derived.Shelf.Strings.Search3
import Derived.Test.YtacdcghekbbjiaaDoorProg
import Derived.Lib.OthersKept
import Derived.Lib.Hide
import Derived.Lib.Strings
import Derived.Laws.RangeAny
import Derived.Lib.AtoiAllCases
import Derived.Lib.AtoiErrMem
import Derived.RangeFuncBox
import Derived.RangeFuncLeaves
import Derived.RangeFuncNested
import Derived.Shelf.Abstract
import Derived.Shelf.RegionOpen
import Derived.OwnWalkIn
import Derived.TacticsInMore
import Derived.LoopNIn
import Derived.LoopIn
import Derived.RegionIn
import Derived.Stop.RegionWithIn
import Derived.Test.YtacdcghekbbjiaaDoorA1
namespace Go.Plb
set_option linter.unusedSimpArgs false
set_option linter.unusedVariables false
set_option linter.unusedSectionVars false
variable [Rom]
def rY(l:List Int) :ByteArray:=l.foldl (fun r n=>r.push (UInt8.ofNat n.toNat)) ByteArray.empty
def pm(P:Program)(g:Nat→Option ae)(s d:TypeId)(x:AV) :Option (ByteArray×List Bool×List Nat) :=
  match P.underlying s,P.underlying d with
  | some (.slice e),some .string =>
    match P.underlying e,mV g x with
    | some (.int .u8),some (m,es,.ns k ys,obs,rs)=>bif Nat.beq es 1&&ay k .u8 then some (rY ys,obs,rs) else none
    | _,_=>none
  | _,_=>none
theorem oa{P:Program}{ρ:aa}{w:World}{h:an}{n:Nat}(hh:HR ρ w h n){s d:TypeId}{x:AV}{x':Value}(hx:VR ρ w x x'){t:ByteArray}{obs:List Bool}{rs:List Nat} 
    (hc:pm P (ag h) s d x=some (t,obs,rs)) (ho:ac obs):(convert s d x').run P w=.ok (.string t) w:=by
  unfold pm at hc
  split at hc
  case h_2=>cases hc
  rename_i e hs hd
  split at hc
  case h_2=>cases hc
  rename_i m es k ys obs' rs' he hsrc
  cases h1:Nat.beq es 1&&ay k .u8 with
  | false=>rw [h1] at hc;cases hc
  | true =>
  rw [h1] at hc
  simp only [Bool.and_eq_true] at h1
  have hes:=Nat.eq_of_beq_eq_true h1.1
  have hk:k=.u8:=by simpa [ay] using h1.2
  subst hes hk
  simp only [cond_true,Option.some.injEq,Prod.mk.injEq] at hc
  obtain ⟨rfl,rfl,rfl⟩:=hc
  have hS:=jS hh hx hsrc ho
  obtain ⟨a,c,rfl,hv⟩:=hS.val
  have hlen:ys.length=m:=by
    have:=hS.count
    rw [Nat.mul_one] at this
    exact this
  rw [run_convert_bytes_string w s d e a m c hs he hd]
  rcases hv with h0 | ⟨bl,o,rfl,news,hnl,hnews,hone,hrel⟩
  · subst h0
    have hy:ys=[]:=List.length_eq_zero_iff.1 hlen
    subst hy
    cases a with
    | none=>rfl
    | some a=>exact run_bytesToString w a 0 c [] (by simp [loadCells,loadCellsFrom])
  · have hnews':news=ys.map (Value.int .u8):=by
      refine List.ext_getElem? fun j=>?_
      rw [List.getElem?_map]
      cases hj:ys[j]? with
      | none =>
        rw [List.getElem?_eq_none_iff] at hj
        rw [List.getElem?_eq_none (by omega)];rfl
      | some z =>
        obtain ⟨u,q1,q2⟩:=hrel j (.int .u8 z) (by show (ys[j]?).map _=_;rw [hj];rfl)
        rw [q1]
        cases q2
        rfl
    subst hnews'
    refine run_bytesToString w ⟨bl,o,none⟩ m c ys ?_
    have hf:=run_firstCells_some (P:=P) w 1 m ⟨bl,o,none⟩ m c (ys.map (Value.int .u8)) (by rw [hnl]) hnews
    simpa [Builtin.firstCells] using hf
def iL(P:Program)(g:Nat→Option ae)(t:TypeId)(x:AV)(lo hi:Option AV) :Option (AV×List Bool×List Nat) :=
  match P.underlying t,x with
  | some (.array n e),.ptr b 1 0 0 =>
    match g b,P.info? e,iz hi n,iz lo 0 with
    | some (.ns k xs),some ie,some h,some l =>
      bif Nat.beq ie.size 1 then some (.sl b 1 1 l.toNat (h.toNat-l.toNat) (n-l.toNat),[kL h n,kL l h.toNat,gX n xs.length],[b]) else none
    | _,_,_,_=>none
  | _,_=>none
theorem ma{P:Program}{ρ:aa}{w:World}{hp:an}{m:Nat}(hh:HR ρ w hp m){e:Operand→AV}{g:Operand→Value}(hops:∀ x,VR ρ w (e x) (g x)){t:TypeId}{x:AV}{x':Value}{lo hi:Option Operand}{v:AV}{obs:List Bool}{rs:List Nat} 
    (hx:VR ρ w x x') (h:iL P (ag hp) t x (lo.map e) (hi.map e)=some (v,obs,rs)) (ho:ac obs):bf P ρ w (Instr.sliceAt t x' (lo.map g) (hi.map g) none) v:=by
  unfold iL at h
  split at h
  case h_2=>cases h
  rename_i n el b hu
  split at h
  case h_2=>cases h
  rename_i k xs ie hh' ll hg hi' e1 e2
  cases hb1:Nat.beq ie.size 1 with
  | false=>rw [hb1] at h;cases h
  | true =>
  rw [hb1] at h
  simp only [cond_true,Option.some.injEq,Prod.mk.injEq] at h
  obtain ⟨rfl,rfl,rfl⟩:=h
  have hsz:ie.size=1:=Nat.eq_of_beq_eq_true hb1
  have b1:=bU ho.1
  have b2:=bU ho.2.1
  have b3:n≤xs.length:=by have:=ho.2.2.1;unfold gX at this;exact of_decide_eq_true this
  have hce:P.cellsOf el=1:=by simp [Program.cellsOf,hi',hsz]
  cases hx with
  | ptr _ _ _ _ hbo =>
  obtain ⟨hl,hr,c,ty,hc,hcv⟩:=hh.real hg hbo
  have hn:n≤c.size:=by
    rcases Nat.eq_zero_or_pos n with z | z
    · omega
    · have hlt:n-1<xs.length:=by omega
      obtain ⟨u,q,_⟩:=hcv (n-1) (.int k (xs[n-1]'hlt)) (by show (xs[n-1]?).map _=_;rw [List.getElem?_eq_getElem hlt];rfl)
      have:=(Array.getElem?_eq_some_iff.1 q).1
      omega
  have run:=bm (P:=P) (w:=w) false n n (lo.map g) (hi.map g) ll hh' (bO hops e2) (bO hops e1) b1 ⟨b2.1,by omega⟩
  have run2:(Instr.sliceAt t (.pointer (some ⟨ρ.at_ b,0*1+0,none⟩)) (lo.map g) (hi.map g) none).run P w=.ok (.slice (some (if n=ll.toNat then ⟨ρ.at_ b,0*1+0,none⟩ else (Addr.add ⟨ρ.at_ b,0*1+0,none⟩ (ll.toNat*P.cellsOf el)))) (hh'.toNat-ll.toNat) (n-ll.toNat)) w:=by
    simp only [Instr.sliceAt,Sem.run_bind,run_underlying hu,Result.andThen]
    simp [Instr.sureAddr,run,run_sizeOf w hi',hce,hsz,Sem.run_bind,Result.andThen,Sem.run_pure,Go.asAddr]
  refine .plain run2 ?_
  by_cases q:n=ll.toNat
  · rw [if_pos q]
    have z1:hh'.toNat-ll.toNat=0:=by omega
    have z2:n-ll.toNat=0:=by omega
    rw [z1,z2]
    exact .slEnd _ _ _ _ _
  · rw [if_neg q,bD,hce]
    have:0*1+0+ll.toNat*1=ll.toNat*1:=by omega
    rw [this]
    exact .sl _ _ _ _ _ _ _ hbo (Nat.le_refl _) (by omega) c ty hc (by omega)
theorem mb{P:Program}{g g':Nat→Option ae}{t:TypeId}{x:AV}{lo hi:Option AV}{r:AV×List Bool×List Nat}(h:iL P g t x lo hi=some r)(hg:∀ b∈r.2.2,g' b=g b) :iL P g' t x lo hi=some r:=by
  unfold iL at h ⊢
  split at h
  case h_2=>cases h
  rename_i n el b hu
  split at h
  case h_2=>cases h
  rename_i k xs ie hh' ll hgb hi' e1 e2
  cases hb1:Nat.beq ie.size 1 with
  | false=>rw [hb1] at h;cases h
  | true =>
  rw [hb1] at h
  simp only [cond_true,Option.some.injEq] at h
  subst h
  have:g' b=some (.ns k xs):=by rw [hg b (by simp)];exact hgb
  simp only [this,hi',e1,e2,hb1,cond_true]
def aP.like:aP→aP→Bool
  | .i k _,.i k' _=>ay k k'
  | .s _,.s _=>true
  | _,_=>false
def aP.same:aP→aP→Bool
  | .i _ n,.i _ m=>n==m
  | .s a,.s b=>decide (a=b)
  | _,_=>false
def aP.fits:TypeDesc→aP→Bool
  | .int _,.i ..=>true
  | .string,.s _=>true
  | _,_=>false
def g5(k:aP) :List aP→Bool
  | []=>true
  | q::l=>k.like q&&g5 k l
def jZ:List aP→Bool
  | []=>true
  | q::l=>(l.all fun r=>!q.same r)&&jZ l
def rF:AV→Option aP
  | .int k n=>some (.i k n)
  | .str s=>some (.s s)
  | _=>none
def p9:Value→AV
  | .agg c=>.agg (c.toList.map aL)
  | v=>aL v
def sv(cok:Bool)(v:AV)(b:Bool) :AV:=bif cok then .tup [v,.bool true b] else v
def g6(cok:Bool)(k:aP) :List aP→List AV→List de
  | q::ks,v::vs=>⟨sv cok v true,[],[k.same q]⟩::g6 cok k ks vs
  | _,_=>[]
def mc(P:Program)(t:TypeId)(x k:AV)(cok:Bool) :List de :=
  match P.underlying t,x,rF k with
  | some (.map kt et),.gmap ks vs,some key =>
    match P.underlying kt,(P.info? et).bind (·.zero) with
    | some d,some z=>bif key.fits d&&g5 key ks&&jZ ks then g6 cok key ks vs++[⟨sv cok (p9 z) false,[],ks.map fun q=>!key.same q⟩] else []
    | _,_=>[]
  | _,_,_=>[]
theorem cd{k:aP} :∀ {l:List aP},g5 k l=true→∀ q∈l,k.like q=true
  | [],_,q,h=>by cases h
  | r::l,h,q,hq=>by
    simp only [g5,Bool.and_eq_true] at h
    rcases List.mem_cons.1 hq with rfl | hq
    · exact h.1
    · exact cd h.2 q hq
theorem m6(ρ:aa)(w:World)(v:Value) :VR ρ w (p9 v) v:=by
  unfold p9
  split
  · exact .agg _ _ (ek ρ w _)
  · exact cC ρ w v
theorem qa{ρ:aa}{w:World}{k:AV}{k':Value}{key:aP}(h:VR ρ w k k')(hk:rF k=some key) :k'=key.val:=by
  unfold rF at hk
  split at hk
  · cases hk;cases h;rfl
  · cases hk;cases h;rfl
  · cases hk
theorem ef{k q:aP}(h:k.like q=true) :k.same q=true↔q.val=k.val:=by
  cases k with
  | i k n =>
    cases q with
    | i k' m =>
      have:k=k':=by simpa [aP.like,ay] using h
      subst this
      simp only [aP.same,aP.val,beq_iff_eq,Value.int.injEq,true_and]
      exact ⟨fun e=>e.symm,fun e=>e.symm⟩
    | s b=>cases h
  | s a =>
    cases q with
    | i k' m=>cases h
    | s b =>
      simp only [aP.same,aP.val,decide_eq_true_eq,Value.string.injEq]
      exact ⟨fun e=>e.symm,fun e=>e.symm⟩
theorem rG(a b:ByteArray) :(a==b)=decide (a=b):=by
  have e:(a==b)=(a.data==b.data):=rfl
  rw [e]
  by_cases h:a=b
  · subst h;simp
  · rw [decide_eq_false h]
    have:a.data≠b.data:=fun c=>h (by cases a;cases b;simp at c;subst c;rfl)
    simpa using this
theorem qW{d:TypeDesc}{k q:aP}(hf:k.fits d=true)(h:k.like q=true) :Instr.sameNow d k.val q.val=some (k.same q):=by
  cases k with
  | i k n =>
    cases q with
    | i k' m =>
      have:k=k':=by simpa [aP.like,ay] using h
      subst this
      cases d<;>first | (cases hf;done) | simp [aP.val,Instr.sameNow,aP.same]
    | s b=>cases h
  | s a =>
    cases q with
    | i k' m=>cases h
    | s b =>
      cases d<;>first | (cases hf;done) | (simp only [aP.val,Instr.sameNow,aP.same,rG])
theorem g7{d:TypeDesc}{key:aP}(hf:key.fits d=true) :∀ (es:List MapEntry) (i:Nat),(∀ e∈es,∃ q:aP,key.like q=true∧e.key=q.val) →
    (Instr.findNow d key.val es i=some none∧∀ e∈es,e.key≠key.val)∨∃ j e,e∈es∧e.key=key.val∧Instr.findNow d key.val es i=some (some (j,e.val))
  | [],i,_=>.inl ⟨rfl,fun e h=>by cases h⟩
  | e::es,i,h=>by
    obtain ⟨q,hq,he⟩:=h e (by simp)
    have hn:Instr.sameNow d key.val e.key=some (key.same q):=by rw [he];exact qW hf hq
    cases hs:key.same q with
    | true =>
      refine .inr ⟨i,e,by simp,by rw [he];exact (ef hq).1 hs,?_⟩
      simp only [Instr.findNow,hn,hs]
    | false =>
      have hne:e.key≠key.val:=by rw [he];intro c;rw [(ef hq).2 c] at hs;cases hs
      rcases g7 hf es (i+1) (fun e he=>h e (by simp [he])) with ⟨q1,q2⟩ | ⟨j,e',q1,q2,q3⟩
      · refine .inl ⟨by simp only [Instr.findNow,hn,hs];exact q1,fun e' he'=>?_⟩
        rcases List.mem_cons.1 he' with rfl | he'
        · exact hne
        · exact q2 e' he'
      · exact .inr ⟨j,e',by simp [q1],q2,by simp only [Instr.findNow,hn,hs];exact q3⟩
theorem pn{P:Program}{w:World}{kt:TypeId}{d:TypeDesc}(hu:P.underlying kt=some d){key:aP}(hf:key.fits d=true)(b:Bool)(n:Nat) :(Instr.checkKey b (n+1) kt key.val).run P w=.ok () w:=by
  unfold Instr.checkKey
  rw [Sem.run_bind,run_underlying hu]
  cases key<;>cases d<;>first | (cases hf;done) | rfl
theorem ez{cok:Bool}{k:aP} :∀ {ks:List aP} {vs:List AV} {r:de},r∈g6 cok k ks vs→∃ (i:Nat) (q:aP) (v:AV),ks[i]? = some q∧vs[i]? = some v∧r=⟨sv cok v true,[],[k.same q]⟩
  | q::ks,v::vs,r,h=>by
    simp only [g6,List.mem_cons] at h
    rcases h with rfl | h
    · exact ⟨0,q,v,rfl,rfl,rfl⟩
    · obtain ⟨i,q',v',h1,h2,h3⟩:=ez h
      exact ⟨i+1,q',v',by simpa using h1,by simpa using h2,h3⟩
  | [],_,r,h=>by cases h
  | _::_,[],r,h=>by cases h
theorem gw:∀ {l:List aP},jZ l=true→∀ {i j:Nat} {q r:aP},l[i]? = some q→l[j]? = some r→i<j→q.same r=false
  | [],_,i,j,q,r,h1,_,_=>by simp at h1
  | x::l,hn,i,j,q,r,h1,h2,hlt=>by
    simp only [jZ,Bool.and_eq_true,List.all_eq_true,Bool.not_eq_true'] at hn
    cases j with
    | zero=>omega
    | succ j =>
      cases i with
      | zero =>
        simp at h1 h2;subst h1
        exact hn.1 r (List.mem_of_getElem? h2)
      | succ i=>exact gw hn.2 (i:=i) (j:=j) (by simpa using h1) (by simpa using h2) (by omega)
theorem j0{P:Program}{w:World}{t kt et:TypeId}{d:TypeDesc}(ht:P.underlying t=some (.map kt et))(hd:P.underlying kt=some d){bl cl:Nat}{es:Array MapEntry}(hh:w.heap[bl]? = some (.map es cl)){key:aP}(hf:key.fits d=true) 
    {r:Option (Nat×Value)} (hr:Instr.findNow d key.val es.toList 0=some r) {z:Value} (hz:(zeroValue et).run P w=.ok z w) (cok:Bool) :
    (Instr.lookup t (.map (some bl)) key.val cok).run P w=.ok (if cok then .tuple #[(r.map Prod.snd).getD z,.bool r.isSome] else (r.map Prod.snd).getD z) w:=by
  unfold Instr.lookup
  simp only [Sem.run_bind,run_underlying ht,Result.andThen_ok]
  have hg:(getObj bl).run P w=.ok (.map es cl) w:=by simp [getObj,Sem.run,hh]
  simp only [Sem.run_bind,hg,Result.andThen_ok,Sem.run_pure,pn hd hf]
  have hfk:(Instr.findKey kt key.val es.toList).run P w=.ok r w:=by
    unfold Instr.findKey
    simp only [Sem.run_bind,run_underlying hd,Result.andThen_ok,hr]
    rfl
  simp only [hfk,Result.andThen_ok]
  cases r with
  | none=>simp only [Sem.run_bind,hz,Result.andThen_ok,Sem.run_pure];cases cok<;>rfl
  | some p=>obtain ⟨j,v⟩:=p;simp only [Sem.run_bind,Result.andThen_ok,Sem.run_pure];cases cok<;>rfl
theorem kX{P:Program}{ρ:aa}{w:World}{t:TypeId}{x k:AV}{x' k':Value}{cok:Bool}{r:de}(hx:VR ρ w x x')(hk:VR ρ w k k')(h:r∈mc P t x k cok)(ho:ac r.obs) :
    bf P ρ w (Instr.lookup t x' k' cok) r.v:=by
  unfold mc at h
  split at h
  case h_2=>cases h
  rename_i kt et ks vs key ht hkey
  split at h
  case h_2=>cases h
  rename_i d z hd hz
  cases hb:key.fits d&&g5 key ks&&jZ ks with
  | false=>rw [hb] at h;cases h
  | true =>
  rw [hb] at h
  simp only [cond_true,List.mem_append,List.mem_singleton] at h
  simp only [Bool.and_eq_true] at hb
  obtain ⟨⟨hf,hl⟩,hn⟩:=hb
  have hkv:=qa hk hkey
  subst hkv
  cases hx with | gmap _ _ bl es cl u ha hb' hh hin hex hv hlen hkept =>
  simp only [Option.bind_eq_some_iff] at hz
  obtain ⟨inf,hi,hz⟩:=hz
  have hzv:(zeroValue et).run P w=.ok z w:=by simp [zeroValue,typeInfo,hi,hz]
  have hes:∀ e∈es.toList,∃ q:aP,key.like q=true∧e.key=q.val:=fun e he=>by
    obtain ⟨i,q,h1,h2,_⟩:=hin e he
    exact ⟨q,cd hl q (List.mem_of_getElem? h1),h2⟩
  rcases g7 hf es.toList 0 hes with ⟨q1,q2⟩ | ⟨j,e,q1,q2,q3⟩
  · have run:=j0 ht hd hh hf q1 hzv cok
    rcases h with h | rfl
    · obtain ⟨i,q,v,h1,h2,rfl⟩:=ez h
      obtain ⟨e,he,h3,_⟩:=hex i q h1
      exact absurd (h3.trans ((ef (cd hl q (List.mem_of_getElem? h1))).1 ho.1)) (q2 e he)
    · refine .plain run ?_
      cases cok
      · exact m6 ρ w z
      · exact .tup _ #[_,_] (.cons _ _ _ _ (m6 ρ w z) (.cons _ _ _ _ (.bool _ _) .nil))
  · have run:=j0 ht hd hh hf q3 hzv cok
    obtain ⟨i,q,h1,h2,h3⟩:=hin e q1
    have hsame:key.same q=true:=(ef (cd hl q (List.mem_of_getElem? h1))).2 (h2.symm.trans q2)
    rcases h with h | rfl
    · obtain ⟨i',q',v,k1,k2,rfl⟩:=ez h
      have hij:i=i':=by
        have l1:=cd hl q (List.mem_of_getElem? h1)
        have l2:=cd hl q' (List.mem_of_getElem? k1)
        have e1:=(ef l1).1 hsame
        have e2:=(ef l2).1 ho.1
        have lk:∀ {a b:aP},key.like a=true→key.like b=true→a.val=b.val→a.same b=true:=by
          intro a b ha hb e
          cases key<;>cases a<;>cases b<;>simp_all [aP.like,aP.same,aP.val]
        rcases Nat.lt_trichotomy i i' with c | c | c
        · have:=gw hn h1 k1 c
          rw [lk l1 l2 (e1.trans e2.symm)] at this;cases this
        · exact c
        · have:=gw hn k1 h1 c
          rw [lk l2 l1 (e2.trans e1.symm)] at this;cases this
      subst hij
      refine .plain run ?_
      have hvr:VR ρ w v e.val:=by rw [h3];exact hv i v k2
      cases cok
      · exact hvr
      · exact .tup _ #[_,_] (.cons _ _ _ _ hvr (.cons _ _ _ _ (.bool _ _) .nil))
    · exfalso
      have:∀ (l:List aP),ac (l.map fun q=>!key.same q)→∀ q∈l,key.same q=false:=by
        intro l
        induction l with
        | nil=>intro _ q hq;cases hq
        | cons a l ih =>
          intro h q hq
          simp only [List.map_cons,ac,Bool.not_eq_true'] at h
          rcases List.mem_cons.1 hq with rfl | hq
          · exact h.1
          · exact ih h.2 q hq
      have:=this ks ho q (List.mem_of_getElem? h1)
      rw [hsame] at this;cases this
inductive jg where
  | sqrt | bits | frombits | add64 | sub64 | idxb | cntb
def rH(s:ByteArray)(c:Int) :Int:=match (List.range s.size).find? fun i=>s[i]! == c.toNat.toUInt8 with
  | some i=>(i:Int)
  | none=>-1
def rI(s:ByteArray)(c:Int) :Int:=s.foldl (fun n x=>if x==c.toNat.toUInt8 then n+1 else n) (0:Int)
def fb:jg→Array Value→Sem Value
  | .sqrt=>Extern.MathSqrt.sqrt
  | .bits=>Extern.MathFloatBits.float64bits
  | .frombits=>Extern.MathFloatBits.float64frombits
  | .add64=>fun args=>do
    let (x, y, c) ← Extern.MathBitsCarry.three "Add64" args
    pure (Extern.MathBitsCarry.pair ((x+y+c)%Extern.MathBitsCarry.m64) ((x+y+c)/Extern.MathBitsCarry.m64))
  | .sub64=>fun args=>do
    let (x, y, b) ← Extern.MathBitsCarry.three "Sub64" args
    pure (Extern.MathBitsCarry.pair ((x+Extern.MathBitsCarry.m64-y-b)%Extern.MathBitsCarry.m64) (if x<y+b then 1 else 0))
  | .idxb=>Extern.BytealgIndexByte.indexByte
  | .cntb=>Extern.BytealgCount.count
def rJ(k:jg)(args:List AV) :List de :=
  match k,args with
  | .sqrt,[.flt _ x]=>[⟨.flt false (pP x),[],[]⟩]
  | .bits,[.flt true x]=>[⟨.int .u64 x,[],[]⟩]
  | .bits,[.flt false x]=>[⟨.int .u64 x,[],[!isNaN x]⟩,⟨.nan,[],[isNaN x]⟩]
  | .frombits,[.int .u64 n]=>[⟨.flt true n.toNat,[],[]⟩]
  | .add64,[.int _ x,.int _ y,.int _ c]=>[⟨.tup [.int .u64 (((x.toNat+y.toNat+c.toNat)%18446744073709551616:Nat):Int),.int .u64 (((x.toNat+y.toNat+c.toNat)/18446744073709551616:Nat):Int)],[],[gX c.toNat 1]⟩]
  | .sub64,[.int _ x,.int _ y,.int _ c]=>[⟨.tup [.int .u64 (((x.toNat+18446744073709551616-y.toNat-c.toNat)%18446744073709551616:Nat):Int),.int .u64 (bif Nat.blt x.toNat (y.toNat+c.toNat) then 1 else 0)],[],[gX c.toNat 1]⟩]
  | .idxb,[.str s,.int .u8 c]=>[⟨.int .i64 (rH s c),[],[]⟩]
  | .cntb,[.str s,.int .u8 c]=>[⟨.int .i64 (rI s c),[],[]⟩]
  | _,_=>[]
abbrev a7:=Option (List Nat)
structure qb where
  mask:List Bool
  keep:Bool
abbrev aS:=FuncId→List ae→List AV→a7→Option (iJ×List Bool×a7)
structure gz where
  P:Program
  ext:FuncId→Option jg
  mode:FuncId→qb
  wrap:Bool
structure gz.Ok (C:gz):Prop where
  mixed:C.P.follows .mixedOrders=true
  enter:∀ (f:FuncId) (fn:Func) (args:Array Value) (w:World),C.P.funcs[f]? = some fn→fn.body.isSome=true→(callFunc f args).run C.P w=.ok (.enter f args) w
  ext:∀ (f:FuncId) (k:jg) (args:Array Value) (w:World),C.ext f=some k→(callFunc f args).run C.P w=(do pure (Next.value (←fb k args)):Sem Next).run C.P w
def j1(P:Program)(run:aS) :Prop :=
  ∀ f lent args p r obs p',run f lent args p=some (r,obs,p')→ac obs→∀ (ρ:aa) (w:World) (us:List Value),bv ρ w lent→aG ρ w args us →
    (∃ fn,P.funcs[f]? = some fn∧fn.body.isSome=true)∧Calls P f us.toArray w fun e w'=>∃ u,e=.returned u∧bj ρ.live w w'∧r.Holds ρ w w' lent.length u
structure rZ where
  v:AV
  sets:List (Nat×Option ae)
  reads:List Nat
  obs:List Bool
  path:a7
def rK:List Bool→Bool
  | []=>true
  | b::l=>b&&rK l
def fG(alts:List de)(p:a7) :Option (de×a7) :=
  match alts,p with
  | [a],p=>some (a,p)
  | alts,none=>(alts.find? fun a=>rK a.obs).map fun a=>(a,none)
  | alts,some (k::r)=>(alts[k]?).map fun a=>(a,some r)
  | _,_=>none
theorem dL{alts:List de}{p p':a7}{a:de}(h:fG alts p=some (a,p')) :a∈alts:=by
  unfold fG at h
  split at h
  · simp only [Option.some.injEq,Prod.mk.injEq] at h;rw [←h.1];simp
  · simp only [Option.map_eq_some_iff,Prod.mk.injEq] at h;obtain ⟨b,h1,rfl,_⟩:=h;exact List.mem_of_find?_eq_some h1
  · simp only [Option.map_eq_some_iff,Prod.mk.injEq] at h;obtain ⟨b,h1,rfl,_⟩:=h;exact List.mem_of_getElem? h1
  · cases h
def aX:Nat:=100000
mutual
def md:AV→List Nat
  | .ptr b ..=>[b]
  | .sl b ..=>[b]
  | .fn _ l1 l2=>bc l1++bc l2
  | .agg l | .tup l=>bc l
  | .iface _ v=>md v
  | _=>[]
def bc:List AV→List Nat
  | []=>[]
  | v::l=>md v++bc l
end
def qX:ae→List Nat
  | .vs l=>bc l
  | _=>[]
def eA:List Nat→Nat→Bool
  | [],_=>false
  | k::l,b=>bif Nat.beq k b then true else eA l b
def bQ(g:Nat→Option ae) :Nat→List Nat→List Nat→List Nat
  | 0,_,acc=>acc
  | _+1,[],acc=>acc
  | n+1,b::t,acc=>match eA acc b with
    | true=>bQ g n t acc
    | false=>bQ g n ((match g b with | some d=>qX d | none=>[])++t) (acc++[b])
def co:List Bool→List AV→List AV
  | true::m,v::l=>v::co m l
  | false::m,_::l=>co m l
  | _,_=>[]
def bp(σ:Nat→Option Nat)(g:Nat→Option ae) :List Bool→List AV→List AV×List Nat
  | _,[]=>([],[])
  | true::m,v::l=>let s:=bp σ g m l;(jy σ v::s.1,s.2)
  | false::m,v::l=>let r:=iI σ g aX v;let s:=bp σ g m l;(r.1::s.1,r.2++s.2)
  | [],v::l=>let r:=iI σ g aX v;let s:=bp σ g [] l;(r.1::s.1,r.2++s.2)
theorem dM{ρ τ:aa}{w:World}{h:an}{m:Nat}{σ:Nat→Option Nat}(hh:HR ρ w h m)(L:mZ ρ τ w h σ) :∀ (k:List Bool) {l:List AV} {c:List Value},aG ρ w l c→aG τ w (bp σ (ag h) k l).1 c
  | k,[],c,hv=>by cases hv;cases k<;>exact .nil
  | true::k,v::l,c,hv=>by cases hv with | cons _ u _ c' h1 h2=>exact .cons _ _ _ _ (bA L h1) (dM hh L k h2)
  | false::k,v::l,c,hv=>by cases hv with | cons _ u _ c' h1 h2=>exact .cons _ _ _ _ (l8 hh L _ h1) (dM hh L k h2)
  | [],v::l,c,hv=>by cases hv with | cons _ u _ c' h1 h2=>exact .cons _ _ _ _ (l8 hh L _ h1) (dM hh L [] h2)
def eB:List Nat→Bool
  | []=>true
  | k::l=>bif eA l k then false else eB l
def cp(g:Nat→Option ae)(nid:Nat) :List Nat→Bool
  | []=>true
  | b::l=>(match g b with | some _=>Nat.blt b nid||Nat.ble (nid+cV) b | none=>false)&&cp g nid l
theorem gA:∀ {l:List Nat} {i b:Nat},l[i]? = some b→eA l b=true
  | [],i,b,h=>by simp at h
  | k::l,0,b,h=>by simp at h;subst h;simp [eA,cA]
  | k::l,i+1,b,h=>by
    simp only [eA]
    cases Nat.beq k b with
    | true=>rfl
    | false=>simp only [cond_false];exact gA (i:=i) (by simpa using h)
theorem eC:∀ {l:List Nat},eB l=true→∀ {i j b:Nat},l[i]? = some b→l[j]? = some b→i=j
  | [],_,i,j,b,h1,_=>by simp at h1
  | k::l,hn,i,j,b,h1,h2=>by
    simp only [eB] at hn
    cases e:eA l k with
    | true=>rw [e] at hn;cases hn
    | false =>
      rw [e] at hn;simp only [cond_false] at hn
      cases i with
      | zero =>
        cases j with
        | zero=>rfl
        | succ j=>simp at h1 h2;subst h1;rw [gA h2] at e;cases e
      | succ i =>
        cases j with
        | zero=>simp at h1 h2;subst h2;rw [gA h1] at e;cases e
        | succ j=>have:=eC hn (i:=i) (j:=j) (b:=b) (by simpa using h1) (by simpa using h2);omega
theorem dY{g:Nat→Option ae}{nid:Nat} :∀ {l:List Nat},cp g nid l=true→∀ b,b∈l→(∃ d,g b=some d)∧(b<nid∨nid+cV≤b)
  | [],_,b,hb=>by cases hb
  | k::l,h,b,hb=>by
    simp only [cp,Bool.and_eq_true] at h
    rcases List.mem_cons.1 hb with rfl | q
    · have:=h.1
      cases e:g b with
      | none=>rw [e] at this;cases this
      | some d =>
        rw [e] at this
        simp only [Bool.or_eq_true] at this
        refine ⟨⟨d,rfl⟩,this.imp (fun q=>by simpa [Nat.blt_eq] using q) (fun q=>Nat.le_of_ble_eq_true q)⟩
    · exact dY h.2 b q
def g8(e:Operand→AV)(f:Operand)(args:Array Operand) :Option (FuncId×List AV) :=
  match e f with
  | .fn (.func fid) first caps=>some (fid,first++args.toList.map e++caps)
  | _=>none
def lu(C:gz)(run:aS)(g:Nat→Option ae)(nid:Nat)(p:a7)(fid:FuncId)(vals:List AV) :Option rZ :=
  let bs:=bQ g aX (bc (co (C.mode fid).mask vals)) []
  let la:=bp (bL bs 0) g (C.mode fid).mask vals
  bif eB bs&&cp g nid bs then
    match run fid (cZ (bL bs 0) g bs) la.1 p with
    | some (r,obs,p') =>
      bif Nat.ble r.own.length (bs.length+cV) then
        some { v:=bP (aK bs nid) r.v,sets:=bo (aK bs nid) 0 r.own,reads:=bs++la.2,obs,path:=p' }
      else none
    | none=>none
  else none
def rL(C:gz)(run:aS)(e:Operand→AV)(g:Nat→Option ae)(nid:Nat)(p:a7)(op:Op) :Option rZ :=
  match iA C.wrap C.P e op with
  | some (v,obs)=>some { v,sets:=[],reads:=[],obs,path:=p }
  | none =>
    match op with
    | .load t x=>(gQ C.P g t (e x)).map fun r=>{ v:=r.1,sets:=[],reads:=r.2.2,obs:=r.2.1,path:=p }
    | .convert t d x=>(pm C.P g t d (e x)).map fun r=>{ v:=.str r.1,sets:=[],reads:=r.2.2,obs:=r.2.1,path:=p }
    | .slice t x lo hi none=>(iL C.P g t (e x) (lo.map e) (hi.map e)).map fun r=>{ v:=r.1,sets:=[],reads:=r.2.2,obs:=r.2.1,path:=p }
    | .store t x v=>(iD C.P g t (e x) (e v)).map fun r=>{ v:=.any,sets:=[(r.1,some r.2.1)],reads:=[r.1],obs:=r.2.2,path:=p }
    | .lookup t x k cok=>(fG (mc C.P t (e x) (e k) cok) p).map fun r=>{ v:=r.1.v,sets:=[],reads:=[],obs:=r.1.obs,path:=r.2 }
    | .alloc t=>(nW C.P nid t).map fun r=>{ v:=r.1,sets:=[(nid,some r.2)],reads:=[],obs:=[],path:=p }
    | .box t x=>(rD C.P nid t (e x)).map fun r=>{ v:=r.1,sets:=[(nid,some r.2)],reads:=[],obs:=[],path:=p }
    | .makeSlice t l c=>(pX C.P nid t (e l) (e c)).map fun r=>{ v:=r.1,sets:=[(nid,some r.2.1)],reads:=[],obs:=r.2.2,path:=p }
    | .build t parts=>(nZ C.P t (parts.toList.map fun x=>(x.1,e x.2))).map fun v=>{ v,sets:=[],reads:=[],obs:=[],path:=p }
    | .buildSlice t len parts=>(e7 C.P nid t len (parts.toList.map fun x=>(x.1,e x.2))).map fun r=>{ v:=r.1,sets:=[(nid,some r.2)],reads:=[],obs:=[],path:=p }
    | .call { callee:=.builtin .append,args,argTypes } =>
      match args.toList,argTypes.toList with
      | [s,x],[t,t']=>bif Nat.beq t t' then
          match fD C.P g nid t (e s) (e x) with
          | some (alts,rs)=>(fG alts p).map fun r=>{ v:=r.1.v,sets:=r.1.sets,reads:=rs,obs:=r.1.obs,path:=r.2 }
          | none=>none
        else match fE C.P g nid t t' (e s) (e x) with
          | some (alts,rs)=>(fG alts p).map fun r=>{ v:=r.1.v,sets:=r.1.sets,reads:=rs,obs:=r.1.obs,path:=r.2 }
          | none=>none
      | _,_=>none
    | .call { callee:=.builtin .copy,args,argTypes } =>
      match args.toList,argTypes.toList with
      | [s,x],[t,_]=>(lr C.P g t (e s) (e x)).map fun r=>{ v:=.int .i64 (r.1:Int),sets:=[(r.2.1,some r.2.2.1)],reads:=r.2.2.2.2,obs:=r.2.2.2.1,path:=p }
      | _,_=>none
    | .call { callee:=.value f,args,.. } =>
      match g8 e f args with
      | some (fid,l) =>
        match C.ext fid with
        | some k=>(fG (rJ k l) p).map fun r=>{ v:=r.1.v,sets:=[],reads:=[],obs:=r.1.obs,path:=r.2 }
        | none=>lu C run g nid p fid l
      | none=>none
    | _=>none
theorem m7{x:Nat}(h:isNaN x=true) :FloatKind.f64.format.sqrt x=none:=by
  obtain ⟨s,t,e⟩:=eX h
  simp [Ieee.Format.sqrt,e,Ieee.Datum.root]
theorem j2{ρ:aa}{w:World}{k1 k2 k3:IntKind}{x y z:Int}{c:Array Value}(hl:aG ρ w [.int k1 x,.int k2 y,.int k3 z] c.toList) :c = #[.int k1 x,.int k2 y,.int k3 z]:=by
  have h:c.toList=[.int k1 x,.int k2 y,.int k3 z]:=by
    generalize c.toList=l at hl
    cases hl with | cons _ u1 _ _ h1 t1 =>
    cases t1 with | cons _ u2 _ _ h2 t2 =>
    cases t2 with | cons _ u3 _ _ h3 t3 =>
    cases t3;cases h1;cases h2;cases h3;rfl
  rw [←c.toArray_toList,h]
theorem lw{P:Program}{w:World}(name:String){k1 k2 k3:IntKind}{x y z:Int}(hz:z.toNat≤1) :(Extern.MathBitsCarry.three name #[.int k1 x,.int k2 y,.int k3 z]).run P w=.ok (x.toNat,y.toNat,z.toNat) w:=by
  have e:Extern.MathBitsCarry.three name #[.int k1 x,.int k2 y,.int k3 z]=(do
      if z.toNat > 1 then unsupported (.noEntry ("extern/math/bits." ++ name ++ ": a carry that is neither 0 nor 1"))
      pure (x.toNat,y.toNat,z.toNat):Sem (Nat×Nat×Nat)):=rfl
  rw [e,if_neg (by omega)]
  rfl
theorem oc{P:Program}{ρ:aa}{w:World}{k:jg}{l:List AV}{c:Array Value}{r:de}(hl:aG ρ w l c.toList)(h:r∈rJ k l)(ho:ac r.obs) :bf P ρ w (fb k c) r.v:=by
  have one:∀ {a:AV},aG ρ w [a] c.toList→∃ u,c = #[u]∧VR ρ w a u:=by
    intro a h
    generalize hc:c.toList=l at h
    cases h with | cons _ u _ _ h1 h2=>cases h2;exact ⟨u,by rw [←hc],h1⟩
  unfold rJ at h
  split at h
  · simp only [List.mem_singleton] at h;subst h
    obtain ⟨u,rfl,hu⟩:=one hl
    cases hu with | flt _ _ y hf =>
    rename_i ex x
    have es:fb .sqrt #[.float .f64 y]=(match FloatKind.f64.format.sqrt y with
      | some r=>pure (.float .f64 r)
      | none=>do pure (.float .f64 (←choose (.nanBits .f64 y y)))):=rfl
    rw [es]
    have e:FloatKind.f64.format.sqrt y=FloatKind.f64.format.sqrt x:=by
      rcases hf with rfl | ⟨_,h2,h3⟩
      · rfl
      · rw [m7 h2,m7 h3]
    cases hr:FloatKind.f64.format.sqrt y with
    | some r=>exact ⟨.float .f64 r,w.drawn,rfl,.flt _ _ _ (.inl (by rw [e] at hr;simp [pP,hr]))⟩
    | none=>exact ⟨_,w.drawn+1,rfl,.flt _ _ _ (.inr ⟨rfl,by rw [e] at hr;simp [pP,hr,jF],ov y y _⟩)⟩
  · simp only [List.mem_singleton] at h;subst h
    obtain ⟨u,rfl,hu⟩:=one hl
    cases hu with | flt _ _ y hf =>
    rcases hf with rfl | ⟨h1,_⟩
    · exact ⟨_,w.drawn,rfl,.int _ _⟩
    · cases h1
  · simp only [List.mem_cons,List.not_mem_nil,or_false] at h
    obtain ⟨u,rfl,hu⟩:=one hl
    cases hu with | flt _ _ y hf =>
    rcases h with rfl | rfl
    · rcases hf with rfl | ⟨_,h2,_⟩
      · exact ⟨_,w.drawn,rfl,.int _ _⟩
      · have:=ho.1;rw [h2] at this;cases this
    · have hy:isNaN y=true:=by
        rcases hf with rfl | ⟨_,_,h3⟩
        · exact ho.1
        · exact h3
      exact ⟨_,w.drawn,rfl,.nan _ hy⟩
  · simp only [List.mem_singleton] at h;subst h
    obtain ⟨u,rfl,hu⟩:=one hl
    cases hu
    exact ⟨_,w.drawn,rfl,.flt _ _ _ (.inl rfl)⟩
  · simp only [List.mem_singleton] at h;subst h
    have hz:=ho.1
    replace hz:=of_decide_eq_true hz
    cases j2 hl
    refine ⟨_,w.drawn,?_,.tup _ #[_,_] (.cons _ _ _ _ (.int _ _) (.cons _ _ _ _ (.int _ _) .nil))⟩
    simp only [fb, Sem.run_bind, lw "Add64" hz, Result.andThen_ok]
    rfl
  · simp only [List.mem_singleton] at h;subst h
    have hz:=ho.1
    replace hz:=of_decide_eq_true hz
    cases j2 hl
    refine ⟨_,w.drawn,?_,.tup _ #[_,_] (.cons _ _ _ _ (.int _ _) (.cons _ _ _ _ (.int _ _) .nil))⟩
    simp only [fb, Sem.run_bind, lw "Sub64" hz, Result.andThen_ok]
    rename_i x _ y _ z
    have e:(bif Nat.blt x.toNat (y.toNat+z.toNat) then (1:Int) else 0)=Int.ofNat (if x.toNat<y.toNat+z.toNat then 1 else 0):=by
      by_cases q:x.toNat<y.toNat+z.toNat
      · rw [if_pos q,show Nat.blt x.toNat (y.toNat+z.toNat)=true by rw [Nat.blt_eq];exact q];rfl
      · rw [if_neg q]
        have:Nat.blt x.toNat (y.toNat+z.toNat)=false:=by
          cases h:Nat.blt x.toNat (y.toNat+z.toNat) with
          | false=>rfl
          | true=>rw [Nat.blt_eq] at h;exact absurd h q
        rw [this];rfl
    rw [e]
    rfl
  · simp only [List.mem_singleton] at h;subst h
    rename_i s b
    obtain ⟨u,rfl⟩:∃ u,c=u:=⟨c,rfl⟩
    have hc:c = #[.string s,.int .u8 b]:=by
      have h:c.toList=[.string s,.int .u8 b]:=by
        generalize c.toList=l at hl
        cases hl with | cons _ u1 _ _ h1 t1 =>
        cases t1 with | cons _ u2 _ _ h2 t2 =>
        cases t2;cases h1;cases h2;rfl
      rw [←c.toArray_toList,h]
    subst hc
    refine ⟨.int .i64 (rH s b),w.drawn,?_,.int _ _⟩
    have e:fb .idxb #[.string s,.int .u8 b]=(match (List.range s.size).find? fun i=>s[i]! == b.toNat.toUInt8 with
      | some i=>pure (goInt i)
      | none=>pure (goInt (-1))):=rfl
    rw [e]
    unfold rH
    cases (List.range s.size).find? fun i=>s[i]! == b.toNat.toUInt8<;>rfl
  · simp only [List.mem_singleton] at h;subst h
    rename_i s b
    have hc:c = #[.string s,.int .u8 b]:=by
      have h:c.toList=[.string s,.int .u8 b]:=by
        generalize c.toList=l at hl
        cases hl with | cons _ u1 _ _ h1 t1 =>
        cases t1 with | cons _ u2 _ _ h2 t2 =>
        cases t2;cases h1;cases h2;rfl
      rw [←c.toArray_toList,h]
    subst hc
    refine ⟨.int .i64 (rI s b),w.drawn,?_,.int _ _⟩
    have e:fb .cntb #[.string s,.int .u8 b]=(do
      let b' ← Extern.Bytes.bytesOf (.string s)
      let c ← Extern.Bytes.asByte (.int .u8 b)
      pure (goInt (b'.foldl (fun n x=>if x==c then n+1 else n) (0:Nat)))):=rfl
    rw [e]
    simp [Extern.Bytes.bytesOf,Extern.Bytes.asByte,Sem.run_bind,Sem.run_pure,goInt,rI]
  · simp at h
theorem po{C:gz}(hC:C.Ok){run:aS}(hrun:j1 C.P run){e:Operand→AV}{h:an}{nid:Nat}{p:a7}{o:Oper}{r:rZ}(hr:rL C run e (ag h) nid p o.op=some r)(ho:ac r.obs) 
    {ρ:aa} {w:World} {n:Nat} (hh:HR ρ w h n) (hid:∀ x,nid≤x→x<nid+cV→¬ ρ.ok x) (hn0:nid+cV≤n) {a:Act} (hops:∀ x,VR ρ w (e x) (a.eval x)) {next:Act→World→Prop} {Q:Exit→Act→World→Prop}
    (hK:∀ ρ' w' u,cg ρ ρ' w→bj ρ.live w w'→HR ρ' w' (au r.sets h) n→VR ρ' w' r.v u→(∀ b,ρ'.ok b→ρ.ok b∨(nid≤b∧b<nid+cV))→next (a.put o.dst u) w'):o.wp C.P a w next Q:=by
  have hS:0<cV:=by decide
  have hb : ¬ ρ.ok nid:=hid nid (Nat.le_refl _) (by omega)
  have hn:nid<n:=by omega
  have one:∀ {b:Nat},b=nid→nid≤b∧b<nid+cV:=fun e=>by omega
  have plain:∀ {v:AV},(∃ u k,(execOp a.eval o).run C.P w=.ok (.value u) { w with drawn:=k }∧VR ρ w v u)→r.v=v→r.sets=[]→o.wp C.P a w next Q:=by
    intro v ⟨u,k,h1,h2⟩ hv hs
    unfold Oper.wp
    rw [h1]
    have E:=cg.refl ρ w
    have W:=bj.drawn ρ.live w k
    exact hK ρ _ u E W (by rw [hs];exact hh.drawn k) (by rw [hv];exact h2.mono E W) (fun b q=>.inl q)
  have made:∀ {s:Sem Value} {v:AV} {h':an},(execOp a.eval o).run C.P w=(do pure (Next.value (←s)):Sem Next).run C.P w→eM C.P ρ w h n nid s v h'→r.v=v→au r.sets h=h'→o.wp C.P a w next Q:=by
    intro s v h' he ⟨u,w',ρ',h1,h2,h3,h4,h5,h6⟩ hv hs
    unfold Oper.wp
    rw [he,ap h1]
    exact hK ρ' w' u h2 h3 (by rw [hs];exact h4) (by rw [hv];exact h5) (fun b q=>(h6 b q).imp id one)
  unfold rL at hr
  split at hr
  · rename_i v obs hp
    simp only [Option.some.injEq] at hr;subst hr
    exact plain (lQ hops hp ho) rfl rfl
  · rename_i hpo
    clear hpo
    generalize hop:o.op=op at hr
    split at hr
    · rename_i t x
      simp only [Option.map_eq_some_iff] at hr
      obtain ⟨⟨v,obs,rs⟩,hl,rfl⟩:=hr
      obtain ⟨u,k,h1,h2⟩:=mM (P:=C.P) hh (hops x) hl ho
      exact plain ⟨u,k,by simp only [execOp,hop];exact ap h1,h2⟩ rfl rfl
    · rename_i t d x
      simp only [Option.map_eq_some_iff] at hr
      obtain ⟨⟨z,obs,rs⟩,hc,rfl⟩:=hr
      exact plain ⟨.string z,w.drawn,by simp only [execOp,hop];exact ap (oa hh (hops x) hc ho),.str _⟩ rfl rfl
    · rename_i t x lo hi
      simp only [Option.map_eq_some_iff] at hr
      obtain ⟨⟨v,obs,rs⟩,hc,rfl⟩:=hr
      obtain ⟨u,k,q1,q2⟩:=ma (P:=C.P) hh hops (hops x) hc ho
      exact plain ⟨u,k,by simp only [execOp,hop];exact ap q1,q2⟩ rfl rfl
    · rename_i t x v
      simp only [Option.map_eq_some_iff] at hr
      obtain ⟨⟨b,d,obs⟩,hl,rfl⟩:=hr
      obtain ⟨w',h1,h2,h3⟩:=lR (P:=C.P) hh (hops x) (hops v) hl ho
      unfold Oper.wp
      have:(execOp a.eval o).run C.P w=.ok .skip w':=by
        simp only [execOp,hop];rw [Sem.run_bind,h1];rfl
      rw [this]
      exact hK ρ w' undef (cg.refl _ _) h3 h2 (.any _) (fun b q=>.inl q)
    · rename_i t x k cok
      simp only [Option.map_eq_some_iff] at hr
      obtain ⟨⟨a,_⟩,hl,rfl⟩:=hr
      obtain ⟨u,kk,q1,q2⟩:=kX (P:=C.P) (hops x) (hops k) (dL hl) ho
      exact plain ⟨u,kk,by simp only [execOp,hop];exact ap q1,q2⟩ rfl rfl
    · rename_i t
      simp only [Option.map_eq_some_iff] at hr
      obtain ⟨⟨v,d⟩,hl,rfl⟩:=hr
      exact made (by simp only [execOp,hop]) (lU hh hb hn hl true) rfl rfl
    · rename_i t x
      simp only [Option.map_eq_some_iff] at hr
      obtain ⟨⟨v,d⟩,hl,rfl⟩:=hr
      exact made (by simp only [execOp,hop]) (nX hh hb hn (hops x) hl) rfl rfl
    · rename_i t l c
      simp only [Option.map_eq_some_iff] at hr
      obtain ⟨⟨v,d,obs⟩,hl,rfl⟩:=hr
      exact made (by simp only [execOp,hop]) (mO hh hb hn (hops l) (hops c) hl ho) rfl rfl
    · rename_i t parts
      simp only [Option.map_eq_some_iff] at hr
      obtain ⟨v,hl,rfl⟩:=hr
      have h1:(parts.toList.map fun x=>(x.1,e x.2)).map Prod.fst=(parts.map fun (x:Nat×Operand)=>(x.1,a.eval x.2)).toList.map Prod.fst:=by simp
      have h2:aG ρ w ((parts.toList.map fun x=>(x.1,e x.2)).map Prod.snd) ((parts.map fun (x:Nat×Operand)=>(x.1,a.eval x.2)).toList.map Prod.snd):=by
        have:=aG.map hops (parts.toList.map Prod.snd)
        simpa [Function.comp_def] using this
      obtain ⟨u,k,q1,q2⟩:=lZ (P:=C.P) h1 h2 hl
      exact plain ⟨u,k,by simp only [execOp,hop];exact ap q1,q2⟩ rfl rfl
    · rename_i t len parts
      simp only [Option.map_eq_some_iff] at hr
      obtain ⟨⟨v,d⟩,hl,rfl⟩:=hr
      have h1:(parts.toList.map fun x=>(x.1,e x.2)).map Prod.fst=(parts.map fun (x:Nat×Operand)=>(x.1,a.eval x.2)).toList.map Prod.fst:=by simp
      have h2:aG ρ w ((parts.toList.map fun x=>(x.1,e x.2)).map Prod.snd) ((parts.map fun (x:Nat×Operand)=>(x.1,a.eval x.2)).toList.map Prod.snd):=by
        have:=aG.map hops (parts.toList.map Prod.snd)
        simpa [Function.comp_def] using this
      exact made (by simp only [execOp,hop]) (gV hh hb hn h1 h2 hl) rfl rfl
    · rename_i args argTypes
      split at hr
      case h_2=>cases hr
      rename_i s x t t' e1 e2
      cases ht:Nat.beq t t' with
      | false =>
        rw [ht] at hr
        simp only [cond_false] at hr
        split at hr
        case h_2=>cases hr
        rename_i alts rs ha
        simp only [Option.map_eq_some_iff] at hr
        obtain ⟨⟨alt,p'⟩,hp,rfl⟩:=hr
        have ea:args = #[s,x]:=by rw [←e1]
        have et:argTypes = #[t,t']:=by rw [←e2]
        subst ea;subst et
        have hm:=kV hh hb hn (hops s) (hops x) ha (dL hp) ho o.type
        refine made (s:=Builtin.append_ #[t,t'] o.type #[a.eval s,a.eval x]) ?_ hm rfl rfl
        simp only [execOp,hop]
        rw [a8 a.eval .append #[s,x] #[t,t'] o.type _ rfl]
        simp [invoke,builtin]
      | true =>
      rw [ht] at hr
      have:=Nat.eq_of_beq_eq_true ht
      subst this
      simp only [cond_true] at hr
      split at hr
      case h_2=>cases hr
      rename_i alts rs ha
      simp only [Option.map_eq_some_iff] at hr
      obtain ⟨⟨alt,p'⟩,hp,rfl⟩:=hr
      have ea:args = #[s,x]:=by rw [←e1]
      have et:argTypes = #[t,t]:=by rw [←e2]
      subst ea;subst et
      have hm:=kU hh hb hn (hops s) (hops x) ha (dL hp) ho o.type
      refine made (s:=Builtin.append_ #[t,t] o.type #[a.eval s,a.eval x]) ?_ hm rfl rfl
      simp only [execOp,hop]
      rw [a8 a.eval .append #[s,x] #[t,t] o.type _ rfl]
      simp [invoke,builtin]
    · rename_i args argTypes
      split at hr
      case h_2=>cases hr
      rename_i s x t t' e1 e2
      simp only [Option.map_eq_some_iff] at hr
      obtain ⟨⟨k,b,d,obs,rs⟩,hc,rfl⟩:=hr
      have ea:args = #[s,x]:=by rw [←e1]
      have et:argTypes = #[t,t']:=by rw [←e2]
      subst ea;subst et
      obtain ⟨w',h1,h2,h3⟩:=m5 (P:=C.P) (T:=o.type) (t':=t') hh (hops s) (hops x) hc ho
      refine made (s:=Builtin.copy_ #[t,t'] o.type #[a.eval s,a.eval x]) ?_ ⟨_,w',ρ,h1,cg.refl _ _,h3,h2,.int _ _,fun b q=>.inl q⟩ rfl rfl
      simp only [execOp,hop]
      rw [a8 a.eval .copy #[s,x] #[t,t'] o.type _ rfl]
      simp [invoke,builtin]
    · rename_i f args ats
      split at hr
      case h_2=>cases hr
      rename_i fid l hca
      unfold g8 at hca
      split at hca
      case h_2=>cases hca
      rename_i fid' first caps hef
      simp only [Option.some.injEq,Prod.mk.injEq] at hca
      obtain ⟨rfl,rfl⟩:=hca
      have hf:=hops f
      rw [hef] at hf
      generalize hgf:a.eval f=gf at hf
      cases hf with | fn _ _ _ c1 c2 v1 v2 =>
      have hargs:aG ρ w (first++args.toList.map e++caps) (c1++args.map a.eval++c2).toList:=by
        simp only [Array.toList_append,Array.toList_map]
        exact aG.append v2 (aG.append (aG.map hops args.toList) v1)
      have hex:∀ w0,(execOp a.eval o).run C.P w0=(callFunc fid' (c1++args.map a.eval++c2)).run C.P w0:=by
        intro w0
        simp only [execOp,hop,resolve,hgf,Deferred.ofValue]
        rfl
      split at hr
      · rename_i k hk
        simp only [Option.map_eq_some_iff] at hr
        obtain ⟨⟨a,_⟩,hl,rfl⟩:=hr
        obtain ⟨u,kk,q1,q2⟩:=oc (P:=C.P) hargs (dL hl) ho
        refine plain ⟨u,kk,?_,q2⟩ rfl rfl
        rw [hex,hC.ext fid' k _ w hk]
        exact ap q1
      · unfold lu at hr
        simp only at hr
        generalize hbs:bQ (ag h) aX (bc (co (C.mode fid').mask (first++args.toList.map e++caps))) []=bs at hr
        cases hlen:(eB bs&&cp (ag h) nid bs) with
        | false=>rw [hlen] at hr;cases hr
        | true =>
        rw [hlen] at hr
        simp only [cond_true] at hr
        rw [Bool.and_eq_true] at hlen
        split at hr
        case h_2=>cases hr
        rename_i r' obs p' hl
        cases hle:Nat.ble r'.own.length (bs.length+cV) with
        | false=>rw [hle] at hr;cases hr
        | true =>
        rw [hle] at hr
        simp only [cond_true,Option.some.injEq] at hr;subst hr
        have hLs:m4 h bs:=⟨fun q1 q2=>eC hlen.1 q1 q2,fun b q=>(dY hlen.2 b q).1⟩
        have L:=oH hh hLs
        have hcall:=hrun fid' _ _ p r' obs p' hl ho
        obtain ⟨⟨fn,hfn,hbody⟩,hcalls⟩:=hcall (ρ.lend bs) w _ (n9 hh hLs) (dM hh L _ hargs)
        unfold Oper.wp
        rw [hex,hC.enter fid' fn _ w hfn hbody]
        simp only [Oper.upon]
        have hl2:(c1++args.map a.eval++c2).toList.toArray=c1++args.map a.eval++c2:=by simp
        rw [hl2] at hcalls
        refine hcalls.mono ?_
        rintro e' w' ⟨u,rfl,W,ρ',E,hbk,H,hv⟩
        rw [cM] at hbk
        obtain ⟨q1,q2,q3,q4,q5⟩:=p8 hh hLs hid (fun b q=>(dY hlen.2 b q).2) hn0 (Nat.le_of_ble_eq_true hle) W E hbk H hv
        exact hK _ w' u q1 q2 q3 q4 q5
    · cases hr
structure fH where
  v:AV
  sets:List (Nat×Option ae)
  reads:List Nat
def fI(ops:Array Oper)(j:Nat) :Option Nat:=(ops[j]?).bind (·.dst)
def fJ(ops:Array Oper)(o:Oper)(T:List AV) :Option Bool :=
  match o.guard with
  | none=>some true
  | some (j,want) =>
    match fI ops j with
    | none=>some false
    | some d =>
      match T[d]? with
      | some (.bool true b)=>some (b==want)
      | some (.tup _) | none=>some false
      | _=>none
def oK(ops:Array Oper)(i:Nat) :Bool:=ops.toList.any fun o=>match o.guard with | some (j,_)=>Nat.beq j i | none=>false
def jz(v:AV)(p:a7) :Option (Bool×List Bool×a7) :=
  match v,p with
  | .bool true b,p=>some (b,[],p)
  | .bool false b,none=>some (b,[],none)
  | .bool false b,some (k::r)=>some (Nat.beq k 1,[b==Nat.beq k 1],some r)
  | _,_=>none
theorem j3{ρ:aa}{w:World}{v:AV}{u:Value}{p p':a7}{b:Bool}{obs:List Bool}(hv:VR ρ w v u)(h:jz v p=some (b,obs,p'))(ho:ac obs) :u=.bool b:=by
  unfold jz at h
  split at h
  · simp only [Option.some.injEq,Prod.mk.injEq] at h;obtain ⟨rfl,rfl,rfl⟩:=h;cases hv;rfl
  · simp only [Option.some.injEq,Prod.mk.injEq] at h;obtain ⟨rfl,rfl,rfl⟩:=h;cases hv;rfl
  · simp only [Option.some.injEq,Prod.mk.injEq] at h;obtain ⟨rfl,rfl,rfl⟩:=h;cases hv
    have:=ho.1
    simp only [beq_iff_eq] at this
    rw [this]
  · cases h
def i7(ops:Array Oper)(i:Nat)(v:AV)(p:a7) :Option (AV×List Bool×a7) :=
  bif oK ops i then (jz v p).map fun r=>(.bool true r.1,r.2.1,r.2.2) else some (v,[],p)
def g9(C:gz)(run:aS)(ops:Array Oper)(n0 i:Nat)(o:Oper)(T:List AV)(h:an)(p:a7) :Option (fH×List Bool×a7) :=
  match fJ ops o T with
  | none=>none
  | some false=>some ({ v:=.tup [],sets:=[],reads:=[] },[],p)
  | some true =>
    match rL C run (qT T) (ag h) (n0+i*cV) p o.op with
    | none=>none
    | some r =>
      match i7 ops i r.v r.path with
      | none=>none
      | some (v,obs,p')=>some ({ v,sets:=r.sets,reads:=r.reads },r.obs++obs,p')
def hF(T:List AV)(d:Option Nat)(v:AV) :List AV :=
  match d with
  | some d=>T.set d v
  | none=>T
theorem oL{ρ:aa}{w:World}{T:List AV}{a:Act}{v:AV}{u:Value}(h:aG ρ w T a.tmps.toList)(hv:VR ρ w v u)(d:Option Nat) :aG ρ w (hF T d v) (a.put d u).tmps.toList:=by
  cases d with
  | none=>exact h
  | some d=>simp only [hF,Act.put,Array.toList_setIfInBounds];exact h.set hv d
theorem hH{ρ:aa}{w:World}{ops:Array Oper}{o:Oper}{T:List AV}{a:Act}(h:aG ρ w T a.tmps.toList){b:Bool}(hw:fJ ops o T=some b) :Region.wanted o (yielded ops a.tmps)=b:=by
  unfold fJ at hw
  unfold Region.wanted
  split at hw
  · rename_i hg;cases hw;simp [hg]
  · rename_i j want hg
    simp only [hg]
    unfold fI at hw
    split at hw
    · rename_i hs;cases hw;simp [yielded,hs]
    · rename_i d hs
      split at hw
      · rename_i b' hT
        cases hw
        obtain ⟨u,h1,h2⟩:=h.get d _ hT
        rw [Array.getElem?_toList] at h1
        cases h2
        simp only [yielded,hs,Option.bind_some,h1]
        cases b'<;>cases want<;>rfl
      · rename_i l hT
        cases hw
        obtain ⟨u,h1,h2⟩:=h.get d _ hT
        rw [Array.getElem?_toList] at h1
        cases h2
        simp [yielded,hs,h1]
      · rename_i hT
        cases hw
        have : a.tmps[d]? = none := by
          have hl:=h.length
          rw [Array.getElem?_eq_none]
          have : T.length ≤ d := by rcases Nat.lt_or_ge d T.length with q | q; · rw [List.getElem?_eq_getElem q] at hT; cases hT
                                    · exact q
          simp at hl;omega
        simp [yielded,hs,this]
      · cases hw
theorem HR.congr{ρ:aa}{w:World}{h h':an}{n:Nat}(hh:HR ρ w h n)(e:∀ b,ag h' b=ag h b) :HR ρ w h' n :=
  ⟨fun b d q=>hh.cell b d (by rw [←e];exact q),fun b c d f q r=>hh.inj b c d f (by rw [←e];exact q) (by rw [←e];exact r),hh.fresh,hh.liveLt,hh.outLt,hh.lt,hh.rom⟩
theorem i8{C:gz}(hC:C.Ok){run:aS}(hrun:j1 C.P run){ops:Array Oper}{n0 i:Nat}{o:Oper}(hi:ops[i]? = some o){T:List AV}{h:an}{p p':a7}{r:fH}{obs:List Bool} 
    (hr:g9 C run ops n0 i o T h p=some (r,obs,p')) (ho:ac obs) {ρ:aa} {w:World} {n:Nat} (hh:HR ρ w h n) (hid:∀ x,n0+i*cV≤x→x<n0+i*cV+cV→¬ ρ.ok x) (hn:n0+i*cV+cV≤n) {a:Act} (hd:a.defers=[]) (hT:aG ρ w T a.tmps.toList)
    {K:Act→World→Prop} {Q:Exit→Act→World→Prop}
    (hK:∀ ρ' w' a',cg ρ ρ' w→bj ρ.live w w'→HR ρ' w' (au r.sets h) n→a'.defers=[]→aG ρ' w' (hF T o.dst r.v) a'.tmps.toList→(∀ b,ρ'.ok b→ρ.ok b∨(n0+i*cV≤b∧b<n0+i*cV+cV))→K a' w'):wpOp C.P ops Q i K a w:=by
  have dput:∀ u,(a.put o.dst u).defers=[]:=by intro u;cases hdst:o.dst<;>simp [Act.put,hd]
  unfold g9 at hr
  unfold wpOp
  simp only [hi]
  split at hr
  · cases hr
  · rename_i hw
    simp only [Option.some.injEq,Prod.mk.injEq] at hr;obtain ⟨rfl,rfl,rfl⟩:=hr
    rw [hH hT hw]
    simp only [Bool.false_eq_true,if_false]
    exact hK ρ w _ (cg.refl _ _) (bj.refl _ _) hh (dput _) (oL hT (.tup _ _ .nil) o.dst) (fun b q=>.inl q)
  · rename_i hw
    rw [hH hT hw]
    simp only [if_true]
    split at hr
    · cases hr
    · rename_i r' hop
      split at hr
      · cases hr
      · rename_i v obs' p'' hg
        simp only [Option.some.injEq,Prod.mk.injEq] at hr;obtain ⟨rfl,rfl,rfl⟩:=hr
        rw [aj] at ho
        refine .inl (po hC hrun hop ho.1 hh hid hn (fun x=>jI hh.rom hT x) ?_)
        intro ρ' w' u E W hh' hv hok
        refine hK ρ' w' _ E W hh' (dput _) (oL (hT.mono E W) ?_ o.dst) hok
        unfold i7 at hg
        cases hgd:oK ops i with
        | false=>rw [hgd] at hg;simp only [cond_false,Option.some.injEq,Prod.mk.injEq] at hg;rw [←hg.1];exact hv
        | true =>
          rw [hgd] at hg
          simp only [cond_true,Option.map_eq_some_iff,Prod.mk.injEq] at hg
          obtain ⟨⟨b,ob,pp⟩,hd',rfl,rfl,rfl⟩:=hg
          rw [j3 hv hd' ho.2]
          exact .bool _ _
def j4(C:gz)(run:aS)(ops:Array Oper)(n0:Nat) :Nat→List Oper→List AV→an→a7→Option (List AV×an×List Bool×a7)
  | _,[],T,h,p=>some (T,h,[],p)
  | i,o::l,T,h,p =>
    match g9 C run ops n0 i o T h p with
    | none=>none
    | some (r,obs,p') =>
      match j4 C run ops n0 (i+1) l (hF T o.dst r.v) (au r.sets h) p' with
      | none=>none
      | some (T',h',obs',p'')=>some (T',h',obs++obs',p'')
structure fc (ρ:aa) (w:World) (n:Nat) (st:ax) (ρ':aa) (a':Act) (w':World):Prop where
  ext:cg ρ ρ' w
  wle:bj ρ.live w w'
  sr:SR ρ' st a' w'
  le:n≤st.next
  back:∀ b,ρ'.ok b→ρ.ok b∨n≤b
theorem hP{C:gz}(hC:C.Ok){run:aS}(hrun:j1 C.P run){ops:Array Oper}{n0:Nat}{Q:Exit→Act→World→Prop} :∀ (l:List Oper) (i:Nat) {T T':List AV} {h h':an} {p p':a7} {obs:List Bool},
    (∀ j,l[j]? = ops[i+j]?)→j4 C run ops n0 i l T h p=some (T',h',obs,p')→ac obs→∀ {ρ:aa} {w:World},HR ρ w h (n0+ops.size*cV)→(∀ b,ρ.ok b→b<n0+i*cV)→∀ {a:Act},a.defers=[]→aG ρ w T a.tmps.toList →
    (∀ ρ' w' a',cg ρ ρ' w→bj ρ.live w w'→HR ρ' w' h' (n0+ops.size*cV)→a'.defers=[]→aG ρ' w' T' a'.tmps.toList→(∀ b,ρ'.ok b→ρ.ok b∨n0≤b)→Q .normal a' w')→wpOps C.P ops Q (List.range' i l.length) a w
  | [],i,T,T',h,h',p,p',obs,hl,hr,ho,ρ,w,hh,hok,a,hd,hT,hQ=>by
    simp only [j4,Option.some.injEq,Prod.mk.injEq] at hr;obtain ⟨rfl,rfl,rfl,rfl⟩:=hr
    simp only [List.length_nil,List.range'_zero,wpOps]
    exact hQ ρ w a (cg.refl _ _) (bj.refl _ _) hh hd hT (fun b q=>.inl q)
  | o::l,i,T,T',h,h',p,p',obs,hl,hr,ho,ρ,w,hh,hok,a,hd,hT,hQ=>by
    simp only [j4] at hr
    split at hr
    case h_1=>cases hr
    rename_i r obs1 p1 h1
    split at hr
    case h_1=>cases hr
    rename_i T2 h2 obs2 p2 h3
    simp only [Option.some.injEq,Prod.mk.injEq] at hr;obtain ⟨rfl,rfl,rfl,rfl⟩:=hr
    rw [aj] at ho
    have hi:ops[i]? = some o:=by have:=hl 0;simpa using this.symm
    have hlt:i<ops.size:=(Array.getElem?_eq_some_iff.1 hi).1
    simp only [List.length_cons,List.range'_succ]
    rw [wpOps_cons]
    have hS:i*cV+cV≤ops.size*cV:=by rw [←Nat.succ_mul];exact Nat.mul_le_mul_right _ hlt
    have hi1:(i+1)*cV=i*cV+cV:=Nat.succ_mul _ _
    refine i8 hC hrun hi h1 ho.1 hh (fun x h1 h2 q=>by have:=hok _ q;omega) (by omega) hd hT ?_
    intro ρ' w' a' E W hh' hd' hT' hok'
    refine hP hC hrun l (i+1) (fun j=>by have:=hl (j+1);rw [show i+1+j=i+(j+1) from by omega];simpa using this) h3 ho.2 hh' (fun b q=>by
      rcases hok' b q with q | q
      · have:=hok b q;omega
      · omega) hd' hT' ?_
    intro ρ'' w'' a'' E' W' hh'' hd'' hT'' hb''
    exact hQ ρ'' w'' a'' (E.trans E' W.size) (W.trans W' (fun x hx q=>E.new x hx q)) hh'' hd'' hT'' (fun b q=>by
      rcases hb'' b q with q | q
      · rcases hok' b q with q | q
        · exact .inl q
        · exact .inr (by omega)
      · exact .inr q)
theorem fK{e e':Operand→AV}{l:List Operand}(h:∀ x∈l,e x=e' x) :l.map e=l.map e':=List.map_congr_left h
theorem me{wr:Bool}{P:Program}{e e':Operand→AV}{op:Op}(h:∀ x∈op.operands,e x=e' x) :iA wr P e op=iA wr P e' op:=by
  unfold iA
  split
  all_goals simp only [Op.operands,Call.operands] at h
  case h_1=>rw [h _ (by simp)]
  case h_2=>rw [h _ (by simp)]
  case h_3=>rw [h _ (by simp),h _ (by simp),h _ (by simp)]
  case h_4=>rw [h _ (by simp)]
  case h_5=>rw [h _ (by simp),h _ (by simp)]
  case h_6=>rw [h _ (by simp)]
  case h_7=>rw [h _ (by simp)]
  case h_8=>rw [h _ (by simp)]
  case h_9 =>
    rename_i fn first caps
    rw [fK (l:=first.toList) (fun x hx=>h x (by simp at hx;simp [hx])),fK (l:=caps.toList) (fun x hx=>h x (by simp at hx;simp [hx]))]
  case h_10 =>
    rename_i t x lo hi
    rw [h x (by simp)]
    cases lo<;>cases hi<;>simp only [Option.map_none,Option.map_some]<;>first | rfl | (rw [h _ (by simp),h _ (by simp)]) | (rw [h _ (by simp)])
  case h_11 =>
    rename_i t x lo hi mx
    rw [h x (by simp),h mx (by simp)]
    cases lo<;>cases hi<;>simp only [Option.map_none,Option.map_some]<;>first | rfl | (rw [h _ (by simp),h _ (by simp)]) | (rw [h _ (by simp)])
  case h_12=>rw [h _ (by simp)]
  case h_13=>rw [h _ (by simp)]
  case h_14=>rw [h _ (by simp),h _ (by simp)]
  case h_15=>rw [h _ (by simp),h _ (by simp)]
  case h_16=>rw [h _ (by simp)]
  case h_17 =>
    rename_i xs ts
    split
    · rename_i x t hx ht
      have:xs = #[x]:=by rw [←hx]
      subst this
      rw [h x (by simp)]
    · rfl
  case h_18 =>
    rename_i xs ts
    split
    · rename_i x l hx
      have:xs=(x::l).toArray:=by rw [←hx]
      subst this
      rw [h x (by simp),fK (l:=l) (fun y hy=>h y (by simp [hy]))]
    · rfl
  case h_19 =>
    rename_i xs ts
    split
    · rename_i x l hx
      have:xs=(x::l).toArray:=by rw [←hx]
      subst this
      rw [h x (by simp),fK (l:=l) (fun y hy=>h y (by simp [hy]))]
    · rfl
  case h_20=>rfl
theorem m8{P:Program}{g g':Nat→Option ae}{t:TypeId}{x:AV}{r:AV×List Bool×List Nat}(h:gQ P g t x=some r)(hg:∀ b∈r.2.2,g' b=g b) :gQ P g' t x=some r:=by
  unfold gQ at h ⊢
  simp only at h ⊢
  split at h
  · rename_i b w i j
    split at h
    · rename_i d hd
      simp only [Option.map_eq_some_iff] at h
      obtain ⟨r',h1,rfl⟩:=h
      have:g' b=some d:=by rw [hg b (by simp)];exact hd
      simp only [this,h1];rfl
    · cases h
  · exact h
  · cases h
theorem mf{P:Program}{g g':Nat→Option ae}{t:TypeId}{x v:AV}{r:Nat×ae×List Bool}(h:iD P g t x v=some r)(hg:g' r.1=g r.1) :iD P g' t x v=some r:=by
  unfold iD at h ⊢
  split at h
  · rename_i b w i j l inf h1 h2
    split at h
    · rename_i d hd
      cases e:Nat.beq l.length inf.size with
      | false=>rw [e] at h;cases h
      | true =>
        rw [e] at h
        simp only [cond_true,Option.map_eq_some_iff] at h
        obtain ⟨r',h3,rfl⟩:=h
        have:g' b=some d:=by rw [hg];exact hd
        simp only [h1,this,e,cond_true,h3];rfl
    · cases h
  · cases h
theorem gB{g g':Nat→Option ae}{x:AV}{r:Nat×Nat×ae×List Bool×List Nat}(h:mV g x=some r)(hg:∀ b∈r.2.2.2.2,g' b=g b) :mV g' x=some r:=by
  unfold mV at h ⊢
  split at h
  · rename_i b w es i len cap
    split at h
    · rename_i d hd
      simp only [Option.map_eq_some_iff] at h
      obtain ⟨r',h1,rfl⟩:=h
      have:g' b=some d:=by rw [hg b (by simp)];exact hd
      simp only [this,h1];rfl
    · cases h
  · exact h
  · cases h
theorem dZ{P:Program}{g g':Nat→Option ae}{nid:Nat}{e:TypeId}{inf:TypeInfo}{s:AV}{m es':Nat}{nb:ae}{obs:List Bool}{rs:List Nat}{r:List de×List Nat}(h:ep P g nid e inf s m es' nb obs rs=some r)(hg:∀ b∈r.2,g' b=g b) :
    ep P g' nid e inf s m es' nb obs rs=some r∧∀ b∈rs,b∈r.2:=by
  unfold ep at h ⊢
  split at h
  · refine ⟨h,?_⟩
    cases hes:Nat.beq es' inf.size with
    | false=>rw [hes] at h;cases h
    | true =>
      rw [hes] at h
      simp only [cond_true,Option.some.injEq] at h;subst h
      exact fun b hb=>hb
  · refine ⟨h,?_⟩
    cases hes:Nat.beq es' inf.size with
    | false=>rw [hes] at h;cases h
    | true =>
      rw [hes] at h
      simp only [cond_true,Option.some.injEq] at h;subst h
      exact fun b hb=>hb
  · rename_i b w es len cap
    split at h
    case h_2=>cases h
    rename_i d hd
    cases hes:(Nat.beq es inf.size&&Nat.beq es' es) with
    | false=>rw [hes] at h;cases h
    | true =>
    rw [hes] at h
    simp only [cond_true] at h
    split at h
    case h_2=>cases h
    rename_i old obs' hsub
    simp only [Option.map_eq_some_iff] at h
    obtain ⟨d',happ,rfl⟩:=h
    have h2:g' b=some d:=by rw [hg b (by simp)];exact hd
    refine ⟨?_,fun b hb=>by simp [hb]⟩
    simp only [h2,cond_true,hsub,happ,hes];rfl
  · cases h
theorem kY{P:Program}{g g':Nat→Option ae}{nid:Nat}{t t':TypeId}{s x:AV}{r:List de×List Nat}(h:fE P g nid t t' s x=some r)(hg:∀ b∈r.2,g' b=g b) :fE P g' nid t t' s x=some r:=by
  unfold fE at h ⊢
  split at h
  case h_2=>cases h
  rename_i e y ht ht'
  split at h
  case h_2=>cases h
  rename_i inf he hi
  split at h
  case h_2=>cases h
  rename_i z hz
  cases hzs:(Nat.beq z.cells.size inf.size&&Nat.beq inf.size 1) with
  | false=>rw [hzs] at h;cases h
  | true =>
  rw [hzs] at h
  simp only [cond_true] at h ⊢
  exact (dZ h hg).1
theorem kZ{P:Program}{g g':Nat→Option ae}{nid:Nat}{t:TypeId}{s x:AV}{r:List de×List Nat}(h:fD P g nid t s x=some r)(hg:∀ b∈r.2,g' b=g b) :fD P g' nid t s x=some r:=by
  unfold fD at h ⊢
  split at h
  case h_2=>cases h
  rename_i e ht
  split at h
  case h_2=>cases h
  rename_i inf hi
  split at h
  case h_2=>cases h
  rename_i z hz
  cases hzs:Nat.beq z.cells.size inf.size with
  | false=>rw [hzs] at h;cases h
  | true =>
  rw [hzs] at h
  simp only [cond_true] at h ⊢
  split at h
  · exact h
  · exact h
  · exact h
  · exact h
  · split at h
    case h_2=>cases h
    rename_i m es nb obs rs hs
    have q:∀ b∈rs,b∈r.2:=(dZ (g':=g) h (fun _ _=>rfl)).2
    have:=gB (g':=g') hs (fun b hb=>hg b (q b hb))
    simp only [this]
    exact (dZ h hg).1
mutual
theorem eD {σ:Nat→Option Nat} {g g':Nat→Option ae}:∀ (n:Nat) (v:AV),(∀ b∈(iI σ g n v).2,g' b=g b)→iI σ g' n v=iI σ g n v
  | 0,_,_=>rfl
  | n + 1, v, h => by
    cases v<;>simp only [iI] at h ⊢
    · rename_i b w i j
      cases hs:σ b with
      | some c=>rfl
      | none =>
      rw [hs] at h
      simp only at h ⊢
      have hb:g' b=g b:=by
        cases q:g b with
        | none=>rw [q] at h;have:=h b (by simp);rw [this,q]
        | some d=>rw [q] at h;have:=h b (by simp);rw [this,q]
      rw [hb]
      cases q:g b with
      | none=>rfl
      | some d =>
        rw [q] at h
        have:=j5 (σ:=σ) (g:=g) (g':=g') n d (fun b' hb'=>h b' (by simp only [List.mem_cons];exact .inr hb'))
        simp only [this]
    · rename_i b w es i len cap
      cases hs:σ b with
      | some c=>rfl
      | none =>
      rw [hs] at h
      simp only at h ⊢
      have hb:g' b=g b:=by
        cases q:g b with
        | none=>rw [q] at h;have:=h b (by simp);rw [this,q]
        | some d=>rw [q] at h;have:=h b (by simp);rw [this,q]
      rw [hb]
      cases q:g b with
      | none=>rfl
      | some d =>
        rw [q] at h
        have:=j5 (σ:=σ) (g:=g) (g':=g') n d (fun b' hb'=>h b' (by simp only [List.mem_cons];exact .inr hb'))
        simp only [this]
    · rename_i f l1 l2
      rw [cF n l1 (fun b hb=>h b (by simp [hb])),cF n l2 (fun b hb=>h b (by simp [hb]))]
    · rename_i l;rw [cF n l h]
    · rename_i l;rw [cF n l h]
    · rename_i t v;rw [eD n v h]
theorem cF {σ:Nat→Option Nat} {g g':Nat→Option ae}:∀ (n:Nat) (l:List AV),(∀ b∈(g4 σ g n l).2,g' b=g b)→g4 σ g' n l=g4 σ g n l
  | 0,_,_=>rfl
  | n+1,[],_=>rfl
  | n+1,v::l,h=>by
    simp only [g4] at h ⊢
    rw [eD n v (fun b hb=>h b (by simp [hb])),cF n l (fun b hb=>h b (by simp [hb]))]
theorem j5 {σ:Nat→Option Nat} {g g':Nat→Option ae}:∀ (n:Nat) (d:ae),(∀ b∈(gu σ g n d).2,g' b=g b)→gu σ g' n d=gu σ g n d
  | 0,_,_=>rfl
  | n+1,d,h=>by
    cases d<;>simp only [gu] at h ⊢
    rename_i l;rw [cF n l h]
end
theorem cq{σ:Nat→Option Nat}{g g':Nat→Option ae} :∀ (m:List Bool) (l:List AV),(∀ b∈(bp σ g m l).2,g' b=g b)→bp σ g' m l=bp σ g m l
  | m,[],_=>by cases m<;>rfl
  | true::m,v::l,h=>by
    simp only [bp] at h ⊢
    rw [cq m l h]
  | false::m,v::l,h=>by
    simp only [bp] at h ⊢
    rw [eD _ v (fun b hb=>h b (by simp [hb])),cq m l (fun b hb=>h b (by simp [hb]))]
  | [],v::l,h=>by
    simp only [bp] at h ⊢
    rw [eD _ v (fun b hb=>h b (by simp [hb])),cq [] l (fun b hb=>h b (by simp [hb]))]
theorem iM{g:Nat→Option ae} :∀ (n:Nat) (t acc:List Nat),∀ b∈acc,b∈bQ g n t acc
  | 0,t,acc,b,h=>h
  | n+1,[],acc,b,h=>h
  | n+1,x::t,acc,b,h=>by
    simp only [bQ]
    split
    · exact iM n _ _ b h
    · exact iM n _ _ b (by simp [h])
theorem fe{g g':Nat→Option ae} :∀ (n:Nat) (t acc:List Nat),(∀ b∈bQ g n t acc,g' b=g b)→bQ g' n t acc=bQ g n t acc
  | 0,t,acc,_=>rfl
  | n+1,[],acc,_=>rfl
  | n+1,x::t,acc,h=>by
    simp only [bQ] at h ⊢
    split
    · rename_i e;rw [e] at h;exact fe n _ _ h
    · rename_i e
      rw [e] at h
      simp only at h
      have hx:g' x=g x:=h x (iM n _ _ x (by simp))
      rw [hx]
      exact fe n _ _ h
theorem hU{σ:Nat→Option Nat}{g g':Nat→Option ae} :∀ (l:List Nat),(∀ b∈l,g' b=g b)→cZ σ g' l=cZ σ g l
  | [],_=>rfl
  | b::l,h=>by simp only [cZ];rw [h b (by simp),hU l (fun x hx=>h x (by simp [hx]))]
theorem ff{g g':Nat→Option ae}{nid:Nat} :∀ (l:List Nat),(∀ b∈l,g' b=g b)→cp g' nid l=cp g nid l
  | [],_=>rfl
  | b::l,h=>by simp only [cp];rw [h b (by simp),ff l (fun x hx=>h x (by simp [hx]))]
theorem m9{C:gz}{run:aS}{g g':Nat→Option ae}{nid:Nat}{p:a7}{fid:FuncId}{vals:List AV}{r:rZ}(h:lu C run g nid p fid vals=some r)(hg:∀ b∈r.reads,g' b=g b) :lu C run g' nid p fid vals=some r:=by
  have hreads:r.reads=bQ g aX (bc (co (C.mode fid).mask vals)) []++(bp (bL (bQ g aX (bc (co (C.mode fid).mask vals)) []) 0) g (C.mode fid).mask vals).2:=by
    unfold lu at h
    simp only at h
    generalize (eB (bQ g aX (bc (co (C.mode fid).mask vals)) [])&&cp g nid (bQ g aX (bc (co (C.mode fid).mask vals)) []))=c at h
    cases c with
    | false=>cases h
    | true =>
      simp only [cond_true] at h
      split at h
      case h_2=>cases h
      rename_i r' obs p' hl
      cases hle:Nat.ble r'.own.length ((bQ g aX (bc (co (C.mode fid).mask vals)) []).length+cV) with
      | false=>rw [hle] at h;cases h
      | true=>rw [hle] at h;simp only [cond_true,Option.some.injEq] at h;rw [←h]
  rw [hreads] at hg
  have e1:=fe (g:=g) (g':=g') aX (bc (co (C.mode fid).mask vals)) [] (fun b hb=>hg b (by simp [hb]))
  have e2:=cq (σ:=bL (bQ g aX (bc (co (C.mode fid).mask vals)) []) 0) (g:=g) (g':=g') (C.mode fid).mask vals (fun b hb=>hg b (by simp [hb]))
  have e3:=hU (σ:=bL (bQ g aX (bc (co (C.mode fid).mask vals)) []) 0) (g:=g) (g':=g') (bQ g aX (bc (co (C.mode fid).mask vals)) []) (fun b hb=>hg b (by simp [hb]))
  have e4:=ff (nid:=nid) (g:=g) (g':=g') (bQ g aX (bc (co (C.mode fid).mask vals)) []) (fun b hb=>hg b (by simp [hb]))
  unfold lu at h ⊢
  simp only at h ⊢
  rw [e1,e2,e3,e4]
  exact h
theorem na{P:Program}{g g':Nat→Option ae}{t:TypeId}{s x:AV}{r:Nat×Nat×ae×List Bool×List Nat}(h:lr P g t s x=some r)(hg:∀ b∈r.2.2.2.2,g' b=g b) :lr P g' t s x=some r:=by
  unfold lr at h ⊢
  split at h
  case h_2=>cases h
  rename_i e b w es i len cap ht
  split at h
  case h_2=>cases h
  rename_i inf blk m es' nb obs rs hi hb hsrc
  have hr:r.2.2.2.2=b::rs:=by
    cases h1:Nat.beq inf.size 1&&Nat.beq es' 1 with
    | false=>rw [h1] at h;cases h
    | true =>
      rw [h1] at h
      simp only [cond_true,Option.map_eq_some_iff] at h
      obtain ⟨_,_,rfl⟩:=h
      rfl
  have q1:g' b=some blk:=by rw [hg b (by rw [hr];simp)];exact hb
  have q2:=gB hsrc (g':=g') (fun c hc=>hg c (by rw [hr];exact List.mem_cons_of_mem _ hc))
  rw [hi,q1,q2]
  exact h
theorem od{P:Program}{g g':Nat→Option ae}{s d:TypeId}{x:AV}{r:ByteArray×List Bool×List Nat}(h:pm P g s d x=some r)(hg:∀ b∈r.2.2,g' b=g b) :pm P g' s d x=some r:=by
  unfold pm at h ⊢
  split at h
  case h_2=>cases h
  rename_i e hs hd
  split at h
  case h_2=>cases h
  rename_i m es k ys obs rs he hsrc
  have hr:r.2.2=rs:=by
    cases h1:Nat.beq es 1&&ay k .u8 with
    | false=>rw [h1] at h;cases h
    | true =>
      rw [h1] at h
      simp only [cond_true,Option.some.injEq] at h
      rw [←h]
  have q2:=gB hsrc (g':=g') (fun c hc=>hg c (by rw [hr];exact hc))
  rw [he,q2]
  exact h
theorem pq{C:gz}{run:aS}{e e':Operand→AV}{g g':Nat→Option ae}{nid:Nat}{p:a7}{op:Op}{r:rZ}(h:rL C run e g nid p op=some r)(he:∀ x∈op.operands,e' x=e x)(hg:∀ b∈r.reads,g' b=g b) :
    rL C run e' g' nid p op=some r:=by
  unfold rL at h ⊢
  rw [me he]
  split at h
  · exact h
  · rename_i hp
    clear hp
    split at h
    all_goals simp only [Op.operands,Call.operands] at he
    · rename_i t x
      simp only [Option.map_eq_some_iff] at h ⊢
      obtain ⟨r',h1,rfl⟩:=h
      exact ⟨r',by rw [he x (by simp)];exact m8 h1 hg,rfl⟩
    · rename_i t d x
      simp only [Option.map_eq_some_iff] at h ⊢
      obtain ⟨r',h1,rfl⟩:=h
      exact ⟨r',by rw [he x (by simp)];exact od h1 hg,rfl⟩
    · rename_i t x lo hi
      have h1:lo.map e'=lo.map e:=by
        cases lo with
        | none=>rfl
        | some y=>simp only [Option.map_some];rw [he y (by simp)]
      have h2:hi.map e'=hi.map e:=by
        cases hi with
        | none=>rfl
        | some y=>simp only [Option.map_some];rw [he y (by simp)]
      simp only [Option.map_eq_some_iff] at h ⊢
      obtain ⟨r',q,rfl⟩:=h
      exact ⟨r',by rw [he x (by simp),h1,h2];exact mb q hg,rfl⟩
    · rename_i t x v
      simp only [Option.map_eq_some_iff] at h ⊢
      obtain ⟨r',h1,rfl⟩:=h
      exact ⟨r',by rw [he x (by simp),he v (by simp)];exact mf h1 (hg _ (by simp)),rfl⟩
    · rename_i t x k cok;rw [he x (by simp),he k (by simp)];exact h
    · exact h
    · rename_i t x;rw [he x (by simp)];exact h
    · rename_i t l c;rw [he l (by simp),he c (by simp)];exact h
    · rename_i t parts
      have:(parts.toList.map fun x=>(x.1,e' x.2))=(parts.toList.map fun x=>(x.1,e x.2)):=List.map_congr_left fun x hx=>by rw [he x.2 (by simp;exact ⟨x.1,by simpa using hx⟩)]
      rw [this];exact h
    · rename_i t len parts
      have:(parts.toList.map fun x=>(x.1,e' x.2))=(parts.toList.map fun x=>(x.1,e x.2)):=List.map_congr_left fun x hx=>by rw [he x.2 (by simp;exact ⟨x.1,by simpa using hx⟩)]
      rw [this];exact h
    · rename_i args ats
      split at h
      case h_2=>cases h
      rename_i s x t t' e1 e2
      have ea:args = #[s,x]:=by rw [←e1]
      subst ea
      cases ht:Nat.beq t t' with
      | false =>
        rw [ht] at h
        simp only [cond_false] at h ⊢
        rw [he s (by simp),he x (by simp)]
        split at h
        case h_2=>cases h
        rename_i alts rs ha
        simp only [Option.map_eq_some_iff] at h ⊢
        obtain ⟨r',h1,rfl⟩:=h
        have:=kY (g':=g') ha hg
        simp only [this,Option.map_eq_some_iff]
        exact ⟨r',h1,rfl⟩
      | true =>
      rw [ht] at h
      simp only [cond_true] at h ⊢
      rw [he s (by simp),he x (by simp)]
      split at h
      case h_2=>cases h
      rename_i alts rs ha
      simp only [Option.map_eq_some_iff] at h ⊢
      obtain ⟨r',h1,rfl⟩:=h
      have:=kZ (g':=g') ha hg
      simp only [this,Option.map_eq_some_iff]
      exact ⟨r',h1,rfl⟩
    · rename_i args ats
      split at h
      case h_2=>cases h
      rename_i s x t t' e1 e2
      have ea:args = #[s,x]:=by rw [←e1]
      subst ea
      rw [he s (by simp),he x (by simp)]
      simp only [Option.map_eq_some_iff] at h ⊢
      obtain ⟨r',h1,rfl⟩:=h
      exact ⟨r',na h1 hg,rfl⟩
    · rename_i f args ats
      have hf:e' f=e f:=he f (by simp)
      have hargs:args.toList.map e'=args.toList.map e:=List.map_congr_left fun x hx=>he x (by simp at hx;simp [hx])
      split at h
      case h_2=>cases h
      rename_i fid l hca
      have:g8 e' f args=some (fid,l):=by
        unfold g8 at hca ⊢
        rw [hf,hargs];exact hca
      simp only [this]
      split at h
      · exact h
      · exact m9 h hg
    · cases h
def oe(l:List Operand) :List Nat:=l.filterMap fun | .tmp t=>some t | _=>none
def dg(ops:Array Oper)(o:Oper) :List Nat :=
  (match o.dst with | some d=>[d] | none=>[])++(oe o.op.operands.toList++(match o.guard with | some (j,_)=>(match fI ops j with | some d=>[d] | none=>[]) | none=>[]))
def cG(s:List (Nat×Option ae)) :List Nat:=s.map Prod.fst
def fL(ms:List Nat)(o:Oper) :Nat:=o.after.toList.foldl (fun m e=>bif Region.binds .any e then m ||| (2^e.on ||| ms.getD e.on 0) else m) 0
def qc(x:Nat) :List Nat→Bool
  | []=>false
  | y::l=>Nat.beq x y||qc x l
def og:List Nat→List Nat→Bool
  | [],_=>true
  | x::l,m=>!qc x m&&og l m
theorem nf{x:Nat} :∀ {l:List Nat},qc x l=true↔x∈l
  | []=>by simp [qc]
  | y::l=>by simp [qc,nf (l:=l)]
theorem fM{l m:List Nat}(h:og l m=true) :∀ x,x∈l→x∈m→False:=by
  induction l with
  | nil=>intro x hx;cases hx
  | cons y l ih =>
    simp only [og,Bool.and_eq_true,Bool.not_eq_true'] at h
    intro x hx hm
    rcases List.mem_cons.1 hx with rfl | hx
    · have:=nf.2 hm;rw [this] at h;cases h.1
    · exact ih h.2 x hx hm
def cx(ops:Array Oper)(o:Oper)(r:fH)(o':Oper)(r':fH) :Bool :=
  og o.dst.toList (dg ops o')&&(og o'.dst.toList (dg ops o)&&(og (cG r.sets) (r'.reads++cG r'.sets)&&og (cG r'.sets) (r.reads++cG r.sets)))
def fg(ops:Array Oper)(mask:Nat)(o':Oper)(r':fH) :Nat→List (Oper×fH)→Bool
  | _,[]=>true
  | i,x::l=>(mask.testBit i||cx ops x.1 x.2 o' r')&&fg ops mask o' r' (i+1) l
def j6(ops:Array Oper) :List (Oper×fH)→List Nat→List (Oper×fH)→Bool
  | _,_,[]=>true
  | pre,ms,x::l =>
    x.1.after.toList.all (fun e=>!Region.binds .any e||Nat.blt e.on pre.length) &&
    (fg ops (fL ms x.1) x.1 x.2 0 pre&&j6 ops (pre++[x]) (ms++[fL ms x.1]) l)
def ch(L:Nat→Bool) :Nat→List (Oper×fH)→List AV×an→List AV×an
  | _,[],s=>s
  | i,x::l,s=>ch L (i+1) l (bif L i then (hF s.1 x.1.dst x.2.v,au x.2.sets s.2) else s)
theorem hX(T:List AV)(d:Option Nat)(v:AV)(t:Nat) :(hF T d v)[t]? = if d=some t then (T[t]?).map (fun _=>v) else T[t]?:=by
  cases d with
  | none=>simp [hF]
  | some d =>
    simp only [hF,Option.some.injEq]
    rw [List.getElem?_set]
    by_cases h:d=t
    · subst h
      simp only [if_true]
      by_cases hl:d<T.length
      · simp [hl]
      · simp [hl]
    · simp [h]
theorem cN{h h':an}{b:Nat} :∀ (s:List (Nat×Option ae)) {h h':an},ag h b=ag h' b→ag (au s h) b=ag (au s h') b
  | [],_,_,e=>e
  | (c,some d)::s,h,h',e=>by
    simp only [au]
    exact cN (h:=h) (h':=h') s (by rw [aD,aD,e])
  | (c,none)::s,h,h',e=>by
    simp only [au]
    exact cN (h:=h) (h':=h') s (by rw [cB,cB,e])
theorem cO{b:Nat} :∀ (s:List (Nat×Option ae)) {h:an},b ∉ cG s→ag (au s h) b=ag h b
  | [],_,_=>rfl
  | (c,some d)::s,h,hb=>by
    simp only [cG,List.map_cons,List.mem_cons,not_or] at hb
    simp only [au]
    rw [cO s hb.2,aD,if_neg (fun e=>hb.1 e.symm)]
  | (c,none)::s,h,hb=>by
    simp only [cG,List.map_cons,List.mem_cons,not_or] at hb
    simp only [au]
    rw [cO s hb.2,cB,if_neg (fun e=>hb.1 e.symm)]
theorem mg{L L':Nat→Bool}{t:Nat} :∀ (l:List (Oper×fH)) (i:Nat) {s s':List AV×an},(∀ k x,l[k]? = some x→x.1.dst=some t→L (i+k)=L' (i+k))→s.1[t]? = s'.1[t]?→(ch L i l s).1[t]? = (ch L' i l s').1[t]?
  | [],_,_,_,_,e=>e
  | x::l,i,s,s',h,e=>by
    simp only [ch]
    refine mg l (i+1) (fun k y hy hd=>by have:=h (k+1) y (by simpa using hy) hd;rw [show i+1+k=i+(k+1) from by omega];exact this) ?_
    by_cases hd:x.1.dst=some t
    · have:=h 0 x (by simp) hd
      simp only [Nat.add_zero] at this
      rw [this]
      cases L' i with
      | true=>simp only [cond_true,hX,hd,if_true,e]
      | false=>exact e
    · cases L i<;>cases L' i<;>simp only [cond_true,cond_false,hX,if_neg hd,e]
theorem mh{L L':Nat→Bool}{b:Nat} :∀ (l:List (Oper×fH)) (i:Nat) {s s':List AV×an},(∀ k x,l[k]? = some x→b∈cG x.2.sets→L (i+k)=L' (i+k))→ag s.2 b=ag s'.2 b→ag (ch L i l s).2 b=ag (ch L' i l s').2 b
  | [],_,_,_,_,e=>e
  | x::l,i,s,s',h,e=>by
    simp only [ch]
    refine mh l (i+1) (fun k y hy hd=>by have:=h (k+1) y (by simpa using hy) hd;rw [show i+1+k=i+(k+1) from by omega];exact this) ?_
    by_cases hd:b∈cG x.2.sets
    · have:=h 0 x (by simp) hd
      simp only [Nat.add_zero] at this
      rw [this]
      cases L' i with
      | true=>simp only [cond_true];exact cN (h:=s.2) (h':=s'.2) _ e
      | false=>exact e
    · cases L i<;>cases L' i<;>simp only [cond_true,cond_false,cO _ hd,e]
def aw:List (Oper×fH)→List AV×an→List AV×an
  | [],s=>s
  | x::l,s=>aw l (hF s.1 x.1.dst x.2.v,au x.2.sets s.2)
theorem j7(l m:List (Oper×fH))(s:List AV×an) :aw (l++m) s=aw m (aw l s):=by
  induction l generalizing s with
  | nil=>rfl
  | cons x l ih=>simp only [List.cons_append,aw,ih]
theorem jA:∀ (l:List (Oper×fH)) (i j:Nat) (s:List AV×an),ch (fun k=>decide (k<i+j)) i l s=aw (l.take j) s
  | [],i,j,s=>by simp [ch,aw]
  | x::l,i,0,s=>by
    have:∀ (l:List (Oper×fH)) (i':Nat),i≤i'→∀ s,ch (fun k=>decide (k<i+0)) i' l s=s:=by
      intro l
      induction l with
      | nil=>intro _ _ s;rfl
      | cons y l ih =>
        intro i' hi s
        simp only [ch]
        have:decide (i'<i+0)=false:=by simp;omega
        rw [this];exact ih (i'+1) (by omega) s
    simp only [List.take_zero,aw]
    exact this _ i (Nat.le_refl _) s
  | x::l,i,j+1,s=>by
    simp only [ch,List.take_succ_cons,aw]
    have h1:decide (i<i+(j+1))=true:=by simp
    rw [h1]
    simp only [cond_true]
    have:=jA l (i+1) j (hF s.1 x.1.dst x.2.v,au x.2.sets s.2)
    rw [show i+1+j=i+(j+1) from by omega] at this
    exact this
structure qd (ops:Array Oper) (l:List (Oper×fH)) (ms:List Nat):Prop where
  edge:∀ (j:Nat) (x:Oper×fH),l[j]? = some x→∀ e∈x.1.after,Region.binds .any e=true→e.on<j
  mask:∀ (j:Nat) (x:Oper×fH),l[j]? = some x→∃ m:Nat,ms[j]? = some m∧∀ i:Nat,m.testBit i=true→∃ e∈x.1.after,Region.binds .any e=true∧(e.on=i∨∃ m':Nat,ms[e.on]? = some m'∧m'.testBit i=true)
  pair:∀ (i j:Nat) (x y:Oper×fH),l[i]? = some x→l[j]? = some y→i<j→(∃ m:Nat,ms[j]? = some m∧m.testBit i=true)∨cx ops x.1 x.2 y.1 y.2=true
theorem j8(ms:List Nat) :∀ (es:List Edge) (m0 i:Nat),(es.foldl (fun m e=>bif Region.binds .any e then m ||| (2^e.on ||| ms.getD e.on 0) else m) m0).testBit i=true →
    m0.testBit i=true∨∃ e∈es,Region.binds .any e=true∧(e.on=i∨(ms.getD e.on 0).testBit i=true)
  | [],m0,i,h=>.inl h
  | e::es,m0,i,h=>by
    simp only [List.foldl_cons] at h
    rcases j8 ms es _ i h with h | ⟨e',h1,h2,h3⟩
    · cases hb:Region.binds .any e with
      | false=>rw [hb] at h;exact .inl h
      | true =>
        rw [hb] at h
        simp only [cond_true,Nat.testBit_or,Bool.or_eq_true,Nat.testBit_two_pow,decide_eq_true_eq] at h
        rcases h with h | h | h
        · exact .inl h
        · exact .inr ⟨e,by simp,hb,.inl h⟩
        · exact .inr ⟨e,by simp,hb,.inr h⟩
    · exact .inr ⟨e',by simp [h1],h2,h3⟩
theorem f4{ops:Array Oper}{mask:Nat}{o':Oper}{r':fH} :∀ {l:List (Oper×fH)} {i:Nat},fg ops mask o' r' i l=true→∀ k x,l[k]? = some x→mask.testBit (i+k)=true∨cx ops x.1 x.2 o' r'=true
  | [],_,_,k,x,h=>by simp at h
  | y::l,i,h,0,x,hx=>by
    simp only [fg,Bool.and_eq_true,Bool.or_eq_true] at h
    simp at hx;subst hx;simpa using h.1
  | y::l,i,h,k+1,x,hx=>by
    simp only [fg,Bool.and_eq_true,Bool.or_eq_true] at h
    have:=f4 h.2 k x (by simpa using hx)
    rw [show i+1+k=i+(k+1) from by omega] at this;exact this
theorem i9{ops:Array Oper} :∀ (l pre:List (Oper×fH)) (ms:List Nat),ms.length=pre.length→j6 ops pre ms l=true→qd ops pre ms→∃ ms',qd ops (pre++l) ms'
  | [],pre,ms,_,_,D=>⟨ms,by simpa using D⟩
  | x::l,pre,ms,hl,h,D=>by
    simp only [j6,Bool.and_eq_true] at h
    obtain ⟨h1,h2,h3⟩:=h
    have:=i9 l (pre++[x]) (ms++[fL ms x.1]) (by simp [hl]) h3 ?_
    · simpa using this
    have old:∀ (j:Nat) (y:Oper×fH),(pre++[x])[j]? = some y→(j<pre.length∧pre[j]? = some y)∨(j=pre.length∧y=x):=by
      intro j y hy
      rw [List.getElem?_append] at hy
      split at hy
      · rename_i q;exact .inl ⟨q,hy⟩
      · rename_i q
        have:j-pre.length=0:=by
          rcases Nat.eq_zero_or_pos (j-pre.length) with r | r
          · exact r
          · rw [List.getElem?_eq_none (by simp;omega)] at hy;cases hy
        rw [this] at hy;simp at hy;exact .inr ⟨by omega,hy.symm⟩
    have msl:∀ (j m:Nat),ms[j]? = some m→(ms++[fL ms x.1])[j]? = some m:=by
      intro j m hm
      rw [List.getElem?_append_left (List.getElem?_eq_some_iff.1 hm).1];exact hm
    have msn:(ms++[fL ms x.1])[pre.length]? = some (fL ms x.1):=by
      rw [←hl,List.getElem?_append_right (Nat.le_refl _)];simp
    have hedge:∀ e∈x.1.after,Region.binds .any e=true→e.on<pre.length:=by
      intro e he hb
      have:=List.all_eq_true.1 h1 e (by simpa using he)
      rw [hb] at this
      simpa [Nat.blt_eq] using this
    refine ⟨fun j y hy=>?_,fun j y hy=>?_,fun i j a b ha hb hij=>?_⟩
    · rcases old j y hy with ⟨q,hy⟩ | ⟨rfl,rfl⟩
      · exact D.edge j y hy
      · exact hedge
    · rcases old j y hy with ⟨q,hy⟩ | ⟨rfl,rfl⟩
      · obtain ⟨m,k1,k2⟩:=D.mask j y hy
        refine ⟨m,msl j m k1,fun i hi=>?_⟩
        obtain ⟨e,e1,e2,e3⟩:=k2 i hi
        exact ⟨e,e1,e2,e3.imp id fun ⟨m',q1,q2⟩=>⟨m',msl _ m' q1,q2⟩⟩
      · refine ⟨_,msn,fun i hi=>?_⟩
        rcases j8 ms y.1.after.toList 0 i hi with q | ⟨e,e1,e2,e3⟩
        · simp at q
        · refine ⟨e,by simpa using e1,e2,e3.imp id fun q=>?_⟩
          rw [List.getD_eq_getElem?_getD] at q
          cases hm:ms[e.on]? with
          | none=>rw [hm] at q;simp at q
          | some m'=>rw [hm] at q;exact ⟨m',msl _ m' hm,q⟩
    · rcases old j b hb with ⟨q,hb⟩ | ⟨rfl,rfl⟩
      · rcases old i a ha with ⟨q',ha⟩ | ⟨rfl,rfl⟩
        · exact (D.pair i j a b ha hb hij).imp (fun ⟨m,k1,k2⟩=>⟨m,msl j m k1,k2⟩) id
        · omega
      · rcases old i a ha with ⟨q',ha⟩ | ⟨rfl,rfl⟩
        · have:=f4 h2 i a ha
          rw [Nat.zero_add] at this
          exact this.imp (fun k=>⟨_,msn,k⟩) id
        · omega
theorem oh{l:List Operand}{t:Nat}(h:Operand.tmp t∈l) :t∈oe l:=by
  simp only [oe,List.mem_filterMap];exact ⟨_,h,rfl⟩
theorem ng{C:gz}{run:aS}{ops:Array Oper}{n0 i:Nat}{o:Oper}{T T':List AV}{h h':an}{p p':a7}{r:fH}{obs:List Bool}(hr:g9 C run ops n0 i o T h p=some (r,obs,p')) 
    (hT:∀ t∈dg ops o,T'[t]? = T[t]?) (hh:∀ b∈r.reads,ag h' b=ag h b):g9 C run ops n0 i o T' h' p=some (r,obs,p'):=by
  have hw:fJ ops o T'=fJ ops o T:=by
    unfold fJ
    cases hg:o.guard with
    | none=>rfl
    | some x =>
      obtain ⟨j,want⟩:=x
      simp only
      cases hs:fI ops j with
      | none=>rfl
      | some d=>simp only;rw [hT d (by simp [dg,hg,hs])]
  unfold g9 at hr ⊢
  rw [hw]
  split at hr
  · cases hr
  · exact hr
  · split at hr
    · cases hr
    · rename_i r' hop
      have:rL C run (qT T') (ag h') (n0+i*cV) p o.op=some r':=by
        refine pq hop (fun x hx=>?_) (fun b hb=>?_)
        · cases x with
          | tmp t=>simp only [qT];rw [hT t (by simp only [dg,List.mem_append];exact .inr (.inl (oh (by simpa using hx))))]
          | _=>rfl
        · apply hh
          split at hr
          · cases hr
          · simp only [Option.some.injEq,Prod.mk.injEq] at hr;rw [←hr.1];exact hb
      simp only [this]
      exact hr
def j9(C:gz)(run:aS)(ops:Array Oper)(n0:Nat) :Nat→List Oper→List AV→an→a7→Option (List fH×List AV×an×List Bool×a7)
  | _,[],T,h,p=>some ([],T,h,[],p)
  | i,o::l,T,h,p =>
    match g9 C run ops n0 i o T h p with
    | none=>none
    | some (r,obs,p') =>
      match j9 C run ops n0 (i+1) l (hF T o.dst r.v) (au r.sets h) p' with
      | none=>none
      | some (rs,T',h',obs',p'')=>some (r::rs,T',h',obs++obs',p'')
theorem ja{C:gz}{run:aS}{ops:Array Oper}{n0:Nat} :∀ (l:List Oper) (i:Nat) {T T':List AV} {h h':an} {p p':a7} {obs:List Bool} {rs:List fH},j9 C run ops n0 i l T h p=some (rs,T',h',obs,p')→ac obs →
    rs.length=l.length∧aw (l.zip rs) (T,h)=(T',h')∧∀ (j:Nat) (o:Oper),l[j]? = some o→∃ r obs' q q',rs[j]? = some r∧ac obs' ∧
      g9 C run ops n0 (i+j) o (aw ((l.zip rs).take j) (T,h)).1 (aw ((l.zip rs).take j) (T,h)).2 q=some (r,obs',q')
  | [],i,T,T',h,h',p,p',obs,rs,hr,_=>by
    simp only [j9,Option.some.injEq,Prod.mk.injEq] at hr;obtain ⟨rfl,rfl,rfl,rfl,rfl⟩:=hr
    exact ⟨rfl,rfl,fun j o h=>by simp at h⟩
  | o::l,i,T,T',h,h',p,p',obs,rs,hr,ho=>by
    simp only [j9] at hr
    split at hr
    case h_1=>cases hr
    rename_i r obs1 p1 h1
    split at hr
    case h_1=>cases hr
    rename_i rs2 T2 h2 obs2 p2 h3
    simp only [Option.some.injEq,Prod.mk.injEq] at hr;obtain ⟨rfl,rfl,rfl,rfl,rfl⟩:=hr
    rw [aj] at ho
    obtain ⟨a1,a2,a3⟩:=ja l (i+1) h3 ho.2
    refine ⟨by simp [a1],by simpa [aw] using a2,fun j o' hj=>?_⟩
    cases j with
    | zero=>simp at hj;subst hj;exact ⟨r,obs1,p,p1,by simp,ho.1,by simpa [aw] using h1⟩
    | succ j =>
      obtain ⟨r',ob,q,q',b1,b2,b3⟩:=a3 j o' (by simpa using hj)
      refine ⟨r',ob,q,q',by simpa using b1,b2,?_⟩
      rw [show i+(j+1)=i+1+j from by omega]
      simpa [aw] using b3
theorem lx{p q:Nat→Bool} :∀ {l:List Nat} {j:Nat},j∈l→p j=true→q j=false→(∀ i,q i=true→p i=true)→l.countP q<l.countP p
  | [],_,h,_,_,_=>by cases h
  | x::l,j,h,hp,hq,hi=>by
    have mono:∀ l:List Nat,l.countP q≤l.countP p:=fun l=>List.countP_mono_left fun x _=>hi x
    simp only [List.countP_cons]
    rcases List.mem_cons.1 h with rfl | h
    · rw [hp,hq];have:=mono l;simp;omega
    · have:=lx h hp hq hi
      by_cases hx:q x=true
      · rw [hx,hi x hx];omega
      · have hq':q x=false:=by simpa using hx
        rw [hq'];simp only [Bool.false_eq_true,if_false];split<;>omega
theorem qY{i j y:Nat}(h1:i*cV≤y)(h2:y<i*cV+cV)(h3:j*cV≤y)(h4:y<j*cV+cV) :i=j:=by
  have hS:0<cV:=by decide
  have a:y/cV=i:=by rw [Nat.div_eq_iff hS];omega
  have b:y/cV=j:=by rw [Nat.div_eq_iff hS];omega
  omega
theorem qe{C:gz}(hC:C.Ok){run:aS}(hrun:j1 C.P run){ops:Array Oper}{n0:Nat}{T0:List AV}{h0:an}{rs:List fH}{ms:List Nat}(D:qd ops (ops.toList.zip rs) ms)(hlen:rs.length=ops.size) 
    (each:∀ (j:Nat) (o:Oper),ops.toList[j]? = some o→∃ r obs' q q',rs[j]? = some r∧ac obs' ∧
      g9 C run ops n0 j o (aw ((ops.toList.zip rs).take j) (T0,h0)).1 (aw ((ops.toList.zip rs).take j) (T0,h0)).2 q=some (r,obs',q'))
    {Q:Exit→Act→World→Prop}:∀ (fuel:Nat) (listed:Array Bool),listed.size=ops.size→(∀ (j:Nat) (o:Oper),ops[j]? = some o→listed.getD j false=true→∀ e∈o.after,Region.binds .any e=true→listed.getD e.on false=true) →
      (List.range ops.size).countP (fun i=>!listed.getD i false)≤fuel→∀ {ρ:aa} {w:World} {a:Act},HR ρ w (ch (fun i=>listed.getD i false) 0 (ops.toList.zip rs) (T0,h0)).2 (n0+ops.size*cV) →
      (∀ b,ρ.ok b→b<n0∨∃ i,listed.getD i false=true∧n0+i*cV≤b∧b<n0+i*cV+cV)→a.defers=[]→aG ρ w (ch (fun i=>listed.getD i false) 0 (ops.toList.zip rs) (T0,h0)).1 a.tmps.toList →
      (∀ ρ' w' a',cg ρ ρ' w→bj ρ.live w w'→HR ρ' w' (aw (ops.toList.zip rs) (T0,h0)).2 (n0+ops.size*cV)→a'.defers=[]→aG ρ' w' (aw (ops.toList.zip rs) (T0,h0)).1 a'.tmps.toList→(∀ b,ρ'.ok b→ρ.ok b∨n0≤b)→Q .normal a' w') →
      wpAny C.P .any ops Q fuel listed a w:=by
  have hzl:(ops.toList.zip rs).length=ops.size:=by simp [hlen]
  have zget:∀ (j:Nat) (o:Oper) (r:fH),ops[j]? = some o→rs[j]? = some r→(ops.toList.zip rs)[j]? = some (o,r):=by
    intro j o r h1 h2
    rw [List.getElem?_zip_eq_some];exact ⟨by simpa using h1,h2⟩
  have zinv:∀ (j:Nat) (x:Oper×fH),(ops.toList.zip rs)[j]? = some x→ops[j]? = some x.1∧rs[j]? = some x.2:=by
    intro j x hx
    have:=List.getElem?_zip_eq_some.1 (show (ops.toList.zip rs)[j]? = some (x.1,x.2) from hx)
    exact ⟨by simpa using this.1,this.2⟩

  have allL:∀ (listed:Array Bool),listed.size=ops.size→(∀ i,i<ops.size→listed.getD i false=true)→ch (fun i=>listed.getD i false) 0 (ops.toList.zip rs) (T0,h0)=aw (ops.toList.zip rs) (T0,h0):=by
    intro listed hs hall
    have:∀ (l:List (Oper×fH)) (i:Nat) (s:List AV×an),i+l.length≤ops.size→ch (fun i=>listed.getD i false) i l s=aw l s:=by
      intro l
      induction l with
      | nil=>intro _ _ _;rfl
      | cons x l ih =>
        intro i s hi
        simp only [List.length_cons] at hi
        simp only [ch,aw]
        rw [hall i (by omega)]
        exact ih (i+1) _ (by omega)
    exact this _ 0 _ (by rw [hzl];omega)

  have down:∀ (listed:Array Bool),(∀ (j:Nat) (o:Oper),ops[j]? = some o→listed.getD j false=true→∀ e∈o.after,Region.binds .any e=true→listed.getD e.on false=true) →
      ∀ (j:Nat) (o:Oper),ops[j]? = some o→(∀ e∈o.after,Region.binds .any e=true→listed.getD e.on false=true)→∀ (i m:Nat),ms[j]? = some m→m.testBit i=true→listed.getD i false=true:=by
    intro listed hcl j
    induction j using Nat.strongRecOn with
    | _ j ih =>
      intro o ho hpre i m hm hbit
      have hlt:j<ops.size:=(Array.getElem?_eq_some_iff.1 ho).1
      obtain ⟨r,hr⟩:∃ r,rs[j]? = some r:=⟨rs[j]'(by omega),List.getElem?_eq_getElem (by omega)⟩
      have hz:=zget j o r ho hr
      obtain ⟨m',k1,k2⟩:=D.mask j _ hz
      rw [hm] at k1;cases k1
      obtain ⟨e,e1,e2,e3⟩:=k2 i hbit
      have hL:=hpre e e1 e2
      rcases e3 with rfl | ⟨m'',q1,q2⟩
      · exact hL
      · have hej:=D.edge j _ hz e e1 e2
        have hon:e.on<ops.size:=by omega
        exact ih e.on hej _ (Array.getElem?_eq_getElem hon) (hcl e.on _ (Array.getElem?_eq_getElem hon) hL) i m'' q1 q2
  intro fuel
  induction fuel with
  | zero =>
    intro listed hs hcl hcnt ρ w a hh hok hd hT hQ
    have hall:∀ i,i<ops.size→listed.getD i false=true:=by
      intro i hi
      have h0:=List.countP_eq_zero.1 (Nat.le_zero.1 hcnt) i (List.mem_range.2 hi)
      simpa using h0
    simp only [wpAny]
    refine ⟨?_,?_⟩
    · cases hr:Region.ready .any ops listed with
      | nil=>rfl
      | cons x xs =>
        have hx:x∈Region.ready .any ops listed:=by rw [hr];simp
        obtain ⟨k1,o,k2,_⟩:=mem_ready.1 hx
        have hlt:x<ops.size:=(Array.getElem?_eq_some_iff.1 k2).1
        have:=hall x hlt
        rw [Array.getD_eq_getD_getElem?,Array.getElem?_eq_getElem (by omega)] at this k1
        simp only [Option.getD_some] at this k1
        rw [this] at k1;cases k1
    · rw [allL listed hs hall] at hh hT
      exact hQ ρ w a (cg.refl _ _) (bj.refl _ _) hh hd hT (fun b q=>.inl q)
  | succ fuel ih =>
    intro listed hs hcl hcnt ρ w a hh hok hd hT hQ
    simp only [wpAny]
    have sameD:∀ j,j<ops.size→listed.getD j true=listed.getD j false:=by
      intro j hj
      rw [Array.getD_eq_getD_getElem?,Array.getD_eq_getD_getElem?,Array.getElem?_eq_getElem (by omega)];rfl
    refine ⟨fun hr=>?_,fun j hj=>?_⟩
    · have hall:∀ i,i<ops.size→listed.getD i false=true:=by
        intro i
        induction i using Nat.strongRecOn with
        | _ i ihi =>
          intro hi
          cases hl:listed.getD i false with
          | true=>rfl
          | false =>
            have ho:=Array.getElem?_eq_getElem hi
            obtain ⟨r,hrr⟩:∃ r,rs[i]? = some r:=⟨rs[i]'(by omega),List.getElem?_eq_getElem (by omega)⟩
            have hz:=zget i _ r ho hrr
            have:i∈Region.ready .any ops listed:=mem_ready.2 ⟨by rw [sameD i hi];exact hl,_,ho,fun e he hb=>ihi e.on (D.edge i _ hz e he hb) (by have:=D.edge i _ hz e he hb;omega)⟩
            rw [hr] at this;cases this
      rw [allL listed hs hall] at hh hT
      exact hQ ρ w a (cg.refl _ _) (bj.refl _ _) hh hd hT (fun b q=>.inl q)
    · obtain ⟨k1,o,ho,hpre⟩:=mem_ready.1 hj
      have hlt:j<ops.size:=(Array.getElem?_eq_some_iff.1 ho).1
      rw [sameD j hlt] at k1
      obtain ⟨r,obs',q,q',hr,hob,hone⟩:=each j o (by simpa using ho)
      have hz:=zget j o r ho hr

      have agree:∀ (i:Nat) (x:Oper×fH),(ops.toList.zip rs)[i]? = some x→i≠j→cx ops x.1 x.2 o r=false→cx ops o r x.1 x.2=false→listed.getD i false=decide (i<j):=by
        intro i x hx hne n1 n2
        have hxi:=zinv i x hx
        rcases Nat.lt_or_gt_of_ne hne with hij | hij
        · rcases D.pair i j x (o,r) hx hz hij with ⟨m,hm,hb⟩ | hap
          · rw [down listed hcl j o ho hpre i m hm hb];simp [hij]
          · simp only at hap;rw [n1] at hap;cases hap
        · rcases D.pair j i (o,r) x hz hx hij with ⟨m,hm,hb⟩ | hap
          · have : ¬ i<j:=by omega
            simp only [this,decide_false]
            cases hl:listed.getD i false with
            | false=>rfl
            | true =>
              have:=down listed hcl i x.1 hxi.1 (hcl i x.1 hxi.1 hl) j m hm hb
              rw [k1] at this;cases this
          · simp only at hap;rw [n2] at hap;cases hap
      have napT:∀ (x:Oper×fH) (t:Nat),x.1.dst=some t→t∈dg ops o→cx ops x.1 x.2 o r=false∧cx ops o r x.1 x.2=false:=by
        intro x t hdst ht
        constructor
        · cases hap:cx ops x.1 x.2 o r with
          | false=>rfl
          | true=>simp only [cx,Bool.and_eq_true] at hap;exact (fM hap.1 t (by simp [hdst]) ht).elim
        · cases hap:cx ops o r x.1 x.2 with
          | false=>rfl
          | true=>simp only [cx,Bool.and_eq_true] at hap;exact (fM hap.2.1 t (by simp [hdst]) ht).elim
      have napH:∀ (x:Oper×fH) (b:Nat),b∈cG x.2.sets→b∈r.reads++cG r.sets→cx ops x.1 x.2 o r=false∧cx ops o r x.1 x.2=false:=by
        intro x b hx hb
        constructor
        · cases hap:cx ops x.1 x.2 o r with
          | false=>rfl
          | true=>simp only [cx,Bool.and_eq_true] at hap;exact (fM hap.2.2.1 b hx hb).elim
        · cases hap:cx ops o r x.1 x.2 with
          | false=>rfl
          | true=>simp only [cx,Bool.and_eq_true] at hap;exact (fM hap.2.2.2 b hx hb).elim
      have eqT:∀ t∈dg ops o,(ch (fun i=>listed.getD i false) 0 (ops.toList.zip rs) (T0,h0)).1[t]? = (aw ((ops.toList.zip rs).take j) (T0,h0)).1[t]?:=by
        intro t ht
        have:=jA (ops.toList.zip rs) 0 j (T0,h0)
        rw [←this]
        refine mg _ 0 (fun k x hx hdst=>?_) rfl
        rw [Nat.zero_add,Nat.zero_add]
        by_cases hkj:k=j
        · subst hkj;rw [k1];simp
        · obtain ⟨n1,n2⟩:=napT x t hdst ht;exact agree k x hx hkj n1 n2
      have eqH:∀ b∈r.reads++cG r.sets,ag (ch (fun i=>listed.getD i false) 0 (ops.toList.zip rs) (T0,h0)).2 b=ag (aw ((ops.toList.zip rs).take j) (T0,h0)).2 b:=by
        intro b hb
        have:=jA (ops.toList.zip rs) 0 j (T0,h0)
        rw [←this]
        refine mh _ 0 (fun k x hx aQ=>?_) rfl
        rw [Nat.zero_add,Nat.zero_add]
        by_cases hkj:k=j
        · subst hkj;rw [k1];simp
        · obtain ⟨n1,n2⟩:=napH x b aQ hb;exact agree k x hx hkj n1 n2
      have hloc:=ng hone eqT (fun b hb=>eqH b (by simp [hb]))

      have L'eq:∀ i,(listed.setIfInBounds j true).getD i false=if i=j then true else listed.getD i false:=by
        intro i
        by_cases hij:i=j
        · subst hij;rw [if_pos rfl,Array.getD_eq_getD_getElem?];simp [hs,hlt]
        · rw [if_neg hij];exact getD_set_ne false (fun e=>hij e.symm)
      have step1:=jA (ops.toList.zip rs) 0 (j+1) (T0,h0)
      have hsplit:aw ((ops.toList.zip rs).take (j+1)) (T0,h0)=(hF (aw ((ops.toList.zip rs).take j) (T0,h0)).1 o.dst r.v,au r.sets (aw ((ops.toList.zip rs).take j) (T0,h0)).2):=by
        have hjl:j<(ops.toList.zip rs).length:=by rw [hzl];exact hlt
        have:(ops.toList.zip rs).take (j+1)=(ops.toList.zip rs).take j++[(o,r)]:=by
          rw [List.take_succ_eq_append_getElem hjl]
          have:=List.getElem?_eq_getElem hjl
          rw [hz] at this
          rw [←Option.some.inj this]
        rw [this,j7];rfl
      have newT:∀ t:Nat,(hF (ch (fun i=>listed.getD i false) 0 (ops.toList.zip rs) (T0,h0)).1 o.dst r.v)[t]? = (ch (fun i=>(listed.setIfInBounds j true).getD i false) 0 (ops.toList.zip rs) (T0,h0)).1[t]?:=by
        intro t
        rw [hX]
        by_cases hdst:o.dst=some t
        · rw [if_pos hdst]
          have e1:=eqT t (by simp [dg,hdst])
          rw [e1]
          have e2:(ch (fun i=>(listed.setIfInBounds j true).getD i false) 0 (ops.toList.zip rs) (T0,h0)).1[t]? = (aw ((ops.toList.zip rs).take (j+1)) (T0,h0)).1[t]?:=by
            rw [←step1]
            refine mg _ 0 (fun k x hx hd2=>?_) rfl
            rw [Nat.zero_add,Nat.zero_add,L'eq]
            by_cases hkj:k=j
            · subst hkj;simp
            · rw [if_neg hkj]
              obtain ⟨n1,n2⟩:=napT x t hd2 (by simp [dg,hdst])
              rw [agree k x hx hkj n1 n2]
              by_cases q:k<j<;>simp [q]<;>omega
          rw [e2,hsplit,hX,if_pos hdst]
        · rw [if_neg hdst]
          refine mg _ 0 (fun k x hx hd2=>?_) rfl
          rw [Nat.zero_add,L'eq]
          by_cases hkj:k=j
          · subst hkj;rw [hz] at hx;cases hx;exact absurd hd2 hdst
          · rw [if_neg hkj]
      have newH:∀ b:Nat,ag (ch (fun i=>(listed.setIfInBounds j true).getD i false) 0 (ops.toList.zip rs) (T0,h0)).2 b=ag (au r.sets (ch (fun i=>listed.getD i false) 0 (ops.toList.zip rs) (T0,h0)).2) b:=by
        intro b
        by_cases hb:b∈cG r.sets
        · rw [cN (h:=(ch (fun i=>listed.getD i false) 0 (ops.toList.zip rs) (T0,h0)).2) (h':=(aw ((ops.toList.zip rs).take j) (T0,h0)).2) r.sets (eqH b (by simp [hb]))]
          have e2:ag (ch (fun i=>(listed.setIfInBounds j true).getD i false) 0 (ops.toList.zip rs) (T0,h0)).2 b=ag (aw ((ops.toList.zip rs).take (j+1)) (T0,h0)).2 b:=by
            rw [←step1]
            refine mh _ 0 (fun k x hx hd2=>?_) rfl
            rw [Nat.zero_add,Nat.zero_add,L'eq]
            by_cases hkj:k=j
            · subst hkj;simp
            · rw [if_neg hkj]
              obtain ⟨n1,n2⟩:=napH x b hd2 (by simp [hb])
              rw [agree k x hx hkj n1 n2]
              by_cases q:k<j<;>simp [q]<;>omega
          rw [e2,hsplit]
        · rw [cO _ hb]
          refine mh _ 0 (fun k x hx hd2=>?_) rfl
          rw [Nat.zero_add,L'eq]
          by_cases hkj:k=j
          · subst hkj;rw [hz] at hx;cases hx;exact absurd hd2 hb
          · rw [if_neg hkj]
      have hS:j*cV+cV≤ops.size*cV:=by rw [←Nat.succ_mul];exact Nat.mul_le_mul_right _ hlt
      refine i8 hC hrun ho hloc hob hh (fun x h1 h2 hbad=>?_) (by omega) hd hT ?_
      · rcases hok _ hbad with q | ⟨i,q1,q2,q3⟩
        · omega
        · have:i=j:=qY (y:=x-n0) (by omega) (by omega) (by omega) (by omega)
          subst this;rw [k1] at q1;cases q1
      intro ρ' w' a' E W hh' hd' hT' hok'
      have hlist:hF (ch (fun i=>listed.getD i false) 0 (ops.toList.zip rs) (T0,h0)).1 o.dst r.v=(ch (fun i=>(listed.setIfInBounds j true).getD i false) 0 (ops.toList.zip rs) (T0,h0)).1:=List.ext_getElem? newT
      rw [hlist] at hT'
      refine ih (listed.setIfInBounds j true) (by simpa using hs) (fun i x hx hl e he hb=>?_) ?_ (hh'.congr newH) (fun b hb=>?_) hd' hT' ?_
      · rw [L'eq] at hl ⊢
        by_cases hij:i=j
        · subst hij
          rw [ho] at hx;cases hx
          split
          · rfl
          · exact hpre e he hb
        · rw [if_neg hij] at hl
          split
          · rfl
          · exact hcl i x hx hl e he hb
      · have:=lx (l:=List.range ops.size) (j:=j) (p:=fun i=>!listed.getD i false) (q:=fun i=>!(listed.setIfInBounds j true).getD i false) (List.mem_range.2 hlt) (by simp only [k1];rfl) (by simp only [L'eq,if_true];rfl)
          (fun i hi=>by
            simp only [L'eq] at hi ⊢
            split at hi
            · cases hi
            · exact hi)
        omega
      · rcases hok' b hb with q | q
        · rcases hok b q with q | ⟨i,q1,q2⟩
          · exact .inl q
          · refine .inr ⟨i,?_,q2⟩
            rw [L'eq];split
            · rfl
            · exact q1
        · exact .inr ⟨j,by rw [L'eq,if_pos rfl],q⟩
      · intro ρ'' w'' a'' E' W' hh'' hd'' hT'' hb''
        exact hQ ρ'' w'' a'' (E.trans E' W.size) (W.trans W' (fun x hx q=>E.new x hx q)) hh'' hd'' hT'' (fun b q=>by
          rcases hb'' b q with q | q
          · rcases hok' b q with q | q
            · exact .inl q
            · exact .inr (by omega)
          · exact .inr q)
theorem d4{d:ae}(h:d.kept=true) :d.foreign=true:=by
  cases d<;>first | rfl | exact ba h
mutual
def ly (g:Nat→Option ae):Nat→AV→AV
  | 0,_=>.any
  | n+1,v =>
    match v with
    | .ptr b w i j=>match g b with
      | some d=>let d':=fh g n d;bif d'.kept then .iptr .free d' w i j else .any
      | none=>.any
    | .sl b w es i len _=>match g b with
      | some d=>let d':=fh g n d;bif d'.kept then .imm .free d' w es i len else .any
      | none=>.any
    | .fn f l1 l2=>.fn f (ka g n l1) (ka g n l2)
    | .agg l=>.agg (ka g n l)
    | .tup l=>.tup (ka g n l)
    | .iface t v=>.iface t (ly g n v)
    | v=>v
def ka (g:Nat→Option ae):Nat→List AV→List AV
  | 0,l=>l.map fun _=>.any
  | n+1,l =>
    match l with
    | []=>[]
    | v::l=>ly g n v::ka g n l
def fh (g:Nat→Option ae):Nat→ae→ae
  | 0,_=>.vs []
  | n+1,d =>
    match d with
    | .vs l=>.vs (ka g n l)
    | d=>d
end
theorem kb(g:Nat→Option ae)(n:Nat)(d:ae)(h:d.recKept) :(fh g n d).recKept:=by
  cases n with
  | zero=>trivial
  | succ n=>cases d<;>first | exact h | trivial
structure pr (ρ τ:aa):Prop where
  out:τ.out=ρ.out
  live:∀ bl,τ.live bl→ρ.live bl
theorem pr.avoid{ρ τ:aa}(L:pr ρ τ){l:Lv}{bl:Nat}(h:ρ.avoid l bl) :τ.avoid l bl:=by
  refine ej (d:=0) (fun j _ q=>?_) h
  cases j with
  | zero=>exact L.live bl q
  | succ j=>simp only [Nat.add_zero,aa.own] at q ⊢;rw [L.out] at q;exact q
theorem aH{ρ τ:aa}(L:pr ρ τ){w:World}{v:AV}{u:Value}(h:VR ρ w v u) :v.foreign=true→VR τ w v u:=by
  induction h using VR.rec (motive_2:=fun l c _=>am l=true→aG τ w l c) with
  | int k n=>exact fun _=>.int k n
  | bool kn b=>exact fun _=>.bool kn b
  | flt ex x y h=>exact fun _=>.flt ex x y h
  | str s=>exact fun _=>.str s
  | nptr=>exact fun _=>.nptr
  | ptr b k i j hb=>intro hk;simp [AV.foreign] at hk
  | iptr bw d k i j bl o u ha hb hc hv hr hk hg ih=>exact fun _=>.iptr bw d k i j bl o u (L.avoid ha) hb hc (fun x v hx=>ih x v hx (ai hr hg x v hx)) hr hk hg
  | nsl=>exact fun _=>.nsl
  | esl a=>exact fun _=>.esl a
  | zsl a c=>exact fun _=>.zsl a c
  | nan n h=>exact fun _=>.nan n h
  | sl b k es i len cap cap' hb hcap hl c t hh hs=>intro hk;simp [AV.foreign] at hk
  | slEnd b k es i a=>intro hk;simp [AV.foreign] at hk
  | imm bw d k es i len cap bl o u ha hb hc hv hl hr hk hg ih=>exact fun _=>.imm bw d k es i len cap bl o u (L.avoid ha) hb hc (fun x v hx=>ih x v hx (ai hr hg x v hx)) hl hr hk hg
  | immEnd bw d k es i cap a hr hk hg=>exact fun _=>.immEnd bw d k es i cap a hr hk hg
  | fn f l1 l2 c1 c2 h1 h2 i1 i2=>intro hk;simp only [AV.foreign,Bool.and_eq_true] at hk;exact .fn f l1 l2 c1 c2 (i1 hk.1) (i2 hk.2)
  | nfn=>exact fun _=>.nfn
  | gmap ks vs bl es cl u ha hb hh hin hex hv hl hk ih=>exact fun _=>.gmap ks vs bl es cl u (L.avoid ha) hb hh hin hex (fun x v hx=>ih x v hx (bh (cU hk x v hx))) hl hk
  | gvar c bl t fr ha hb hh=>exact fun _=>.gvar c bl t fr (L.avoid ha) hb hh
  | agg l c h ih=>intro hk;exact .agg l c (ih hk)
  | tup l c h ih=>intro hk;exact .tup l c (ih hk)
  | iface t v u h ih=>intro hk;exact .iface t v u (ih hk)
  | niface=>exact fun _=>.niface
  | any u=>exact fun _=>.any u
  | nil=>exact aG.nil
  | cons v u l c h t i1 i2=>rename_i hk;simp only [am,Bool.and_eq_true] at hk;exact aG.cons v u l c (i1 hk.1) (i2 hk.2)
mutual
theorem mi {ρ τ:aa} (L:pr ρ τ) {w:World} {h:an} {m:Nat} (hh:HR ρ w h m) (off:∀ b d,ag h b=some d→ρ.ok b→¬ τ.live (ρ.at_ b)):∀ (n:Nat) {v:AV} {u:Value},VR ρ w v u→VR τ w (ly (ag h) n v) u
  | 0,v,u,hv=>.any u
  | n + 1, v, u, hv => by
    have free:∀ (b:Nat) (d:ae),ag h b=some d→ρ.ok b→τ.avoid .free (ρ.at_ b):=by
      intro b d hd hok j _
      cases j with
      | zero=>exact off b d hd hok
      | succ j=>simp only [aa.own];rw [L.out];exact hh.fresh _ (hh.real hd hok).1 j
    have content:∀ (b:Nat) (d:ae),ag h b=some d→ρ.ok b→∀ x v,(fh (ag h) n d).cell? x=some v→w.cell? ⟨ρ.at_ b,0+x,none⟩=some ((w.cell? ⟨ρ.at_ b,x,none⟩).getD undef)∧VR τ w v ((w.cell? ⟨ρ.at_ b,x,none⟩).getD undef):=by
      intro b d hd hok x v hx
      obtain ⟨_,hrk,c,t,hc,hcv⟩:=hh.real hd hok
      obtain ⟨u,q1,q2⟩:=nh L hh off n (ρ.at_ b) (fun x v hx=>by
        obtain ⟨u,k1,k2⟩:=hcv x v hx
        exact ⟨u,by simp [World.cell?,hc,k1],k2⟩) hrk x v hx
      rw [Nat.zero_add,q1];exact ⟨rfl,q2⟩
    cases v with
    | ptr b k i j =>
      simp only [ly]
      split
      · rename_i d hd
        have hrk:=hh.rk hd
        cases hk:(fh (ag h) n d).kept with
        | false=>exact .any _
        | true =>
          simp only [cond_true]
          cases hv with | ptr _ _ _ _ hb =>
          have:=VR.iptr (ρ:=τ) (w:=w) .free (fh (ag h) n d) k i j (ρ.at_ b) 0 (fun x=>(w.cell? ⟨ρ.at_ b,x,none⟩).getD undef) (free b d hd hb) (hh.liveLt _ (hh.real hd hb).1)
            (fun x v hx=>(content b d hd hb x v hx).1) (fun x v hx=>(content b d hd hb x v hx).2) (kb _ _ _ hrk) (fun _=>hk) (d4 hk)
          simpa using this
      · exact .any _
    | sl b k es i len cap =>
      simp only [ly]
      split
      · rename_i d hd
        have hrk:=hh.rk hd
        cases hk:(fh (ag h) n d).kept with
        | false=>exact .any _
        | true =>
          simp only [cond_true]
          cases hv with
          | sl _ _ _ _ _ _ cap' hb hcap hl' c t hh' hs =>
            have:=VR.imm (ρ:=τ) (w:=w) .free (fh (ag h) n d) k es i len cap' (ρ.at_ b) 0 (fun x=>(w.cell? ⟨ρ.at_ b,x,none⟩).getD undef) (free b d hd hb) (hh.liveLt _ (hh.real hd hb).1)
              (fun x v hx=>(content b d hd hb x v hx).1) (fun x v hx=>(content b d hd hb x v hx).2) (by omega) (kb _ _ _ hrk) (fun _=>hk) (d4 hk)
            simpa using this
          | slEnd=>exact .immEnd _ _ _ _ _ _ _ (kb _ _ _ hrk) (fun _=>hk) (d4 hk)
      · exact .any _
    | fn f l1 l2=>cases hv with | fn _ _ _ _ _ h1 h2=>exact .fn _ _ _ _ _ (dw L hh off n h1) (dw L hh off n h2)
    | agg l=>cases hv with | agg _ _ h1=>exact .agg _ _ (dw L hh off n h1)
    | tup l=>cases hv with | tup _ _ h1=>exact .tup _ _ (dw L hh off n h1)
    | iface t v=>cases hv with | iface _ _ _ h1=>exact .iface _ _ _ (mi L hh off n h1)
    | int=>exact aH L hv rfl
    | bool=>exact aH L hv rfl
    | flt=>exact aH L hv rfl
    | str=>exact aH L hv rfl
    | nptr=>exact aH L hv rfl
    | iptr=>exact aH L hv rfl
    | nsl=>exact aH L hv rfl
    | esl=>exact aH L hv rfl
    | zsl=>exact aH L hv rfl
    | nan=>exact aH L hv rfl
    | imm=>exact aH L hv rfl
    | nfn=>exact aH L hv rfl
    | gmap=>exact aH L hv rfl
    | gvar=>exact aH L hv rfl
    | niface=>exact aH L hv rfl
    | any=>exact .any _
theorem dw {ρ τ:aa} (L:pr ρ τ) {w:World} {h:an} {m:Nat} (hh:HR ρ w h m) (off:∀ b d,ag h b=some d→ρ.ok b→¬ τ.live (ρ.at_ b)):∀ (n:Nat) {l:List AV} {c:List Value},aG ρ w l c→aG τ w (ka (ag h) n l) c
  | 0,[],c,hv=>by cases hv;exact .nil
  | 0,v::l,c,hv=>by
    cases hv with | cons _ u _ c' h1 h2 =>
    have:=dw L hh off 0 h2
    exact .cons _ _ _ _ (.any u) this
  | n+1,[],c,hv=>by cases hv;exact .nil
  | n+1,v::l,c,hv=>by
    cases hv with | cons _ u _ c' h1 h2=>exact .cons _ _ _ _ (mi L hh off n h1) (dw L hh off n h2)
theorem nh {ρ τ:aa} (L:pr ρ τ) {w:World} {h:an} {m:Nat} (hh:HR ρ w h m) (off:∀ b d,ag h b=some d→ρ.ok b→¬ τ.live (ρ.at_ b)):∀ (n:Nat) (bl:Nat) {d:ae},(∀ x v,d.cell? x=some v→∃ u,w.cell? ⟨bl,x,none⟩=some u∧VR ρ w v u)→d.recKept →
    ∀ x v,(fh (ag h) n d).cell? x=some v→∃ u,w.cell? ⟨bl,x,none⟩=some u∧VR τ w v u
  | 0,bl,d,hc,hr,x,v,hx=>by simp [fh,ae.cell?] at hx
  | n + 1, bl, d, hc, hr, x, v, hx => by
    cases d with
    | vs l =>
      simp only [fh,ae.cell?] at hx
      have hus:aG ρ w l ((List.range l.length).map fun x=>(w.cell? ⟨bl,x,none⟩).getD undef):=by
        refine dt (by simp) fun y v u q1 q2=>?_
        obtain ⟨u',k1,k2⟩:=hc y v q1
        have hlt:y<l.length:=(List.getElem?_eq_some_iff.1 q1).1
        rw [List.getElem?_map,List.getElem?_range hlt] at q2
        simp [k1] at q2;subst q2;exact k2
      have hr2:=dw L hh off n hus
      obtain ⟨u,q1,q2⟩:=hr2.get x v hx
      rw [List.getElem?_map] at q1
      have hlt:x<l.length:=by
        rcases Nat.lt_or_ge x l.length with q | q
        · exact q
        · rw [List.getElem?_eq_none (by simpa using q)] at q1;cases q1
      rw [List.getElem?_range hlt] at q1
      obtain ⟨u',k1,_⟩:=hc x (l[x]) (List.getElem?_eq_getElem hlt)
      simp [k1] at q1;subst q1
      exact ⟨u',k1,q2⟩
    | fl xs=>obtain ⟨u,q1,q2⟩:=hc x v hx;exact ⟨u,q1,aH L q2 (ai (d:=.fl xs) hr rfl x v hx)⟩
    | ns k xs=>obtain ⟨u,q1,q2⟩:=hc x v hx;exact ⟨u,q1,aH L q2 (ai (d:=.ns k xs) hr rfl x v hx)⟩
    | bs xs=>obtain ⟨u,q1,q2⟩:=hc x v hx;exact ⟨u,q1,aH L q2 (ai (d:=.bs xs) hr rfl x v hx)⟩
    | ss xs=>obtain ⟨u,q1,q2⟩:=hc x v hx;exact ⟨u,q1,aH L q2 (ai (d:=.ss xs) hr rfl x v hx)⟩
    | rows k m get=>obtain ⟨u,q1,q2⟩:=hc x v hx;exact ⟨u,q1,aH L q2 (ai (d:=.rows k m get) hr rfl x v hx)⟩
    | cols k cs=>obtain ⟨u,q1,q2⟩:=hc x v hx;exact ⟨u,q1,aH L q2 (ai (d:=.cols k cs) hr rfl x v hx)⟩
end
mutual
def qR (σ:Nat→Option Nat):AV→AV
  | .ptr b w i j=>match σ b with | some c=>.ptr c w i j | none=>.any
  | .sl b w es i len cap=>match σ b with | some c=>.sl c w es i len cap | none=>.any
  | .fn f l1 l2=>.fn f (pN σ l1) (pN σ l2)
  | .agg l=>.agg (pN σ l)
  | .tup l=>.tup (pN σ l)
  | .iface t v=>.iface t (qR σ v)
  | v=>v
def pN (σ:Nat→Option Nat):List AV→List AV
  | []=>[]
  | v::l=>qR σ v::pN σ l
end
def aa.renamed(ρ:aa)(keep:List Nat) :aa :=
  { at_:=fun i=>ρ.at_ ((keep[i]?).getD 0),live:=ρ.live,out:=ρ.out,ok:=fun i=>∃ b,keep[i]? = some b∧ρ.ok b }
mutual
theorem lz {ρ:aa} {keep:List Nat} {w:World}:∀ (v:AV) {u:Value},VR ρ w v u→VR (ρ.renamed keep) w (qR (bL keep 0) v) u
  | .ptr b k i j,u,h=>by
    simp only [qR]
    split
    · rename_i c hc
      cases h with | ptr _ _ _ _ hb =>
      obtain ⟨_,hg⟩:=fF hc
      rw [Nat.sub_zero] at hg
      have:(ρ.renamed keep).at_ c=ρ.at_ b:=by simp [aa.renamed,hg]
      rw [←this];exact .ptr _ _ _ _ ⟨b,hg,hb⟩
    · exact .any u
  | .sl b k es i len cap,u,h=>by
    simp only [qR]
    split
    · rename_i c hc
      obtain ⟨_,hg⟩:=fF hc
      rw [Nat.sub_zero] at hg
      have e:(ρ.renamed keep).at_ c=ρ.at_ b:=by simp [aa.renamed,hg]
      cases h with
      | sl _ _ _ _ _ _ cap' hb hcap hl ce t hh hs=>rw [←e] at hh ⊢;exact .sl _ _ _ _ _ _ _ ⟨b,hg,hb⟩ hcap hl ce t hh hs
      | slEnd=>exact .slEnd _ _ _ _ _
    · exact .any u
  | .fn f l1 l2,u,h=>by cases h with | fn _ _ _ _ _ h1 h2=>exact .fn _ _ _ _ _ (ke l1 h1) (ke l2 h2)
  | .agg l,u,h=>by cases h with | agg _ _ h1=>exact .agg _ _ (ke l h1)
  | .tup l,u,h=>by cases h with | tup _ _ h1=>exact .tup _ _ (ke l h1)
  | .iface t v,u,h=>by cases h with | iface _ _ _ h1=>exact .iface _ _ _ (lz v h1)
  | .int ..,u,h=>aI h rfl
  | .bool ..,u,h=>aI h rfl
  | .flt ..,u,h=>aI h rfl
  | .str ..,u,h=>aI h rfl
  | .nptr,u,h=>aI h rfl
  | .iptr ..,u,h=>aI h rfl
  | .nsl,u,h=>aI h rfl
  | .esl,u,h=>aI h rfl
  | .zsl _,u,h=>aI h rfl
  | .nan,u,h=>aI h rfl
  | .imm ..,u,h=>aI h rfl
  | .nfn,u,h=>aI h rfl
  | .gmap ..,u,h=>aI h rfl
  | .gvar _,u,h=>aI h rfl
  | .niface,u,h=>aI h rfl
  | .any,u,h=>.any u
theorem ke {ρ:aa} {keep:List Nat} {w:World}:∀ (l:List AV) {c:List Value},aG ρ w l c→aG (ρ.renamed keep) w (pN (bL keep 0) l) c
  | [],c,h=>by cases h;exact .nil
  | v::l,c,h=>by cases h with | cons _ u _ c' h1 h2=>exact .cons _ _ _ _ (lz v h1) (ke l h2)
theorem aI {ρ:aa} {keep:List Nat} {w:World} {v:AV} {u:Value} (h:VR ρ w v u) (hf:v.foreign=true):VR (ρ.renamed keep) w v u :=
  aH (ρ:=ρ) (τ:=ρ.renamed keep) ⟨rfl,fun _ q=>q⟩ h hf
end
def rR(σ:Nat→Option Nat) :ae→ae
  | .vs l=>.vs (pN σ l)
  | d=>d
theorem mj(σ:Nat→Option Nat) :∀ (l:List AV) (x:Nat),(pN σ l)[x]? = (l[x]?).map (qR σ)
  | [],x=>by simp [pN]
  | v::l,0=>by simp [pN]
  | v::l,x+1=>by simp [pN,mj σ l x]
theorem qf{σ:Nat→Option Nat}{d:ae}(h:d.recKept) :(rR σ d).recKept:=by
  cases d<;>first | exact h | trivial
theorem ni{σ:Nat→Option Nat}{d:ae}{x:Nat}{v:AV}(h:(rR σ d).cell? x=some v)(hr:d.recKept) :∃ v',d.cell? x=some v'∧(v=qR σ v'∨(v=v'∧v.foreign=true)):=by
  cases d with
  | vs l =>
    simp only [rR,ae.cell?,mj,Option.map_eq_some_iff] at h
    obtain ⟨v',h1,rfl⟩:=h
    exact ⟨v',h1,.inl rfl⟩
  | fl xs=>exact ⟨v,h,.inr ⟨rfl,ai (d:=.fl xs) hr rfl x v h⟩⟩
  | ns k xs=>exact ⟨v,h,.inr ⟨rfl,ai (d:=.ns k xs) hr rfl x v h⟩⟩
  | bs xs=>exact ⟨v,h,.inr ⟨rfl,ai (d:=.bs xs) hr rfl x v h⟩⟩
  | ss xs=>exact ⟨v,h,.inr ⟨rfl,ai (d:=.ss xs) hr rfl x v h⟩⟩
  | rows k m get=>exact ⟨v,h,.inr ⟨rfl,ai (d:=.rows k m get) hr rfl x v h⟩⟩
  | cols m cs=>exact ⟨v,h,.inr ⟨rfl,ai (d:=.cols m cs) hr rfl x v h⟩⟩
def oM(k:Nat)(R:List Nat) :List Nat:=List.range k++R.filter fun b=>Nat.ble k b
theorem pt{k i:Nat}{R:List Nat}(h:i<k) :(oM k R)[i]? = some i:=by
  unfold oM
  rw [List.getElem?_append_left (by simpa using h),List.getElem?_range h]
def cW(σ:Nat→Option Nat)(h:an) :List Nat→List (Option ae)
  | []=>[]
  | b::l=>(ag h b).map (rR σ)::cW σ h l
theorem dh(σ:Nat→Option Nat)(h:an) :∀ (l:List Nat) (i:Nat),(cW σ h l)[i]? = (l[i]?).map fun b=>(ag h b).map (rR σ)
  | [],i=>by simp [cW]
  | b::l,0=>by simp [cW]
  | b::l,i+1=>by simp [cW,dh σ h l i]
theorem c4(σ:Nat→Option Nat)(h:an) :∀ (l:List Nat),(cW σ h l).length=l.length
  | []=>rfl
  | b::l=>by simp [cW,c4 σ h l]
def kf(k:Nat)(keep:Bool)(h:an)(v:AV) :Option iJ :=
  match keep,k with
  | true,0=>some ⟨ly (ag h) aX v,[]⟩
  | _,_ =>
    let L:=oM k (bQ (ag h) aX (List.range k++md v) [])
    bif eB L then some ⟨qR (bL L 0) v,cW (bL L 0) h L⟩ else none
theorem nj{ρ ρ0:aa}{w0 w:World}{h:an}{m:Nat}{lent:List ae}{keep:Bool}(hh:HR ρ w h m)(hN:bv ρ0 w0 lent)(E:cg ρ0 ρ w0)(hbk:∀ i,i<lent.length→ρ.ok i→ρ0.ok i)(W:w0.heap.size≤w.heap.size){v:AV}{u:Value}(hv:VR ρ w v u){r:iJ} 
    (hr:kf lent.length keep h v=some r):r.Holds ρ0 w0 w lent.length u:=by
  unfold kf at hr
  split at hr
  · rename_i k hk
    cases hr
    have none_ok:∀ b,¬ ρ0.ok b:=fun b q=>by have:=hN.heap.lt b q;omega
    have none_live:∀ bl,¬ ρ0.live bl:=fun bl q=>by obtain ⟨i,h1,_⟩:=hN.only bl q;exact none_ok i h1
    refine ⟨ρ0,cg.refl _ _,fun i h=>by omega,⟨fun b d q=>?_,fun b c d e q=>?_,fun bl q=>(none_live bl q).elim,fun bl q=>(none_live bl q).elim,fun j bl q=>?_,fun b q=>(none_ok b q).elim,fun x hx=>aH (τ:=ρ0) ⟨E.out.symm,fun bl q=>(none_live bl q).elim⟩ (hh.rom x hx) (bh (Rom.kept x hx))⟩,?_⟩
    · simp [aF,ag] at q
    · simp [aF,ag] at q
    · exact Nat.lt_of_lt_of_le (hN.heap.outLt j bl q) W
    · exact mi (τ:=ρ0) ⟨E.out.symm,fun bl q=>(none_live bl q).elim⟩ hh (fun _ _ _ _ q=>none_live _ q) aX hv
  · simp only at hr
    generalize hL:oM lent.length (bQ (ag h) aX (List.range lent.length++md v) [])=L at hr
    cases hn:eB L with
    | false=>rw [hn] at hr;cases hr
    | true =>
    rw [hn] at hr
    simp only [cond_true,Option.some.injEq] at hr;subst hr
    have idL:∀ {i:Nat},i<lent.length→L[i]? = some i:=fun q=>by rw [←hL];exact pt q
    have atL:∀ {i b:Nat},L[i]? = some b→(ρ.renamed L).at_ i=ρ.at_ b:=fun q=>by simp [aa.renamed,q]
    refine ⟨ρ.renamed L,⟨fun b q=>?_,fun b q=>?_,E.live,E.new,E.out⟩,fun i hi q=>?_,⟨fun i d q=>?_,fun i j d e q1 q2 ok1 ok2 he=>?_,hh.fresh,hh.liveLt,hh.outLt,fun i q=>?_,fun x hx=>aI (hh.rom x hx) (bh (Rom.kept x hx))⟩,lz v hv⟩
    · rw [atL (idL (hN.heap.lt b q))];exact E.at_ b q
    · exact ⟨b,idL (hN.heap.lt b q),E.ok b q⟩
    · obtain ⟨b,h1,h2⟩:=q
      rw [idL hi] at h1;cases h1
      exact hbk i hi h2
    · have q:=bu q
      simp only at q
      rw [dh,Option.map_eq_some_iff] at q
      obtain ⟨b,h1,h2⟩:=q
      rw [Option.map_eq_some_iff] at h2
      obtain ⟨d0,h3,rfl⟩:=h2
      rcases hh.cell b d0 h3 with ⟨k1,k2,hr,c,t,r1,r2⟩ | ⟨k1,k2,k3,k4⟩
      · refine .inl ⟨⟨b,h1,k1⟩,by rw [atL h1];exact k2,qf hr,c,t,by rw [atL h1];exact r1,fun x v hx=>?_⟩
        obtain ⟨v',s1,s2⟩:=ni hx hr
        obtain ⟨u,t1,t2⟩:=r2 x v' s1
        refine ⟨u,t1,?_⟩
        rcases s2 with rfl | ⟨rfl,hf⟩
        · exact lz v' t2
        · exact aI t2 hf
      · refine .inr ⟨?_,?_,qf k3,fun x=>?_⟩
        · rintro ⟨b',q1,q2⟩
          rw [h1] at q1;cases q1
          exact k1 q2
        · rw [c4];exact (List.getElem?_eq_some_iff.1 h1).1
        · cases hc:(rR (bL L 0) d0).cell? x with
          | none=>rfl
          | some v=>obtain ⟨v',s1,_⟩:=ni hc k3;rw [k4 x] at s1;cases s1
    · obtain ⟨b,r1,r2⟩:=ok1
      obtain ⟨c,r3,r4⟩:=ok2
      have q1:=bu q1
      have q2:=bu q2
      simp only at q1 q2
      rw [dh,r1] at q1
      rw [dh,r3] at q2
      simp only [Option.map_some,Option.some.injEq,Option.map_eq_some_iff] at q1 q2
      obtain ⟨d1,s1,_⟩:=q1
      obtain ⟨d2,s2,_⟩:=q2
      rw [atL r1,atL r3] at he
      have:=hh.inj b c d1 d2 s1 s2 r2 r4 he
      subst this
      exact eC hn r1 r3
    · obtain ⟨b,r1,_⟩:=q
      simp only [c4]
      exact (List.getElem?_eq_some_iff.1 r1).1
inductive AE where
  | normal
  | ret
  | exit (id:Nat)
def AE.real:AE→Exit
  | .normal=>.normal
  | .ret=>.ret
  | .exit id=>.exit id
abbrev rg:=Option (AE×ax×List Bool×a7)
abbrev dN:=Code→ax→a7→rg
def iN(C:gz)(run:aS)(ops:Array Oper)(draw:Bool)(st:ax)(p:a7) :rg :=
  match draw with
  | false =>
    match j4 C run ops st.next 0 ops.toList st.tmps st.heap p with
    | some (T,h,obs,p')=>some (.normal,⟨T,h,st.next+ops.size*cV⟩,obs,p')
    | none=>none
  | true =>
    match j9 C run ops st.next 0 ops.toList st.tmps st.heap p with
    | some (rs,T,h,obs,p')=>bif j6 ops [] [] (ops.toList.zip rs) then some (.normal,⟨T,h,st.next+ops.size*cV⟩,obs,p') else none
    | none=>none
def dx(T:List AV)(c:Operand)(b:Bool) :List AV :=
  match c with
  | .tmp t=>T.set t (.bool true b)
  | _=>T
def jB(body:ax→a7→rg) :Nat→ax→a7→rg
  | 0,_,_=>none
  | n+1,st,p =>
    match body st p with
    | some (.normal,st1,o1,p1) =>
      match jB body n st1 p1 with
      | some (e,st2,o2,p2)=>some (e,st2,o1++o2,p2)
      | none=>none
    | r=>r
def kg(C:gz)(run:aS)(N:Nat)(self:dN)(c:Code)(st:ax)(p:a7) :rg :=
  match c with
  | .skip | .label _=>some (.normal,st,[],p)
  | .region _ ops draw=>iN C run ops draw st p
  | .seq a b =>
    match self a st p with
    | some (.normal,st1,o1,p1) =>
      match self b st1 p1 with
      | some (e,st2,o2,p2)=>some (e,st2,o1++o2,p2)
      | none=>none
    | r=>r
  | .cond c a b =>
    match jz (qT st.tmps c) p with
    | some (x,o1,p1) =>
      match self (match x with | true=>a | false=>b) { st with tmps:=dx st.tmps c x } p1 with
      | some (e,st2,o2,p2)=>some (e,st2,o1++o2,p2)
      | none=>none
    | none=>none
  | .block id b =>
    match self b st p with
    | some (.exit id',st1,o1,p1)=>bif Nat.beq id' id then some (.normal,st1,o1,p1) else some (.exit id',st1,o1,p1)
    | r=>r
  | .loop b=>jB (self b) N st p
  | .exit id=>some (.exit id,st,[],p)
  | .ret=>some (.ret,st,[],p)
  | .scope b=>self b st p
  | _=>none
structure jh where
  out:iJ
  obs:List Bool
def qg(alts:List jh)(p:a7) :Option (jh×a7) :=
  match alts,p with
  | [a],p=>some (a,p)
  | alts,none=>(alts.find? fun a=>rK a.obs).map fun a=>(a,none)
  | alts,some (k::r)=>(alts[k]?).map fun a=>(a,some r)
  | _,_=>none
theorem pu{alts:List jh}{p p':a7}{a:jh}(h:qg alts p=some (a,p')) :a∈alts:=by
  unfold qg at h
  split at h
  · simp only [Option.some.injEq,Prod.mk.injEq] at h;rw [←h.1];simp
  · simp only [Option.map_eq_some_iff,Prod.mk.injEq] at h;obtain ⟨b,h1,rfl,_⟩:=h;exact List.mem_of_find?_eq_some h1
  · simp only [Option.map_eq_some_iff,Prod.mk.injEq] at h;obtain ⟨b,h1,rfl,_⟩:=h;exact List.mem_of_getElem? h1
  · cases h
abbrev hY:=FuncId→List ae→List AV→Option (List jh)
def br(P:Program)(fn:Func)(st:ax) :List ResultVar→Option (List AV×List Bool)
  | []=>some ([],[])
  | .tmp t::l =>
    match br P fn st l with
    | some (vs,o)=>some ((st.tmps[t]?).getD .any::vs,o)
    | none=>none
  | .cell a t::l =>
    match gQ P (ag st.heap) t ((st.tmps[a]?).getD .any),br P fn st l with
    | some (v,o,_),some (vs,o')=>some (v::vs,o++o')
    | _,_=>none
def iO:List AV→AV
  | [v]=>v
  | vs=>.tup vs
def dO(fn:Func)(lent:List ae)(args:List AV) :ax:=⟨args++List.replicate (fn.ntmps-args.length) (.tup []),aF 0 (lent.map some),lent.length⟩
def nk(C : gz)(S : hY)(self : dN) : aS := fun f lent args p =>
  match S f lent args with
  | some alts=>(qg alts p).map fun r=>(r.1.out,r.1.obs,r.2)
  | none =>
    match C.P.funcs[f]? with
    | some fn =>
      match fn.body with
      | some c =>
        match self c (dO fn lent args) p with
        | some (e,st,o1,p1) =>
          match e,br C.P fn st fn.results.toList with
          | .exit _,_=>none
          | _,some (vs,o2) =>
            match kf lent.length (C.mode f).keep st.heap (iO vs) with
            | some r=>some (r,o1++o2,p1)
            | none=>none
          | _,none=>none
        | none=>none
      | none=>none
    | none=>none
def eE(C:gz)(S:hY)(N:Nat) :Nat→dN
  | 0=>fun _ _ _=>none
  | n+1=>kg C (nk C S (eE C S N n)) N (eE C S N n)
def ao(P:Program)(f:FuncId)(lent:List ae)(args:List AV)(r:iJ) :Prop :=
  ∀ (ρ:aa) (w:World) (us:List Value),bv ρ w lent→aG ρ w args us →
    (∃ fn,P.funcs[f]? = some fn∧fn.body.isSome=true)∧Calls P f us.toArray w fun e w'=>∃ u,e=.returned u∧bj ρ.live w w'∧r.Holds ρ w w' lent.length u
def bB(P:Program)(S:hY) :Prop:=∀ f lent args alts a,S f lent args=some alts→a∈alts→ac a.obs→ao P f lent args a.out
def kh(P:Program)(self:dN) :Prop :=
  ∀ c st p e st' obs p',self c st p=some (e,st',obs,p')→ac obs→∀ (ρ:aa) (a:Act) (w:World) (Q:Exit→Act→World→Prop),SR ρ st a w →
    (∀ ρ' a' w',fc ρ w st.next st' ρ' a' w'→Q e.real a' w')→c.wp P Q a w
theorem fc.trans{ρ ρ1 ρ2:aa}{w w1 w2:World}{n:Nat}{st1 st2:ax}{a1 a2:Act}(h:fc ρ w n st1 ρ1 a1 w1)(k:fc ρ1 w1 st1.next st2 ρ2 a2 w2) :fc ρ w n st2 ρ2 a2 w2 :=
  ⟨h.ext.trans k.ext h.wle.size,h.wle.trans k.wle (fun x hx q=>h.ext.new x hx q),k.sr,Nat.le_trans h.le k.le,fun b q=>by
    rcases k.back b q with q | q
    · exact h.back b q
    · exact .inr (Nat.le_trans h.le q)⟩
theorem fc.refl{ρ:aa}{w:World}{st:ax}{a:Act}(h:SR ρ st a w) :fc ρ w st.next st ρ a w:=⟨cg.refl _ _,bj.refl _ _,h,Nat.le_refl _,fun b q=>.inl q⟩
theorem pv(n:Nat) :List.range n=List.range' 0 n:=List.range_eq_range'
theorem ml{C:gz}(hC:C.Ok){run:aS}(hrun:j1 C.P run){id:Nat}{ops:Array Oper}{draw:Bool}{st st':ax}{p p':a7}{e:AE}{obs:List Bool}(h:iN C run ops draw st p=some (e,st',obs,p')) 
    (ho:ac obs) {ρ:aa} {a:Act} {w:World} {Q:Exit→Act→World→Prop} (hs:SR ρ st a w) (hQ:∀ ρ' a' w',fc ρ w st.next st' ρ' a' w'→Q e.real a' w'):(Code.region id ops draw).wp C.P Q a w:=by
  unfold iN at h
  cases draw with
  | false =>
    simp only at h
    split at h
    case h_2=>cases h
    rename_i T hp obs' p1 hr
    simp only [Option.some.injEq,Prod.mk.injEq] at h;obtain ⟨rfl,rfl,rfl,rfl⟩:=h
    refine wp_region ?_
    rw [pv,←Array.length_toList]
    refine hP hC hrun ops.toList 0 (fun j=>by simp) hr ho (hs.heap.le (by omega)) (fun b hb=>by have:=hs.heap.lt b hb;omega) hs.defers hs.tmps ?_
    intro ρ' w' a' E W hh hd hT hb
    exact hQ ρ' a' w' ⟨E,W,⟨hd,hT,hh⟩,Nat.le_add_right _ _,hb⟩
  | true =>
    simp only at h
    split at h
    case h_2=>cases h
    rename_i rs T hp obs' p1 hr
    cases hd:j6 ops [] [] (ops.toList.zip rs) with
    | false=>rw [hd] at h;cases h
    | true =>
      rw [hd] at h
      simp only [cond_true,Option.some.injEq,Prod.mk.injEq] at h;obtain ⟨rfl,rfl,rfl,rfl⟩:=h
      obtain ⟨s1,s2,s3⟩:=ja _ _ hr ho
      obtain ⟨ms,D⟩:=i9 (ops.toList.zip rs) [] [] rfl hd ⟨fun j x hx=>by simp at hx,fun j x hx=>by simp at hx,fun i j x y hx=>by simp at hx⟩
      rw [List.nil_append] at D
      refine wp_region_any hC.mixed ?_
      have W0:=bj.drawn ρ.live w (w.drawn+1)
      have E0:=cg.refl ρ w
      have notL:∀ i,(Array.replicate ops.size false).getD i false=false:=by
        intro i;rw [Array.getD_eq_getD_getElem?]
        cases hq:(Array.replicate ops.size false)[i]? with
        | none=>rfl
        | some b=>rw [Array.getElem?_replicate] at hq;split at hq<;>simp_all
      have a0:∀ (l:List (Oper×fH)) (i:Nat) (s:List AV×an),ch (fun i=>(Array.replicate ops.size false).getD i false) i l s=s:=by
        intro l
        induction l with
        | nil=>intro _ _;rfl
        | cons x l ih=>intro i s;simp only [ch];rw [notL i];exact ih _ _
      refine qe hC hrun D (by rw [s1];simp) (fun j o hj=>by have:=s3 j o hj;rw [Nat.zero_add] at this;exact this) ops.size (Array.replicate ops.size false) (by simp) (fun j o _ hl=>by rw [notL] at hl;cases hl)
        (by have:=List.countP_le_length (p:=fun i=>!(Array.replicate ops.size false).getD i false) (l:=List.range ops.size);simpa using this) (ρ:=ρ) (a:=a) ?_ ?_ hs.defers ?_ ?_
      · rw [a0];exact (hs.heap.le (by omega)).drawn _
      · intro b hb;have:=hs.heap.lt b hb;exact .inl this
      · rw [a0];exact hs.tmps.mono E0 W0
      · intro ρ' w' a' E W hh hd' hT hb
        rw [s2] at hh hT
        exact hQ ρ' a' w' ⟨⟨E.at_,E.ok,E.live,fun b hb=>E.new b hb,E.out⟩,W0.trans W (fun _ _ q=>q),⟨hd',hT,hh⟩,Nat.le_add_right _ _,hb⟩
theorem ki{C:gz}{body:ax→a7→rg}{b:Code}(hb:∀ st p e st' obs p',body st p=some (e,st',obs,p')→ac obs→∀ (ρ:aa) (a:Act) (w:World) (Q:Exit→Act→World→Prop),SR ρ st a w →
    (∀ ρ' a' w',fc ρ w st.next st' ρ' a' w'→Q e.real a' w')→b.wp C.P Q a w) :∀ (n:Nat) (st:ax) (p:a7) (e:AE) (st':ax) (obs:List Bool) (p':a7),jB body n st p=some (e,st',obs,p')→ac obs →
    ∀ (ρ:aa) (a:Act) (w:World) (Q:Exit→Act→World→Prop),SR ρ st a w→(∀ ρ' a' w',fc ρ w st.next st' ρ' a' w'→Q e.real a' w')→Code.rounds C.P b Q n a w
  | 0,st,p,e,st',obs,p',h,_,_,_,_,_,_,_=>by cases h
  | n+1,st,p,e,st',obs,p',h,ho,ρ,a,w,Q,hs,hQ=>by
    simp only [jB] at h
    rw [rounds_succ]
    split at h
    · rename_i st1 o1 p1 h1
      split at h
      case h_2=>cases h
      rename_i e2 st2 o2 p2 h2
      simp only [Option.some.injEq,Prod.mk.injEq] at h;obtain ⟨rfl,rfl,rfl,rfl⟩:=h
      rw [aj] at ho
      refine hb st p _ _ _ _ h1 ho.1 ρ a w _ hs fun ρ1 a1 w1 P1=>?_
      exact ki hb n st1 p1 _ _ _ _ h2 ho.2 ρ1 a1 w1 Q P1.sr fun ρ2 a2 w2 P2=>hQ ρ2 a2 w2 (P1.trans P2)
    · rename_i hne
      refine hb st p _ _ _ _ h ho ρ a w _ hs fun ρ1 a1 w1 P1=>?_
      have:=hQ ρ1 a1 w1 P1
      cases e with
      | normal=>exact (hne _ _ _ h).elim
      | ret=>exact this
      | exit id=>exact this
theorem nl{C:gz}(hC:C.Ok){run:aS}(hrun:j1 C.P run){N:Nat}{self:dN}(hself:kh C.P self) :kh C.P (kg C run N self):=by
  intro c st p e st' obs p' h ho ρ a w Q hs hQ
  unfold kg at h
  split at h
  · simp only [Option.some.injEq,Prod.mk.injEq] at h;obtain ⟨rfl,rfl,rfl,rfl⟩:=h
    exact wp_skip (hQ ρ a w (fc.refl hs))
  · simp only [Option.some.injEq,Prod.mk.injEq] at h;obtain ⟨rfl,rfl,rfl,rfl⟩:=h
    exact wp_label (hQ ρ a w (fc.refl hs))
  · exact ml hC hrun h ho hs hQ
  · rename_i x y
    refine wp_seq ?_
    split at h
    · rename_i st1 o1 p1 h1
      split at h
      case h_2=>cases h
      rename_i e2 st2 o2 p2 h2
      simp only [Option.some.injEq,Prod.mk.injEq] at h;obtain ⟨rfl,rfl,rfl,rfl⟩:=h
      rw [aj] at ho
      refine hself x st p _ _ _ _ h1 ho.1 ρ a w _ hs fun ρ1 a1 w1 P1=>?_
      exact hself y st1 p1 _ _ _ _ h2 ho.2 ρ1 a1 w1 Q P1.sr fun ρ2 a2 w2 P2=>hQ ρ2 a2 w2 (P1.trans P2)
    · rename_i hne
      refine hself x st p _ _ _ _ h ho ρ a w _ hs fun ρ1 a1 w1 P1=>?_
      have:=hQ ρ1 a1 w1 P1
      cases e with
      | normal=>exact (hne _ _ _ h).elim
      | ret=>exact this
      | exit id=>exact this
  · rename_i cc x y
    split at h
    case h_2=>cases h
    rename_i b o1 p1 h1
    split at h
    case h_2=>cases h
    rename_i e2 st2 o2 p2 h2
    simp only [Option.some.injEq,Prod.mk.injEq] at h;obtain ⟨rfl,rfl,rfl,rfl⟩:=h
    rw [aj] at ho
    have hb:=j3 (jI hs.heap.rom hs.tmps cc) h1 ho.1
    refine wp_cond hb ?_
    have hs':SR ρ { st with tmps:=dx st.tmps cc b } a w:=by
      refine ⟨hs.defers,?_,hs.heap⟩
      cases cc with
      | tmp t =>
        simp only [dx]
        have:aG ρ w (st.tmps.set t (.bool true b)) (a.tmps.toList.set t (.bool b)):=hs.tmps.set (.bool _ _) t
        have e:a.tmps.toList.set t (.bool b)=a.tmps.toList:=by
          apply List.ext_getElem?
          intro j
          rw [List.getElem?_set]
          split
          · rename_i q;subst q
            split
            · rename_i hlt
              simp only [Act.eval] at hb
              rw [Array.getD_eq_getD_getElem?] at hb
              have hlt':t<a.tmps.size:=by simpa using hlt
              rw [Array.getElem?_eq_getElem hlt'] at hb
              simp only [Option.getD_some] at hb
              simp [hlt',hb]
            · rename_i hge
              rw [List.getElem?_eq_none (by omega)]
          · rfl
        rw [e] at this;exact this
      | const v=>exact hs.tmps
      | global g=>exact hs.tmps
      | func f=>exact hs.tmps
    have:=hself _ _ p1 _ _ _ _ h2 ho.2 ρ a w Q hs' hQ
    cases b<;>exact this
  · rename_i id b
    refine wp_block ?_
    split at h
    · rename_i id' st1 o1 p1 h1
      cases hid:Nat.beq id' id with
      | true =>
        rw [hid] at h
        simp only [cond_true,Option.some.injEq,Prod.mk.injEq] at h;obtain ⟨rfl,rfl,rfl,rfl⟩:=h
        refine hself b st p _ _ _ _ h1 ho ρ a w _ hs fun ρ1 a1 w1 P1=>?_
        simp only [AE.real,Exit.inBlock,Nat.eq_of_beq_eq_true hid,if_true]
        exact hQ ρ1 a1 w1 P1
      | false =>
        rw [hid] at h
        simp only [cond_false,Option.some.injEq,Prod.mk.injEq] at h;obtain ⟨rfl,rfl,rfl,rfl⟩:=h
        refine hself b st p _ _ _ _ h1 ho ρ a w _ hs fun ρ1 a1 w1 P1=>?_
        have hne : ¬ id'=id:=fun e=>by subst e;simp [cA] at hid
        simp only [AE.real,Exit.inBlock,hne,if_false]
        exact hQ ρ1 a1 w1 P1
    · rename_i hne
      refine hself b st p _ _ _ _ h ho ρ a w _ hs fun ρ1 a1 w1 P1=>?_
      have:=hQ ρ1 a1 w1 P1
      cases e with
      | normal=>exact this
      | ret=>exact this
      | exit id=>exact (hne _ _ _ _ h).elim
  · rename_i b
    exact wp_loop_rounds N (ki (C:=C) (b:=b) (fun st p e st' obs p' h1 h2=>hself b st p e st' obs p' h1 h2) N st p e st' obs p' h ho ρ a w Q hs hQ)
  · simp only [Option.some.injEq,Prod.mk.injEq] at h;obtain ⟨rfl,rfl,rfl,rfl⟩:=h
    exact wp_exit (hQ ρ a w (fc.refl hs))
  · simp only [Option.some.injEq,Prod.mk.injEq] at h;obtain ⟨rfl,rfl,rfl,rfl⟩:=h
    exact wp_ret (hQ ρ a w (fc.refl hs))
  · rename_i b
    refine wp_scope_straight (hself b st p _ _ _ _ h ho ρ a w _ hs fun ρ1 a1 w1 P1=>?_)
    have:=hQ ρ1 a1 w1 P1
    cases e<;>exact this
  · cases h
theorem kj{P:Program}{w:World}{t:TypeId}{x:Value}{u:Value}(hx:∃ a,x=.pointer (some a))(h:(Instr.loadAt t x).run P w=.ok u w) :(do loadVar t (←asAddr x):Sem Value).run P w=.ok u w:=by
  obtain ⟨a,rfl⟩:=hx
  simpa [Instr.loadAt,Instr.sureAddr,asAddr] using h
def km(tmps:Array Value) :ResultVar→Sem Value
  | .tmp t=>pure (tmps.getD t undef)
  | .cell x t=>do loadVar t (←asAddr (tmps.getD x undef))
theorem oi(fn:Func)(tmps:Array Value) :results fn tmps=(do let vs ← fn.results.mapM (km tmps);pure (if h:vs.size=1 then vs[0] else .tuple vs)):=by
  unfold results
  congr 1
theorem fi{P:Program}{fn:Func}{st:ax}{ρ:aa}{a:Act}{w:World}(hs:SR ρ st a w) :∀ (l:List ResultVar) {vs:List AV} {obs:List Bool},br P fn st l=some (vs,obs)→ac obs →
    ∃ us:List Value,(l.mapM (km a.tmps)).run P w=.ok us w∧aG ρ w vs us
  | [],vs,obs,h,ho=>by
    simp only [br,Option.some.injEq,Prod.mk.injEq] at h;obtain ⟨rfl,rfl⟩:=h
    exact ⟨[],by simp,.nil⟩
  | .tmp t::l,vs,obs,h,ho=>by
    simp only [br] at h
    split at h
    case h_2=>cases h
    rename_i vs' o' h1
    simp only [Option.some.injEq,Prod.mk.injEq] at h;obtain ⟨rfl,rfl⟩:=h
    obtain ⟨us,q1,q2⟩:=fi hs l h1 ho
    refine ⟨a.tmps.getD t undef::us,?_,.cons _ _ _ _ (jI hs.heap.rom hs.tmps (.tmp t)) q2⟩
    simp only [List.mapM_cons,km,Sem.run_bind,Sem.run_pure,Result.andThen_ok,q1]
  | .cell x t::l,vs,obs,h,ho=>by
    simp only [br] at h
    split at h
    case h_2=>cases h
    rename_i v o rs vs' o' h1 h2
    simp only [Option.some.injEq,Prod.mk.injEq] at h;obtain ⟨rfl,rfl⟩:=h
    rw [aj] at ho
    obtain ⟨us,q1,q2⟩:=fi hs l h2 ho.2
    have hv:=jI hs.heap.rom hs.tmps (.tmp x)
    simp only [qT,Act.eval] at hv
    obtain ⟨u,r1,r2⟩:=iY (P:=P) hs.heap hv h1 ho.1
    have hp:∃ ad,a.tmps.getD x undef=.pointer (some ad):=by
      generalize a.tmps.getD x undef=z at hv
      unfold gQ at h1
      simp only at h1
      split at h1
      · rename_i e;rw [e] at hv;cases hv;exact ⟨_,rfl⟩
      · rename_i e;rw [e] at hv;cases hv;exact ⟨_,rfl⟩
      · cases h1
    have:=kj hp r1
    refine ⟨u::us,?_,.cons _ _ _ _ r2 q2⟩
    simp only [List.mapM_cons,km,Sem.run_bind] at this ⊢
    rw [this]
    simp only [Result.andThen_ok,Sem.run_bind,q1,Sem.run_pure]
theorem nn{P:Program}{fn:Func}{st:ax}{ρ:aa}{a:Act}{w:World}(hs:SR ρ st a w){vs:List AV}{obs:List Bool}(h:br P fn st fn.results.toList=some (vs,obs))(ho:ac obs) :
    ∃ v,(results fn a.tmps).run P w=.ok v w∧VR ρ w (iO vs) v:=by
  obtain ⟨us,q1,q2⟩:=fi hs fn.results.toList h ho
  have hl:=q2.length
  have hm:(fn.results.mapM (km a.tmps)).run P w=.ok us.toArray w:=by
    rw [Array.mapM_eq_mapM_toList,map_eq_pure_bind,Sem.run_bind,q1,Result.andThen_ok,Sem.run_pure]
  rw [oi,Sem.run_bind,hm,Result.andThen_ok]
  match vs,us,q2,hl with
  | [],[],q2,_=>exact ⟨.tuple #[],rfl,.tup _ _ .nil⟩
  | [v],[u],q2,_=>cases q2 with | cons _ _ _ _ h1 _=>exact ⟨u,rfl,h1⟩
  | v::v'::vs,u::u'::us,q2,_ =>
    refine ⟨.tuple (u::u'::us).toArray,?_,.tup _ _ q2⟩
    simp
theorem fj{P:Program}{f:FuncId}{fn:Func}{c:Code}(hf:P.funcs[f]? = some fn)(hc:fn.body=some c){lent:List ae}{args:List AV}{r:iJ}{keep:Bool} 
    (h:∀ (ρ:aa) (w:World) (a:Act),bv ρ w lent→SR ρ (dO fn lent args) a w →
      c.wp P (fun e a' w'=>(e=.normal∨e=.ret)∧∃ ρ' st' vs obs,cg ρ ρ' w∧bj ρ.live w w'∧(∀ i,i<lent.length→ρ'.ok i→ρ.ok i)∧SR ρ' st' a' w'∧br P fn st' fn.results.toList=some (vs,obs)∧ac obs∧kf lent.length keep st'.heap (iO vs)=some r) a w):ao P f lent args r:=by
  intro ρ w us hN hv
  refine ⟨⟨fn,hf,by rw [hc];rfl⟩,?_⟩
  refine calls_of_wp hf hc ?_
  have hlen:=hv.length
  have hs:SR ρ (dO fn lent args) { tmps:=us.toArray++Array.replicate (fn.ntmps-us.toArray.size) undef,defers:=[] } w:=by
    refine ⟨rfl,?_,hN.heap⟩
    simp only [dO,Array.toList_append,Array.toList_replicate,List.size_toArray,hlen]
    refine aG.append ?_ hv
    have:∀ n,aG ρ w (List.replicate n (.tup [])) (List.replicate n undef):=by
      intro n
      induction n with
      | zero=>exact .nil
      | succ n ih=>exact .cons _ _ _ _ (.tup [] #[] .nil) ih
    exact this _
  refine wp_mono (h ρ w _ hN hs) ?_
  rintro e a' w' ⟨he,ρ',st',vs,obs,E,W,hbk,S,hr,hob,hkeep⟩
  have fin:a'.defers=[]∧∃ v,(results fn a'.tmps).run P w'=.ok v w'∧∃ u,Ending.returned v=.returned u∧bj ρ.live w w'∧r.Holds ρ w w' lent.length u:=by
    refine ⟨S.defers,?_⟩
    obtain ⟨v,q1,q2⟩:=nn S hr hob
    exact ⟨v,q1,v,rfl,W,nj S.heap hN E hbk W.size q2 hkeep⟩
  rcases he with rfl | rfl
  · exact fin
  · exact fin
theorem np{C:gz}{S:hY}(hS:bB C.P S){self:dN}(hself:kh C.P self) :j1 C.P (nk C S self):=by
  intro f lent args p r obs p' h ho
  unfold nk at h
  split at h
  · rename_i alts hs
    simp only [Option.map_eq_some_iff,Prod.mk.injEq] at h
    obtain ⟨⟨alt,q⟩,h1,rfl,rfl,rfl⟩:=h
    exact hS f lent args alts alt hs (pu h1) ho
  · split at h
    case h_2=>cases h
    rename_i fn hf
    split at h
    case h_2=>cases h
    rename_i c hc
    split at h
    case h_2=>cases h
    rename_i e st o1 p1 hr
    cases hres:br C.P fn st fn.results.toList with
    | none=>rw [hres] at h;cases e<;>cases h
    | some x =>
      obtain ⟨vs,o2⟩:=x
      rw [hres] at h
      have key:∀ (he:e=.normal∨e=.ret),(match kf lent.length (C.mode f).keep st.heap (iO vs) with | some r=>some (r,o1++o2,p1) | none=>none)=some (r,obs,p')→ao C.P f lent args r:=by
        intro he h
        split at h
        case h_2=>cases h
        rename_i r' hk
        simp only [Option.some.injEq,Prod.mk.injEq] at h;obtain ⟨rfl,rfl,rfl⟩:=h
        rw [aj] at ho
        refine fj (keep:=(C.mode f).keep) hf hc fun ρ w a hN hs=>?_
        refine hself c _ p e st o1 p1 hr ho.1 ρ a w _ hs fun ρ' a' w' P1=>⟨?_,ρ',st,vs,o2,P1.ext,P1.wle,fun i hi q=>?_,P1.sr,hres,ho.2,hk⟩
        · rcases he with rfl | rfl
          · exact .inl rfl
          · exact .inr rfl
        · rcases P1.back i q with q | q
          · exact q
          · simp only [dO] at q;omega
      cases e with
      | normal=>exact key (.inl rfl) h
      | ret=>exact key (.inr rfl) h
      | exit id=>cases h
theorem eF{C:gz}(hC:C.Ok){S:hY}(hS:bB C.P S)(N:Nat) :∀ n,kh C.P (eE C S N n)
  | 0=>fun c st p e st' obs p' h=>by cases h
  | n+1=>nl hC (np hS (eF hC hS N n)) (eF hC hS N n)
theorem ji{C:gz}(hC:C.Ok){S:hY}(hS:bB C.P S)(N n:Nat){f:FuncId}{lent:List ae}{args:List AV}{p p':a7}{r:iJ}{obs:List Bool}(h:nk C S (eE C S N n) f lent args p=some (r,obs,p'))(ho:ac obs) :
    ao C.P f lent args r:=np hS (eF hC hS N n) f lent args p r obs p' h ho
def jC:List (Nat×jg)→Nat→Option jg
  | [],_=>none
  | (k,e)::l,f=>bif Nat.beq k f then some e else jC l f
def nq:List (Nat×qb)→Nat→qb
  | [],_=>⟨[],false⟩
  | (k,m)::l,f=>bif Nat.beq k f then m else nq l f
def oN(P:Program)(l:List (Nat×jg))(ms:List (Nat×qb)) :gz:={ P,ext:=jC l,mode:=nq ms,wrap:=false }
theorem jb:∀ {l:List (Nat×jg)} {f:Nat} {k:jg},jC l f=some k→(f,k)∈l
  | [],f,k,h=>by cases h
  | (a,e)::l,f,k,h=>by
    simp only [jC] at h
    cases hb:Nat.beq a f with
    | true=>rw [hb] at h;simp only [cond_true,Option.some.injEq] at h;have:=Nat.eq_of_beq_eq_true hb;subst this;subst h;simp
    | false=>rw [hb] at h;simp only [cond_false] at h;exact List.mem_cons_of_mem _ (jb h)
structure qh (P:Program) (f:Nat) (k:jg):Prop where
  fn : ∃ fn, P.funcs[f]? = some fn ∧ (fn.name == "runtime.NumGoroutine") = false ∧ fn.body.isNone = true ∧ Extern.findNext fn = none ∧ Extern.find fn = some (fb k)
def oO(P : Program) : Bool := P.funcs.toList.all fun fn => !(fn.name == "runtime.NumGoroutine")
theorem qi{P:Program}{l:List (Nat×jg)}{ms:List (Nat×qb)}(hm:P.follows .mixedOrders=true)(hn:oO P=true)(he:∀ x∈l,qh P x.1 x.2) :(oN P l ms).Ok:=by
  refine ⟨hm,fun f fn args w hf hb=>?_,fun f k args w hk=>?_⟩
  · have h1 : fn.name ≠ "runtime.NumGoroutine" := by
      have hmem:fn∈P.funcs.toList:=by
        have:fn∈P.funcs:=Array.mem_of_getElem? hf
        simpa using this
      have:=List.all_eq_true.1 hn fn hmem
      simpa using this
    have h2:fn.body≠none:=by intro q;rw [q] at hb;cases hb
    have hf':P.funcs[f]? = some fn:=hf
    have h3:fn.body.isNone=false:=by cases hq:fn.body<;>simp_all
    simp only [oN,callFunc,Sem.run_bind,run_program,Result.andThen_ok,hf',beq_eq_false_iff_ne.2 h1,Bool.false_eq_true,if_false,h3,Sem.run_pure]
  · obtain ⟨fn,h1,h2,h3,h4,h5⟩:=(he _ (jb hk)).fn
    have:=run_callFunc_extern (P:=P) h1 h2 h3 h4 h5 args w
    simp only [oN]
    rw [this,Sem.run_bind]
    rfl
def At(k:Nat)(ρ0:aa)(w0:World)(st:ax)(a:Act)(w:World) :Prop:=∃ ρ,cg ρ0 ρ w0∧bj ρ0.live w0 w∧SR ρ st a w∧(∀ i,i<k→ρ.ok i→ρ0.ok i)∧k≤st.next
def pw(lent:List ae)(st st':ax) :Prop:=∀ ρ0 w0 a w,bv ρ0 w0 lent→At lent.length ρ0 w0 st a w→At lent.length ρ0 w0 st' a w
theorem pw.refl(lent:List ae)(st:ax) :pw lent st st:=fun _ _ _ _ _ h=>h
theorem pw.trans{lent:List ae}{a b c:ax}(h:pw lent a b)(k:pw lent b c) :pw lent a c:=fun _ _ _ _ hN q=>k _ _ _ _ hN (h _ _ _ _ hN q)
def nr:AV→AV
  | .flt _ x=>.flt false x
  | .bool _ b=>.bool false b
  | v=>v
def rM(σ:Nat→Option Nat) :ae→ae
  | .vs l=>.vs ((pN σ l).map nr)
  | d=>d
def iP(σ:Nat→Option Nat)(h:an) :Nat→List Nat→an
  | _,[]=>[]
  | i,b::l=>match ag h b with
    | some d=>(i,rM σ d)::iP σ h (i+1) l
    | none=>iP σ h (i+1) l
def r5(b:Bool)(v u:AV) :AV :=
  match b with
  | true=>v
  | false=>u
def rh:List (Nat×AV)→Nat→AV
  | [],_=>.any
  | (k,v)::l,t=>r5 (Nat.beq k t) v (rh l t)
def lA(L:List (Nat×AV)) :Nat→Nat→List AV
  | _,0=>[]
  | t,n+1=>rh L t::lA L (t+1) n
def eg(n:Nat)(L:List (Nat×AV)) :List AV:=lA L 0 n
def sj(σ:Nat→Option Nat)(ks:List Nat) :Nat→List AV→List AV
  | _,[]=>[]
  | t,v::l=>(bif eA ks t then nr (qR σ v) else .any)::sj σ ks (t+1) l
def norm(keep ks:List Nat)(st:ax) :ax :=
  ⟨sj (bL keep 0) ks 0 st.tmps,iP (bL keep 0) st.heap 0 keep,keep.length⟩
theorem nt{ρ:aa}{w:World}{v:AV}{u:Value}(h:VR ρ w v u) :VR ρ w (nr v) u:=by
  cases h<;>simp only [nr]<;>first | exact .bool _ _ | (rename_i hf;refine .flt _ _ _ ?_;rcases hf with rfl | ⟨_,h2,h3⟩;exact .inl rfl;exact .inr ⟨rfl,h2,h3⟩) | skip
  case int=>exact .int _ _
  case str=>exact .str _
  case nptr=>exact .nptr
  case ptr hb=>exact .ptr _ _ _ _ hb
  case iptr=>rename_i bw d k i j bl o u' ha hb hr hg hc hv hk;exact .iptr bw d k i j bl o _ (by assumption) (by assumption) (by assumption) (by assumption) (by assumption) (by assumption) (by assumption)
  case nsl=>exact .nsl
  case esl=>exact .esl _
  case zsl=>exact .zsl _ _
  case nan=>exact .nan _ (by assumption)
  case sl=>exact .sl _ _ _ _ _ _ _ (by assumption) (by assumption) (by assumption) _ _ (by assumption) (by assumption)
  case slEnd=>exact .slEnd _ _ _ _ _
  case imm=>exact .imm _ _ _ _ _ _ _ _ _ _ (by assumption) (by assumption) (by assumption) (by assumption) (by assumption) (by assumption) (by assumption) (by assumption)
  case immEnd=>exact .immEnd _ _ _ _ _ _ _ (by assumption) (by assumption) (by assumption)
  case fn=>exact .fn _ _ _ _ _ (by assumption) (by assumption)
  case nfn=>exact .nfn
  case gmap=>exact .gmap _ _ _ _ _ _ (by assumption) (by assumption) (by assumption) (by assumption) (by assumption) (by assumption) (by assumption) (by assumption)
  case gvar=>exact .gvar _ _ _ _ (by assumption) (by assumption) (by assumption)
  case agg=>exact .agg _ _ (by assumption)
  case tup=>exact .tup _ _ (by assumption)
  case iface=>exact .iface _ _ _ (by assumption)
  case niface=>exact .niface
  case any=>exact .any _
theorem qj{ρ:aa}{keep ks:List Nat}{w:World} :∀ (l:List AV) (t:Nat) {c:List Value},aG ρ w l c→aG (ρ.renamed keep) w (sj (bL keep 0) ks t l) c
  | [],t,c,h=>by cases h;exact .nil
  | v::l,t,c,h=>by
    cases h with | cons _ u _ c' h1 h2 =>
    simp only [sj]
    refine .cons _ _ _ _ ?_ (qj l (t+1) h2)
    cases eA ks t with
    | true=>exact nt (lz v h1)
    | false=>exact .any u
theorem eG{σ:Nat→Option Nat}{h:an} :∀ {l:List Nat} {i c:Nat} {d:ae},ag (iP σ h i l) c=some d→i≤c∧∃ b e,l[c-i]? = some b∧ag h b=some e∧d=rM σ e
  | [],i,c,d,q=>by cases q
  | b::l,i,c,d,q=>by
    simp only [iP] at q
    have next:ag (iP σ h (i+1) l) c=some d→i≤c∧∃ b' e,(b::l)[c-i]? = some b'∧ag h b'=some e∧d=rM σ e:=by
      intro q
      obtain ⟨h1,b',e,h2,h3,h4⟩:=eG q
      refine ⟨by omega,b',e,?_,h3,h4⟩
      have:c-i=(c-(i+1))+1:=by omega
      rw [this];simpa using h2
    split at q
    · rename_i e he
      simp only [ag] at q
      cases hc:Nat.beq i c with
      | true =>
        rw [hc] at q;simp only [cond_true,Option.some.injEq] at q
        have:=Nat.eq_of_beq_eq_true hc;subst this
        exact ⟨Nat.le_refl _,b,e,by simp,he,q.symm⟩
      | false=>rw [hc] at q;exact next q
    · exact next q
theorem qk{σ:Nat→Option Nat}{d:ae}(h:d.recKept) :(rM σ d).recKept:=by
  cases d<;>first | exact h | trivial
theorem nu{σ:Nat→Option Nat}{d:ae}{x:Nat}{v:AV}(h:(rM σ d).cell? x=some v)(hr:d.recKept) :∃ v',d.cell? x=some v'∧(v=nr (qR σ v')∨(v=v'∧v.foreign=true)):=by
  cases d with
  | vs l =>
    simp only [rM,ae.cell?,List.getElem?_map,mj,Option.map_map,Option.map_eq_some_iff,Function.comp] at h
    obtain ⟨v',h1,rfl⟩:=h
    exact ⟨v',h1,.inl rfl⟩
  | fl xs=>exact ⟨v,h,.inr ⟨rfl,ai (d:=.fl xs) hr rfl x v h⟩⟩
  | ns k xs=>exact ⟨v,h,.inr ⟨rfl,ai (d:=.ns k xs) hr rfl x v h⟩⟩
  | bs xs=>exact ⟨v,h,.inr ⟨rfl,ai (d:=.bs xs) hr rfl x v h⟩⟩
  | ss xs=>exact ⟨v,h,.inr ⟨rfl,ai (d:=.ss xs) hr rfl x v h⟩⟩
  | rows k m get=>exact ⟨v,h,.inr ⟨rfl,ai (d:=.rows k m get) hr rfl x v h⟩⟩
  | cols m cs=>exact ⟨v,h,.inr ⟨rfl,ai (d:=.cols m cs) hr rfl x v h⟩⟩
def mn:Nat→Nat→List Nat→Bool
  | 0,_,_=>true
  | _+1,_,[]=>false
  | k+1,i,b::l=>Nat.beq b i&&mn k (i+1) l
theorem ko:∀ {k i:Nat} {l:List Nat},mn k i l=true→∀ j,j<k→l[j]? = some (i+j)
  | 0,i,l,_,j,hj=>by omega
  | k+1,i,[],h,j,hj=>by cases h
  | k+1,i,b::l,h,j,hj=>by
    simp only [mn,Bool.and_eq_true] at h
    cases j with
    | zero=>simp;exact Nat.eq_of_beq_eq_true h.1
    | succ j=>simp only [List.getElem?_cons_succ];rw [ko h.2 j (by omega)];congr 1;omega
def oj(k:Nat)(keep:List Nat) :Bool:=eB keep&&mn k 0 keep
theorem ql{lent:List ae}{keep ks:List Nat}(hk:oj lent.length keep=true)(st:ax) :pw lent st (norm keep ks st):=by
  unfold oj at hk
  rw [Bool.and_eq_true] at hk
  obtain ⟨hn,hid⟩:=hk
  have idL:∀ {i:Nat},i<lent.length→keep[i]? = some i:=fun q=>by have:=ko hid _ q;simpa using this
  have atL:∀ {ρ:aa} {i b:Nat},keep[i]? = some b→(ρ.renamed keep).at_ i=ρ.at_ b:=fun q=>by simp [aa.renamed,q]
  rintro ρ0 w0 a w hN ⟨ρ,E,W,S,hbk,hle⟩
  refine ⟨ρ.renamed keep,⟨fun b q=>?_,fun b q=>⟨b,idL (hN.heap.lt b q),E.ok b q⟩,E.live,E.new,E.out⟩,W,⟨S.defers,qj _ _ S.tmps,?_⟩,fun i hi q=>?_,?_⟩
  · rw [atL (idL (hN.heap.lt b q))];exact E.at_ b q
  · have hh:=S.heap
    refine ⟨fun c d q=>?_,fun c c' d d' q q' ok1 ok2 he=>?_,hh.fresh,hh.liveLt,hh.outLt,fun c q=>?_,fun x hx=>aI (hh.rom x hx) (bh (Rom.kept x hx))⟩
    · obtain ⟨_,b,e,h1,h2,rfl⟩:=eG q
      rw [Nat.sub_zero] at h1
      rcases hh.cell b e h2 with ⟨k1,k2,hr,ce,t,r1,r2⟩ | ⟨k1,k2,k3,k4⟩
      · refine .inl ⟨⟨b,h1,k1⟩,by rw [atL h1];exact k2,qk hr,ce,t,by rw [atL h1];exact r1,fun x v hx=>?_⟩
        obtain ⟨v',s1,s2⟩:=nu hx hr
        obtain ⟨u,t1,t2⟩:=r2 x v' s1
        refine ⟨u,t1,?_⟩
        rcases s2 with rfl | ⟨rfl,hf⟩
        · exact nt (lz v' t2)
        · exact aI t2 hf
      · refine .inr ⟨?_,(List.getElem?_eq_some_iff.1 h1).1,qk k3,fun x=>?_⟩
        · rintro ⟨b',q1,q2⟩
          rw [h1] at q1;cases q1
          exact k1 q2
        · cases hc:(rM (bL keep 0) e).cell? x with
          | none=>rfl
          | some v=>obtain ⟨v',s1,_⟩:=nu hc k3;rw [k4 x] at s1;cases s1
    · obtain ⟨_,b,e,h1,h2,rfl⟩:=eG q
      obtain ⟨_,b',e',h1',h2',rfl⟩:=eG q'
      rw [Nat.sub_zero] at h1 h1'
      obtain ⟨x,x1,x2⟩:=ok1
      obtain ⟨y,y1,y2⟩:=ok2
      rw [h1] at x1;cases x1
      rw [h1'] at y1;cases y1
      rw [atL h1,atL h1'] at he
      have:=hh.inj b b' e e' h2 h2' x2 y2 he
      subst this
      exact eC hn h1 h1'
    · obtain ⟨b,h1,_⟩:=q
      exact (List.getElem?_eq_some_iff.1 h1).1
  · obtain ⟨b,q1,q2⟩:=q
    rw [idL hi] at q1;cases q1
    exact hbk i hi q2
  · simp only [norm]
    rcases Nat.lt_or_ge keep.length lent.length with q | q
    · have:=idL q
      rw [List.getElem?_eq_none (Nat.le_refl _)] at this;cases this
    · exact q
inductive GP where
  | slot (t:Nat)
  | part (t i:Nat)
  | cell (b i:Nat)
def aO.empty:aO→Bool
  | .cf [] | .ci _ [] | .cb [] | .cs [] | .cfl [] | .cns _ []=>true
  | _=>false
def hZ:List aO→Bool
  | []=>true
  | c::l=>c.empty&&hZ l
def ae.isVoid:ae→Bool
  | .fl [] | .ns _ [] | .bs [] | .ss [] | .vs []=>true
  | .cols 0 cs=>hZ cs
  | _=>false
theorem kp{c:aO}(h:c.empty=true) :c.len=0:=by
  unfold aO.empty at h
  split at h<;>first | rfl | cases h
theorem d5:∀ {l:List aO},hZ l=true→∀ c∈l,c.len=0
  | [],_,c,hc=>by cases hc
  | c::l,h,x,hx=>by
    simp only [hZ,Bool.and_eq_true] at h
    rcases List.mem_cons.1 hx with rfl | q
    · exact kp h.1
    · exact d5 h.2 x q
theorem fk{d:ae}(h:d.isVoid=true) :d.recKept∧d.void:=by
  unfold ae.isVoid at h
  split at h
  case h_6 =>
    rename_i cs
    have:=d5 h
    refine ⟨this,fun x=>?_⟩
    cases hc:(ae.cols 0 cs).cell? x with
    | none=>rfl
    | some v =>
      obtain ⟨c,_,h2,h3⟩:=aU hc
      have:=eW h3
      rw [d5 h c h2] at this;exact absurd this (Nat.not_lt_zero _)
  case h_7=>cases h
  all_goals exact ⟨trivial,fun x=>by simp [ae.cell?]⟩
theorem kq(b w es:Nat) :ah .nsl (.sl b w es 0 0 0):=by
  intro ρ w' u h;cases h;exact .slEnd _ _ _ _ _
theorem HR.weaken{ρ:aa}{w:World}{h:an}{n b:Nat}{d d':ae}(hh:HR ρ w h n)(hg:ag h b=some d)(hr:d'.recKept)(hw:∀ x v',d'.cell? x=some v'→∃ v,d.cell? x=some v∧ah v v') :HR ρ w (aQ h b d') n:=by
  have look:∀ x e,ag (aQ h b d') x=some e→(x=b∧e=d')∨(x≠b∧ag h x=some e):=by
    intro x e hx
    rw [aD] at hx
    by_cases q:b=x
    · rw [if_pos q] at hx;cases hx;exact .inl ⟨q.symm,rfl⟩
    · rw [if_neg q] at hx;exact .inr ⟨fun e=>q e.symm,hx⟩
  have had:∀ x e,ag (aQ h b d') x=some e→∃ e',ag h x=some e':=by
    intro x e hx
    rcases look x e hx with ⟨rfl,_⟩ | ⟨_,q⟩
    · exact ⟨d,hg⟩
    · exact ⟨e,q⟩
  refine ⟨fun x e hx=>?_,fun x y e f h1 h2 ok1 ok2 he=>?_,hh.fresh,hh.liveLt,hh.outLt,hh.lt,hh.rom⟩
  · rcases look x e hx with ⟨rfl,rfl⟩ | ⟨_,q⟩
    · rcases hh.cell x d hg with ⟨k1,k2,_,c,t,r1,r2⟩ | ⟨k1,k2,_,k4⟩
      · refine .inl ⟨k1,k2,hr,c,t,r1,fun y v' hy=>?_⟩
        obtain ⟨v,q1,q2⟩:=hw y v' hy
        obtain ⟨u,t1,t2⟩:=r2 y v q1
        exact ⟨u,t1,q2 _ _ _ t2⟩
      · refine .inr ⟨k1,k2,hr,fun y=>?_⟩
        cases hc:e.cell? y with
        | none=>rfl
        | some v'=>obtain ⟨v,q1,_⟩:=hw y v' hc;rw [k4 y] at q1;cases q1
    · exact hh.cell x e q
  · obtain ⟨e',q1⟩:=had x e h1
    obtain ⟨f',q2⟩:=had y f h2
    exact hh.inj x y e' f' q1 q2 ok1 ok2 he
def ol(st:ax)(pos:GP)(w es:Nat)(d:ae) :ax :=
  match pos with
  | .slot t =>
    match st.tmps[t]? with
    | some .nsl=>⟨st.tmps.set t (.sl st.next w es 0 0 0),aQ st.heap st.next d,st.next+1⟩
    | some .esl=>⟨st.tmps.set t (.sl st.next w es 0 0 0),aQ st.heap st.next d,st.next+1⟩
    | _=>st
  | .part t i =>
    match st.tmps[t]? with
    | some (.agg l) =>
      match l[i]? with
      | some .nsl=>⟨st.tmps.set t (.agg (l.set i (.sl st.next w es 0 0 0))),aQ st.heap st.next d,st.next+1⟩
      | _=>st
    | _=>st
  | .cell b i =>
    match ag st.heap b with
    | some (.vs l) =>
      match l[i]? with
      | some .nsl=>⟨st.tmps,aQ (aQ st.heap b (.vs (l.set i (.sl st.next w es 0 0 0)))) st.next d,st.next+1⟩
      | _=>st
    | _=>st
theorem qm(b w es:Nat) :ah .esl (.sl b w es 0 0 0):=by
  intro ρ w' u h;cases h;exact .slEnd _ _ _ _ _
theorem dP{ρ:aa}{w:World} :∀ {l:List AV} {c:List Value} {i:Nat} {v v':AV},aG ρ w l c→l[i]? = some v→ah v v'→aG ρ w (l.set i v') c
  | _,_,i,v,v',.nil,h,_=>by simp at h
  | _,_,0,v,v',.cons a u l c h t,hi,hw=>by simp at hi;subst hi;exact .cons _ _ _ _ (hw _ _ _ h) t
  | _,_,i+1,v,v',.cons a u l c h t,hi,hw=>.cons _ _ _ _ h (dP t (by simpa using hi) hw)
theorem om{lent:List ae}{st:ax}{pos:GP}{w es:Nat}{d:ae}(hd:d.isVoid=true) :pw lent st (ol st pos w es d):=by
  obtain ⟨d1,d2⟩:=fk hd
  rintro ρ0 w0 a w' hN ⟨ρ,E,W,S,hbk,hle⟩
  have hh:=S.heap
  have hno : ¬ ρ.ok st.next:=fun q=>Nat.lt_irrefl _ (hh.lt _ q)
  have h1:HR ρ w' (aQ st.heap st.next d) (st.next+1):=(hh.le (Nat.le_succ _)).ghost hno (Nat.lt_succ_self _) d1 d2
  have id_:At lent.length ρ0 w0 st a w':=⟨ρ,E,W,S,hbk,hle⟩
  unfold ol
  split
  · split
    · rename_i t h
      exact ⟨ρ,E,W,⟨S.defers,dP S.tmps h (kq _ _ _),h1⟩,hbk,Nat.le_succ_of_le hle⟩
    · rename_i t h
      exact ⟨ρ,E,W,⟨S.defers,dP S.tmps h (qm _ _ _),h1⟩,hbk,Nat.le_succ_of_le hle⟩
    · exact id_
  · split
    · rename_i t i l h
      split
      · rename_i h2
        refine ⟨ρ,E,W,⟨S.defers,dP S.tmps h ?_,h1⟩,hbk,Nat.le_succ_of_le hle⟩
        intro ρ w u hu
        cases hu with | agg _ c hc=>exact .agg _ _ (dP hc h2 (kq _ _ _))
      · exact id_
    · exact id_
  · split
    · rename_i b i _ l h
      split
      · rename_i h2
        have hw:HR ρ w' (aQ st.heap b (.vs (l.set i (.sl st.next w es 0 0 0)))) st.next:=by
          refine hh.weaken h trivial fun x v' hx=>?_
          simp only [ae.cell?,List.getElem?_set] at hx ⊢
          by_cases hi:i=x
          · subst hi
            rw [if_pos rfl] at hx
            split at hx
            · cases hx;exact ⟨_,h2,kq _ _ _⟩
            · cases hx
          · rw [if_neg hi] at hx;exact ⟨v',hx,ah.refl _⟩
        exact ⟨ρ,E,W,⟨S.defers,S.tmps,(hw.le (Nat.le_succ _)).ghost hno (Nat.lt_succ_self _) d1 d2⟩,hbk,Nat.le_succ_of_le hle⟩
      · exact id_
    · exact id_
def kr(f:AV→Option AV)(st:ax)(pos:GP) :ax :=
  match pos with
  | .slot t =>
    match st.tmps[t]? with
    | some v=>match f v with
      | some v'=>⟨st.tmps.set t v',st.heap,st.next⟩
      | none=>st
    | none=>st
  | .part t i =>
    match st.tmps[t]? with
    | some (.agg l) =>
      match l[i]? with
      | some v=>match f v with
        | some v'=>⟨st.tmps.set t (.agg (l.set i v')),st.heap,st.next⟩
        | none=>st
      | none=>st
    | _=>st
  | .cell b i =>
    match ag st.heap b with
    | some (.vs l) =>
      match l[i]? with
      | some v=>match f v with
        | some v'=>⟨st.tmps,aQ st.heap b (.vs (l.set i v')),st.next⟩
        | none=>st
      | none=>st
    | _=>st
theorem gC{lent:List ae}{st:ax}{pos:GP}{f:AV→Option AV}(hf:∀ v v',f v=some v'→ah v v') :pw lent st (kr f st pos):=by
  rintro ρ0 w0 a w' hN ⟨ρ,E,W,S,hbk,hle⟩
  have hh:=S.heap
  have id_:At lent.length ρ0 w0 st a w':=⟨ρ,E,W,S,hbk,hle⟩
  unfold kr
  split
  · split
    · rename_i t v h
      split
      · rename_i v' hv
        exact ⟨ρ,E,W,⟨S.defers,dP S.tmps h (hf _ _ hv),hh⟩,hbk,hle⟩
      · exact id_
    · exact id_
  · split
    · rename_i t i l h
      split
      · rename_i v h2
        split
        · rename_i v' hv
          refine ⟨ρ,E,W,⟨S.defers,dP S.tmps h ?_,hh⟩,hbk,hle⟩
          intro ρ w u hu
          cases hu with | agg _ c hc=>exact .agg _ _ (dP hc h2 (hf _ _ hv))
        · exact id_
      · exact id_
    · exact id_
  · split
    · rename_i b i _ l h
      split
      · rename_i v h2
        split
        · rename_i v' hv
          have hw:HR ρ w' (aQ st.heap b (.vs (l.set i v'))) st.next:=by
            refine hh.weaken h trivial fun x u hx=>?_
            simp only [ae.cell?,List.getElem?_set] at hx ⊢
            by_cases hi:i=x
            · subst hi
              rw [if_pos rfl] at hx
              split at hx
              · cases hx;exact ⟨_,h2,hf _ _ hv⟩
              · cases hx
            · rw [if_neg hi] at hx;exact ⟨u,hx,ah.refl _⟩
          exact ⟨ρ,E,W,⟨S.defers,S.tmps,hw⟩,hbk,hle⟩
        · exact id_
      · exact id_
    · exact id_
theorem dQ{d:ae}(h:d.isVoid=true) :d.kept=true∧d.foreign=true:=by
  unfold ae.isVoid at h
  split at h<;>first | exact ⟨rfl,rfl⟩ | cases h
theorem px{d:ae}(w es:Nat)(hd:d.isVoid=true) :ah .nsl (.imm .free d w es 0 0):=by
  intro ρ w' u h;cases h;exact .immEnd _ _ _ _ _ _ _ (fk hd).1 (fun _=>(dQ hd).1) (dQ hd).2
theorem py{d:ae}(w es:Nat)(hd:d.isVoid=true) :ah .esl (.imm .free d w es 0 0):=by
  intro ρ w' u h;cases h;exact .immEnd _ _ _ _ _ _ _ (fk hd).1 (fun _=>(dQ hd).1) (dQ hd).2
def oo(w es:Nat)(d:ae) :AV→Option AV
  | .nsl | .esl=>some (.imm .free d w es 0 0)
  | _=>none
theorem nv{w es:Nat}{d:ae}(hd:d.isVoid=true) :∀ v v',oo w es d v=some v'→ah v v':=by
  intro v v' h
  unfold oo at h
  split at h
  · cases h;exact px _ _ hd
  · cases h;exact py _ _ hd
  · cases h
theorem oP{l:Lv}{ρ:aa}{bl:Nat}(ha:ρ.avoid .free bl) :ρ.avoid l bl:=bt (fun j=>ha j (Nat.zero_le _)) _ _
def rN(l:Lv) :AV→Option AV
  | .imm .free d w es i n=>some (.imm l d w es i n)
  | .iptr .free d w i j=>some (.iptr l d w i j)
  | _=>none
theorem pz{l:Lv} :∀ v v',rN l v=some v'→ah v v':=by
  intro v v' h
  unfold rN at h
  split at h
  · cases h
    intro ρ w' u hu
    cases hu with
    | imm _ _ _ _ _ _ cap bl o u ha hb hc hv hn hr hk hg=>exact .imm _ _ _ _ _ _ cap bl o u (oP ha) hb hc hv hn hr (fun _=>hk rfl) hg
    | immEnd _ _ _ _ _ cap a hr hk hg=>exact .immEnd _ _ _ _ _ cap a hr (fun _=>hk rfl) hg
  · cases h
    intro ρ w' u hu
    cases hu with
    | iptr _ _ _ _ _ bl o u ha hb hc hv hr hk hg=>exact .iptr _ _ _ _ _ bl o u (oP ha) hb hc hv hr (fun _=>hk rfl) hg
  · cases h
def qn:AV→Option AV
  | .imm _ d w es i n=>some (.imm .lent d w es i n)
  | .iptr _ d w i j=>some (.iptr .lent d w i j)
  | _=>none
theorem oq:∀ v v',qn v=some v'→ah v v':=by
  intro v v' h
  unfold qn at h
  split at h
  · cases h
    intro ρ w' u hu
    cases hu with
    | imm _ _ _ _ _ _ cap bl o u ha hb hc hv hn hr hk hg=>exact .imm _ _ _ _ _ _ cap bl o u (gj (O:=ρ.own) ha) hb hc hv hn hr (fun q=>by cases q) hg
    | immEnd _ _ _ _ _ cap a hr hk hg=>exact .immEnd _ _ _ _ _ cap a hr (fun q=>by cases q) hg
  · cases h
    intro ρ w' u hu
    cases hu with
    | iptr _ _ _ _ _ bl o u ha hb hc hv hr hk hg=>exact .iptr _ _ _ _ _ bl o u (gj (O:=ρ.own) ha) hb hc hv hr (fun q=>by cases q) hg
  · cases h
inductive GK where
  | own (w es:Nat) (d:ae)
  | fre (w es:Nat) (d:ae)
  | lev (l:Lv)
  | low
abbrev GL:=List (GP×GK)
def iQ:GL→ax→ax
  | [],st=>st
  | (p,.fre w es d)::l,st=>iQ l (kr (oo w es d) st p)
  | (p,.own w es d)::l,st=>iQ l (ol st p w es d)
  | (p,.lev v)::l,st=>iQ l (kr (rN v) st p)
  | (p,.low)::l,st=>iQ l (kr qn st p)
def bR:GL→Bool
  | []=>true
  | (_,.own _ _ d)::l=>d.isVoid&&bR l
  | (_,.fre _ _ d)::l=>d.isVoid&&bR l
  | (_,.lev _)::l=>bR l
  | (_,.low)::l=>bR l
theorem dy{lent:List ae} :∀ {l:GL} {st:ax},bR l=true→pw lent st (iQ l st)
  | [],st,_=>pw.refl _ _
  | (p,.fre w es d)::l,st,h=>by
    simp only [bR,Bool.and_eq_true] at h
    exact (gC (nv h.1)).trans (dy h.2)
  | (p,.own w es d)::l,st,h=>by
    simp only [bR,Bool.and_eq_true] at h
    exact (om h.1).trans (dy h.2)
  | (p,.lev v)::l,st,h=>(gC pz).trans (dy (l:=l) (by simpa [bR] using h))
  | (p,.low)::l,st,h=>(gC oq).trans (dy (l:=l) (by simpa [bR] using h))
structure NS where
  gs:GL
  keep:List Nat
  ks:List Nat
def NS.ok(k:Nat)(s:NS) :Bool:=bR s.gs&&oj k s.keep
def NS.on(s:NS)(st:ax) :ax:=norm s.keep s.ks (iQ s.gs st)
theorem qo{lent:List ae}{s:NS}(h:s.ok lent.length=true)(st:ax) :pw lent st (s.on st):=by
  unfold NS.ok at h
  rw [Bool.and_eq_true] at h
  exact (dy h.1).trans (ql h.2 _)
def dG:Code→List Code
  | .seq a b=>dG a++dG b
  | .skip=>[]
  | .label _=>[]
  | c=>[c]
def kM(P:Program) :List Code→(Exit→Act→World→Prop)→Act→World→Prop
  | [],K,a,w=>K .normal a w
  | c::l,K,a,w=>c.wp P (fun e a' w'=>match e with | .normal=>kM P l K a' w' | e=>K e a' w') a w
theorem gD{P:Program}{K:Exit→Act→World→Prop} :∀ (l l':List Code) (a:Act) (w:World),kM P l (fun e a' w'=>match e with | .normal=>kM P l' K a' w' | e=>K e a' w') a w→kM P (l++l') K a w
  | [],l',a,w,h=>h
  | c::l,l',a,w,h=>by
    simp only [List.cons_append,kM] at h ⊢
    refine wp_mono h ?_
    intro e a' w' q
    cases e<;>first | exact gD l l' a' w' q | exact q
theorem d6{P:Program}{c:Code}{K:Exit→Act→World→Prop}{a:Act}{w:World}(h:kM P [c] K a w) :c.wp P K a w:=by
  simp only [kM] at h
  refine wp_mono h ?_
  intro e a' w' q
  cases e<;>exact q
theorem eH{P:Program} :∀ (c:Code) {K:Exit→Act→World→Prop} {a:Act} {w:World},kM P (dG c) K a w→c.wp P K a w
  | .seq x y,K,a,w,h=>by
    simp only [dG] at h
    refine wp_seq (eH x ?_)
    have app:∀ (l l':List Code) (a:Act) (w:World),kM P (l++l') K a w→kM P l (fun e a' w'=>match e with | .normal=>kM P l' K a' w' | e=>K e a' w') a w:=by
      intro l
      induction l with
      | nil=>intro l' a w h;exact h
      | cons c l ih =>
        intro l' a w h
        simp only [List.cons_append,kM] at h ⊢
        refine wp_mono h ?_
        intro e a' w' q
        cases e<;>first | exact ih l' a' w' q | exact q
    have:=app _ _ _ _ h
    have mono:∀ (l:List Code) (K K':Exit→Act→World→Prop) (a:Act) (w:World),(∀ e a w,K e a w→K' e a w)→kM P l K a w→kM P l K' a w:=by
      intro l
      induction l with
      | nil=>intro K K' a w hK h;exact hK _ _ _ h
      | cons c l ih =>
        intro K K' a w hK h
        simp only [kM] at h ⊢
        refine wp_mono h ?_
        intro e a' w' q
        cases e<;>first | exact ih K K' a' w' hK q | exact hK _ _ _ q
    refine mono _ _ _ _ _ ?_ this
    intro e a' w' q
    cases e<;>first | exact eH y q | exact q
  | .skip,K,a,w,h=>wp_skip h
  | .label _,K,a,w,h=>wp_label h
  | .region ..,K,a,w,h=>d6 h
  | .cond ..,K,a,w,h=>d6 h
  | .block ..,K,a,w,h=>d6 h
  | .loop ..,K,a,w,h=>d6 h
  | .exit ..,K,a,w,h=>d6 h
  | .ret,K,a,w,h=>d6 h
  | .scope ..,K,a,w,h=>d6 h
  | .goto ..,K,a,w,h=>d6 h
  | .rangeFunc ..,K,a,w,h=>d6 h
  | .refuse ..,K,a,w,h=>d6 h
def aY(P:Program)(lent:List ae)(cs:List Code)(st:ax)(Q:AE→ax→Prop) :Prop :=
  ∀ (ρ0:aa) (w0:World),bv ρ0 w0 lent→∀ (K:Exit→Act→World→Prop),(∀ e st' a' w',Q e st'→At lent.length ρ0 w0 st' a' w'→K e.real a' w')→∀ a w,At lent.length ρ0 w0 st a w→kM P cs K a w
def pA(self:dN) :List Code→ax→a7→rg
  | [],st,p=>some (.normal,st,[],p)
  | c::l,st,p =>
    match self c st p with
    | some (.normal,st1,o1,p1) =>
      match pA self l st1 p1 with
      | some (e,st2,o2,p2)=>some (e,st2,o1++o2,p2)
      | none=>none
    | r=>r
theorem oQ{P:Program}{self:dN}(hself:kh P self) :∀ (cs:List Code) {st st':ax} {p p':a7} {e:AE} {obs:List Bool},pA self cs st p=some (e,st',obs,p')→ac obs→∀ {ρ:aa} {a:Act} {w:World} {Q:Exit→Act→World→Prop},SR ρ st a w →
    (∀ ρ' a' w',fc ρ w st.next st' ρ' a' w'→Q e.real a' w')→kM P cs Q a w
  | [],st,st',p,p',e,obs,h,ho,ρ,a,w,Q,hs,hQ=>by
    simp only [pA,Option.some.injEq,Prod.mk.injEq] at h;obtain ⟨rfl,rfl,rfl,rfl⟩:=h
    exact hQ ρ a w (fc.refl hs)
  | c::l,st,st',p,p',e,obs,h,ho,ρ,a,w,Q,hs,hQ=>by
    simp only [pA] at h
    split at h
    · rename_i st1 o1 p1 h1
      split at h
      case h_2=>cases h
      rename_i e2 st2 o2 p2 h2
      simp only [Option.some.injEq,Prod.mk.injEq] at h;obtain ⟨rfl,rfl,rfl,rfl⟩:=h
      rw [aj] at ho
      refine hself c st p _ _ _ _ h1 ho.1 ρ a w _ hs fun ρ1 a1 w1 P1=>?_
      exact oQ hself l h2 ho.2 P1.sr fun ρ2 a2 w2 P2=>hQ ρ2 a2 w2 (P1.trans P2)
    · rename_i hne
      refine hself c st p _ _ _ _ h ho ρ a w _ hs fun ρ1 a1 w1 P1=>?_
      have:=hQ ρ1 a1 w1 P1
      cases e with
      | normal=>exact (hne _ _ _ h).elim
      | ret=>exact this
      | exit id=>exact this
theorem At.post{lent:List ae}{ρ0 ρ ρ':aa}{w0 w w':World}{st st':ax}{a a':Act}(E:cg ρ0 ρ w0)(W:bj ρ0.live w0 w)(hbk:∀ i,i<lent.length→ρ.ok i→ρ0.ok i)(hle:lent.length≤st.next)(h:fc ρ w st.next st' ρ' a' w') :At lent.length ρ0 w0 st' a' w' :=
  ⟨ρ',E.trans h.ext W.size,W.trans h.wle (fun x hx q=>E.new x hx q),h.sr,fun i hi q=>(h.back i q).elim (hbk i hi) (fun r=>by omega),Nat.le_trans hle h.le⟩
theorem aY.weak{P:Program}{lent:List ae}{cs:List Code}{st st1:ax}{Q:AE→ax→Prop}(hs:pw lent st st1)(h:aY P lent cs st1 Q) :aY P lent cs st Q :=
  fun ρ0 w0 hN K hK a w hA=>h ρ0 w0 hN K hK a w (hs _ _ _ _ hN hA)
theorem aY.nil{P:Program}{lent:List ae}{st:ax}{Q:AE→ax→Prop}(h:Q .normal st) :aY P lent [] st Q :=
  fun ρ0 w0 hN K hK a w hA=>hK .normal st a w h hA
def k6(P:Program)(lent:List ae)(rest:List Code)(e:AE)(st:ax)(Q:AE→ax→Prop) :Prop :=
  match e with
  | .normal=>aY P lent rest st Q
  | e=>Q e st
theorem k6.exit{P:Program}{lent:List ae}{rest:List Code}{id:Nat}{st:ax}{Q:AE→ax→Prop}(h:Q (.exit id) st) :k6 P lent rest (.exit id) st Q:=h
theorem k6.ret{P:Program}{lent:List ae}{rest:List Code}{st:ax}{Q:AE→ax→Prop}(h:Q .ret st) :k6 P lent rest .ret st Q:=h
theorem k6.normal{P:Program}{lent:List ae}{rest:List Code}{st:ax}{Q:AE→ax→Prop}(h:aY P lent rest st Q) :k6 P lent rest .normal st Q:=h
def qp(s:NS)(r:rg) :Option (AE×ax×List Bool) :=
  match r with
  | some (e,st,obs,_)=>some (e,s.on st,obs)
  | none=>none
theorem aY.seg{C:gz}(hC:C.Ok){S:hY}(hS:bB C.P S){lent:List ae}{N n:Nat}(k:Nat)(p:a7)(s:NS){cs:List Code}{st st1:ax}{e:AE}{obs:List Bool}{Q:AE→ax→Prop} 
    (h:qp s (pA (eE C S N n) (cs.take k) st p)=some (e,st1,obs)) (hn:s.ok lent.length=true) (ho:ac obs) (hr:k6 C.P lent (cs.drop k) e st1 Q):aY C.P lent cs st Q:=by
  intro ρ0 w0 hN K hK a w ⟨ρ,E,W,S1,hbk,hle⟩
  rw [←List.take_append_drop k cs]
  apply gD
  unfold qp at h
  split at h
  case h_2=>cases h
  rename_i e' st2 obs' p' hrun
  simp only [Option.some.injEq,Prod.mk.injEq] at h;obtain ⟨rfl,rfl,rfl⟩:=h
  refine oQ (eF hC hS N n) _ hrun ho S1 fun ρ' a' w' P1=>?_
  have hA:=qo hn st2 ρ0 w0 a' w' hN (At.post (st:=st) (a:=a) E W hbk hle P1)
  cases e' with
  | normal=>exact hr ρ0 w0 hN K hK a' w' hA
  | ret=>exact hK _ _ _ _ hr hA
  | exit id=>exact hK _ _ _ _ hr hA
def h9(P:Program)(lent:List ae){σ:Type}(I:σ→ax)(G:σ→Prop)(m:σ→Nat)(s:σ)(id:Nat)(rest:List Code)(Q:AE→ax→Prop)(e:AE)(st:ax) :Prop :=
  match e with
  | .normal=>∃ s',G s'∧m s'<m s∧st=I s'
  | .exit j=>if j=id then aY P lent rest st Q else Q (.exit j) st
  | .ret=>Q .ret st
theorem h9.out{P:Program}{lent:List ae}{σ:Type}{I:σ→ax}{G:σ→Prop}{m:σ→Nat}{s:σ}{id:Nat}{rest:List Code}{Q:AE→ax→Prop}{st:ax}(h:aY P lent rest st Q) :h9 P lent I G m s id rest Q (.exit id) st:=by
  simp only [h9,if_true];exact h
theorem h9.on{P:Program}{lent:List ae}{σ:Type}{I:σ→ax}{G:σ→Prop}{m:σ→Nat}{s:σ}{id:Nat}{rest:List Code}{Q:AE→ax→Prop}{st:ax}(s':σ)(hs:st=I s')(hm:m s'<m s)(hG:G s') :aY P lent [] st (h9 P lent I G m s id rest Q) :=
  aY.nil ⟨s',hG,hm,hs⟩
theorem aY.loop{P:Program}{lent:List ae}{σ:Type}(I:σ→ax)(G:σ→Prop)(m:σ→Nat){id:Nat}{b:Code}{cs rest:List Code}{Q:AE→ax→Prop}(hcs:cs=.block id (.loop b)::rest) 
    (body:∀ s,G s→aY P lent (dG b) (I s) (h9 P lent I G m s id rest Q)) (s:σ) (hs:G s):aY P lent cs (I s) Q:=by
  subst hcs
  intro ρ0 w0 hN K hK a w hA
  simp only [kM]
  refine wp_block ?_
  refine wp_loop_rounds (m s+1) ?_
  have key:∀ n s,m s<n→G s→∀ a w,At lent.length ρ0 w0 (I s) a w→Code.rounds P b (Exit.inBlock id fun (e:Exit) a' w'=>match e with | .normal=>kM P rest K a' w' | e=>K e a' w') n a w:=by
    intro n
    induction n with
    | zero=>intro s h;omega
    | succ n ih =>
      intro s hm hs a w hA
      rw [rounds_succ]
      refine eH b ?_
      refine body s hs ρ0 w0 hN _ ?_ a w hA
      intro e st' a' w' hR hA'
      cases e with
      | normal =>
        obtain ⟨s',h1,h2,rfl⟩:=hR
        exact ih s' (by omega) h1 a' w' hA'
      | ret=>exact hK _ _ _ _ hR hA'
      | exit j =>
        simp only [h9] at hR
        by_cases hj:j=id
        · subst hj
          rw [if_pos rfl] at hR
          simp only [AE.real,Exit.then,Exit.inBlock,if_true]
          exact hR ρ0 w0 hN K hK a' w' hA'
        · rw [if_neg hj] at hR
          simp only [AE.real,Exit.then,Exit.inBlock,hj,if_false]
          exact hK _ _ _ _ hR hA'
  exact key _ s (Nat.lt_succ_self _) hs a w hA
theorem aY.mono{P:Program}{lent:List ae}{cs:List Code}{st:ax}{Q Q':AE→ax→Prop}(hQ:∀ e st,Q e st→Q' e st)(h:aY P lent cs st Q) :aY P lent cs st Q' :=
  fun ρ0 w0 hN K hK a w hA=>h ρ0 w0 hN K (fun e st' a' w' q hA'=>hK e st' a' w' (hQ e st' q) hA') a w hA
theorem aY.block{P:Program}{lent:List ae}{id:Nat}{b:Code}{cs rest:List Code}{st:ax}{Q:AE→ax→Prop}(hcs:cs=.block id b::rest) 
    (h:aY P lent (dG b) st fun e st'=>match e with | .normal=>aY P lent rest st' Q | .exit j=>if j=id then aY P lent rest st' Q else Q (.exit j) st' | .ret=>Q .ret st'):aY P lent cs st Q:=by
  subst hcs
  intro ρ0 w0 hN K hK a w hA
  simp only [kM]
  refine wp_block (eH b ?_)
  refine h ρ0 w0 hN _ ?_ a w hA
  intro e st' a' w' hR hA'
  cases e with
  | normal=>exact hR ρ0 w0 hN K hK a' w' hA'
  | ret=>exact hK _ _ _ _ hR hA'
  | exit j =>
    simp only at hR
    by_cases hj:j=id
    · subst hj
      rw [if_pos rfl] at hR
      simp only [AE.real,Exit.inBlock,if_true]
      exact hR ρ0 w0 hN K hK a' w' hA'
    · rw [if_neg hj] at hR
      simp only [AE.real,Exit.inBlock,hj,if_false]
      exact hK _ _ _ _ hR hA'
theorem aY.scope{P:Program}{lent:List ae}{b:Code}{cs rest:List Code}{st:ax}{Q:AE→ax→Prop}(hcs:cs=.scope b::rest) 
    (h:aY P lent (dG b) st fun e st'=>k6 P lent rest e st' Q):aY P lent cs st Q:=by
  subst hcs
  intro ρ0 w0 hN K hK a w hA
  simp only [kM]
  refine wp_scope_straight (eH b ?_)
  refine h ρ0 w0 hN _ ?_ a w hA
  intro e st' a' w' hR hA'
  cases e with
  | normal=>exact hR ρ0 w0 hN K hK a' w' hA'
  | ret=>exact hK _ _ _ _ hR hA'
  | exit j=>exact hK _ _ _ _ hR hA'
def oR(P:Program)(fn:Func)(k:Nat)(keep:Bool)(r:iJ)(e:AE)(st:ax) :Prop :=
  (e=.normal∨e=.ret)∧∃ vs obs,br P fn st fn.results.toList=some (vs,obs)∧ac obs∧kf k keep st.heap (iO vs)=some r
theorem aY.contract{P:Program}{f:FuncId}{fn:Func}{c:Code}(hf:P.funcs[f]? = some fn)(hc:fn.body=some c){lent:List ae}{args:List AV}{r:iJ}{keep:Bool} 
    (h:aY P lent (dG c) (dO fn lent args) (oR P fn lent.length keep r)):ao P f lent args r:=by
  refine fj (keep:=keep) hf hc ?_
  intro ρ w a hN hs
  refine eH c ?_
  refine h ρ w hN _ ?_ a w ⟨ρ,cg.refl _ _,bj.refl _ _,hs,fun _ _ q=>q,Nat.le_refl _⟩
  rintro e st' a' w' ⟨he,vs,obs,h1,h2,h3⟩ ⟨ρ',E,W,S,hbk,_⟩
  refine ⟨?_,ρ',st',vs,obs,E,W,hbk,S,h1,h2,h3⟩
  rcases he with rfl | rfl
  · exact .inl rfl
  · exact .inr rfl
def oS(x y:Nat) :Nat:=x%9223372036854775808+y/9223372036854775808%2*9223372036854775808
def qq(x y:Nat) :Bool:=(isNaN x&&isNaN y)||x==y
theorem dR(x y:Nat) :isNaN (oS x y)=isNaN x:=by
  rw [eY,eY];unfold oS
  rw [Nat.add_mul_mod_self_right,Nat.mod_mod]
theorem FR.copy{e1 e2:Bool}{x y x' y':Nat}(h:FR e1 x x')(k:FR e2 y y')(hn:isNaN y=true→isNaN x=true) :FR false (oS x y) (oS x' y'):=by
  rcases h with rfl | ⟨h1,h2,h3⟩
  · rcases k with rfl | ⟨k1,k2,k3⟩
    · exact .inl rfl
    · exact .inr ⟨rfl,by rw [dR];exact hn k2,by rw [dR];exact hn k2⟩
  · exact .inr ⟨rfl,by rw [dR];exact h2,by rw [dR];exact h3⟩
theorem FR.same{e1 e2:Bool}{x y x' y':Nat}(h:FR e1 x x')(k:FR e2 y y') :qq x' y'=qq x y:=by
  unfold qq
  rcases h with rfl | ⟨h1,h2,h3⟩
  · rcases k with rfl | ⟨k1,k2,k3⟩
    · rfl
    · rw [k2,k3]
      cases hx:isNaN x' with
      | true=>rfl
      | false =>
        have a:(x'==y')=false:=by
          rw [beq_eq_false_iff_ne];intro e;rw [e] at hx;rw [hx] at k3;cases k3
        have b:(x'==y)=false:=by
          rw [beq_eq_false_iff_ne];intro e;rw [e] at hx;rw [hx] at k2;cases k2
        rw [a,b]
  · rcases k with rfl | ⟨k1,k2,k3⟩
    · rw [h2,h3]
      cases hx:isNaN y' with
      | true=>rfl
      | false =>
        have a:(x'==y')=false:=by
          rw [beq_eq_false_iff_ne];intro e;rw [e] at h3;rw [hx] at h3;cases h3
        have b:(x==y')=false:=by
          rw [beq_eq_false_iff_ne];intro e;rw [e] at h2;rw [hx] at h2;cases h2
        rw [a,b]
    · rw [h2,h3,k2,k3];rfl
theorem iJ.Holds.weak{ρ:aa}{w w':World}{k:Nat}{v v':AV}{own:List (Option ae)}{u:Value}(h:(⟨v,own⟩:iJ).Holds ρ w w' k u)(hw:∀ ρ w,VR ρ w v u→VR ρ w v' u) :(⟨v',own⟩:iJ).Holds ρ w w' k u:=by
  obtain ⟨ρ',h1,h2,h3,h4⟩:=h
  exact ⟨ρ',h1,h2,h3,hw _ _ h4⟩
structure cX where
  f:FuncId
  on:List ae→List AV→Option (List jh)
def bZ:List cX→hY
  | [],_,_,_=>none
  | e::l,f,lent,args=>bif Nat.beq e.f f then (match e.on lent args with | some r=>some r | none=>bZ l f lent args) else bZ l f lent args
def fN(P:Program)(e:cX) :Prop:=∀ lent args alts a,e.on lent args=some alts→a∈alts→ac a.obs→ao P e.f lent args a.out
theorem ku(P:Program) :bB P (bZ []):=fun f lent args alts a h=>by cases h
theorem dS{P:Program}{e:cX}{l:List cX}(he:fN P e)(hl:bB P (bZ l)) :bB P (bZ (e::l)):=by
  intro f lent args alts a h ha ho
  simp only [bZ] at h
  cases hb:Nat.beq e.f f with
  | false=>rw [hb] at h;exact hl f lent args alts a h ha ho
  | true =>
    rw [hb] at h
    have:=Nat.eq_of_beq_eq_true hb
    subst this
    simp only [cond_true] at h
    split at h
    · rename_i r hr
      cases h
      exact he lent args alts a hr ha ho
    · exact hl _ lent args alts a h ha ho
def one(v:AV)(obs:List Bool) :Option (List jh):=some [⟨⟨v,[]⟩,obs⟩]
theorem ao.run{C:gz}(hC:C.Ok){S:hY}(hS:bB C.P S)(p:a7){f:FuncId}{lent:List ae}{args:List AV}{p':a7}{r:iJ}{obs:List Bool}(N n:Nat)(h:nk C S (eE C S N n) f lent args p=some (r,obs,p'))(ho:ac obs) :
    ao C.P f lent args r:=ji hC hS N n h ho
theorem ob{b:Bool}{l:List Bool}(h:b=true)(t:ac l) :ac (b::l):=⟨h,t⟩
inductive aT:List AV→List AV→Prop
  | nil:aT [] []
  | cons {v v':AV} {l l':List AV} (h:ah v v') (t:aT l l'):aT (v::l) (v'::l')
theorem aT.vrs{ρ:aa}{w:World} :∀ {l l':List AV} {c:List Value},aT l l'→aG ρ w l c→aG ρ w l' c
  | _,_,_,.nil,.nil=>.nil
  | _,_,_,.cons h t,.cons _ _ _ _ hv tv=>.cons _ _ _ _ (h _ _ _ hv) (aT.vrs t tv)
theorem aT.refl:∀ l:List AV,aT l l
  | []=>.nil
  | v::l=>.cons (ah.refl v) (aT.refl l)
theorem ah.agg{l l':List AV}(h:aT l l') :ah (.agg l) (.agg l'):=by
  intro ρ w u hv;cases hv with | agg _ _ hl=>exact .agg _ _ (h.vrs hl)
theorem ah.tup{l l':List AV}(h:aT l l') :ah (.tup l) (.tup l'):=by
  intro ρ w u hv;cases hv with | tup _ _ hl=>exact .tup _ _ (h.vrs hl)
theorem ao.args{P:Program}{f:FuncId}{lent:List ae}{a a':List AV}{r:iJ}(h:ao P f lent a' r)(ha:aT a a') :ao P f lent a r :=
  fun ρ w us hN hv=>h ρ w us hN (ha.vrs hv)
theorem ao.weak{P:Program}{f:FuncId}{lent:List ae}{a:List AV}{v v':AV}{own:List (Option ae)}(h:ao P f lent a ⟨v,own⟩)(hw:ah v v') :ao P f lent a ⟨v',own⟩:=by
  intro ρ w us hN hv
  obtain ⟨q1,q2⟩:=h ρ w us hN hv
  refine ⟨q1,q2.mono ?_⟩
  rintro e w' ⟨u,rfl,W,hu⟩
  exact ⟨u,rfl,W,hu.weak fun ρ w=>hw ρ w u⟩
end Go.Plb
namespace Go.Plb
open Go.ChangeShapes Go.WideShapes Go.ChangeAt Go.RowKit Go.Deep
set_option linter.unusedSimpArgs false
set_option linter.unusedVariables false
set_option linter.unusedSectionVars false
variable [Rom]
def aa.none_:aa:={ at_:=fun _=>0,live:=fun _=>False,out:=fun _ _=>False,ok:=fun _=>False }
theorem qZ(w:World)(hr:∀ x∈Rom.tab,VR aa.none_ w x.2 (.pointer (some ⟨x.1,0,none⟩))) :bv aa.none_ w [] :=
  ⟨⟨fun b d q=>by simp [aF,ag] at q,fun b c d e q=>by simp [aF,ag] at q,fun bl q=>q.elim,fun bl q=>q.elim,fun j bl q=>q.elim,fun b q=>q.elim,hr⟩,fun bl q=>q.elim⟩
theorem eI(l:Lv)(bl:Nat) :aa.none_.avoid l bl:=bt (fun j=>by cases j<;>exact id) l 0
inductive FA where
  | i (k:IntKind) (n:Int)
  | f (x:Nat)
  | s (b:ByteArray)
  | b (b:Bool)
  | fl (xs:List Nat)
  | ns (k:IntKind) (xs:List Int)
def FA.av:FA→AV
  | .i k n=>.int k n
  | .f x=>.flt true x
  | .s z=>.str z
  | .b z=>.bool false z
  | .fl xs=>.imm .free (.fl xs) 1 1 0 xs.length
  | .ns k xs=>.imm .free (.ns k xs) 1 1 0 xs.length
theorem FA.kept(a:FA) :a.av.kept=true:=by cases a<;>rfl
inductive FT where
  | i (k:IntKind)
  | f
  | s
  | b
  | fl
  | ns (k:IntKind)
def FA.has:FT→FA→Prop
  | .i k,.i k' n=>k'=k∧(Lit.int k n).wf=true
  | .f,.f x=>(Lit.float .f64 x).wf=true
  | .s,.s z=>z.size≤maxLen
  | .b,.b _=>True
  | .fl,.fl xs=>xs.length≤maxLen∧∀ x∈xs,(Lit.float .f64 x).wf=true
  | .ns k,.ns k' xs=>k'=k∧xs.length≤maxLen∧∀ n∈xs,(Lit.int k n).wf=true
  | _,_=>False
def q7(P:Program)(t:TypeId) :Option FT :=
  match P.underlying t with
  | some (.int k)=>some (.i k)
  | some (.float .f64)=>some .f
  | some .string=>some .s
  | some .bool=>some .b
  | some (.slice e) =>
    match P.underlying e,P.cellsOf e with
    | some (.float .f64),1=>some .fl
    | some (.int k),1=>some (.ns k)
    | _,_=>none
  | _=>none
def mo:Value→Nat
  | .float _ b=>b
  | _=>0
def mp:Value→Int
  | .int _ n=>n
  | _=>0
theorem jc{W:World}{a:Addr}{i:Nat}{v:Value}(c:W.cell? (a.add i)=some v)(h0:a.spot=none) :a.add i=⟨a.block,a.off+i,none⟩:=by
  cases a;simp only at h0;subst h0
  unfold Addr.add;split
  · rename_i q;subst q;rfl
  · rfl
theorem ia{W:World}{a:Addr}{v:Value}(c:W.cell? a=some v) :a.spot=none:=by
  unfold World.cell? at c
  split at c
  · cases q:a.spot with
    | none=>rfl
    | some s=>rw [q] at c;simp at c
  · cases c
theorem kv{W:World}{a:Addr}{v:Value}(c:W.cell? a=some v) :a.block<W.heap.size:=by
  unfold World.cell? at c
  split at c
  · rename_i q;exact (Array.getElem?_eq_some_iff.1 q).1
  · cases c
theorem cr{α:Type}(f:Nat→α)(n x:Nat)(y:α)(h:((List.range n).map f)[x]? = some y) :x<n∧y=f x:=by
  rw [List.getElem?_map] at h
  rcases Nat.lt_or_ge x n with q | q
  · rw [List.getElem?_range q] at h;simp only [Option.map_some,Option.some.injEq] at h;exact ⟨q,h.symm⟩
  · rw [List.getElem?_eq_none (by simpa using q)] at h;cases h
variable {H : Type} {enc : TypeId × Value → H} {P : Program} {W : World}
theorem pB{t : TypeId}{ft : FT}{fuel : Nat}{v : Value}{x : DataW H × List MemPlace}(ht : q7 P t = some ft)(h : DataW.trod enc P W 0 (fun _ => true) true fuel t [v] = some x) :
    ∃ a:FA,a.has ft∧VR aa.none_ W a.av v:=by
  cases fuel with
  | zero=>simp [DataW.trod] at h
  | succ fuel =>
  have h0:=h
  unfold q7 at ht
  split at ht
  · rename_i k hk
    cases ht
    simp only [DataW.trod,hk] at h
    cases v<;>simp at h
    rename_i k' n
    obtain ⟨⟨rfl,hw⟩,_⟩:=h
    exact ⟨.i k' n,⟨rfl,hw⟩,.int _ _⟩
  · rename_i hk
    cases ht
    simp only [DataW.trod,hk] at h
    cases v<;>simp at h
    rename_i k b
    obtain ⟨⟨rfl,hw⟩,_⟩:=h
    exact ⟨.f b,hw,.flt _ _ _ (.inl rfl)⟩
  · rename_i hk
    cases ht
    simp only [DataW.trod,hk] at h
    cases v<;>simp at h
    exact ⟨.s _,h.1,.str _⟩
  · rename_i hk
    cases ht
    simp only [DataW.trod,hk] at h
    cases v<;>simp at h
    exact ⟨.b _,trivial,.bool _ _⟩
  · rename_i e hk
    have key:∀ (he:P.cellsOf e=1),(v=.slice none 0 0)∨∃ (a:Addr) (len cap n:Nat) (V:Nat→Value),v=.slice (some a) len cap∧len≤cap∧cap≤maxLen ∧
        ∀ i,i<len→∃ y,W.cell? (a.add i)=some (V i)∧DataW.trod enc P W 0 (fun _=>true) true n e [V i]=some y:=by
      intro he
      rcases open_slice1 hk he h0 with ⟨h1,_⟩ | ⟨a,len,cap,m,n,V,D,Pl,h1,hb,hl,hm,hmm,_,hx⟩
      · simp only [List.cons.injEq,and_true] at h1
        exact .inl h1
      · simp only [List.cons.injEq,and_true] at h1
        refine .inr ⟨a,len,cap,n,V,h1,hl,hm,fun i hi=>⟨_,hx i (by rw [hmm,if_pos rfl];omega)⟩⟩
    split at ht
    · rename_i he hc
      cases ht
      rcases key hc with rfl | ⟨a,len,cap,n,V,rfl,hl,hm,hx⟩
      · exact ⟨.fl [],⟨Nat.zero_le _,fun x hx=>by cases hx⟩,.immEnd _ _ _ _ _ _ _ trivial (fun _=>rfl) rfl⟩
      · have hV:∀ i,i<len→V i=.float .f64 (mo (V i))∧(Lit.float .f64 (mo (V i))).wf=true:=by
          intro i hi
          obtain ⟨y,c1,c2⟩:=hx i hi
          cases n with
          | zero=>simp [DataW.trod] at c2
          | succ n =>
            simp only [DataW.trod,he] at c2
            cases hV:V i<;>rw [hV] at c2<;>simp at c2
            obtain ⟨⟨rfl,hw⟩,_⟩:=c2
            exact ⟨rfl,hw⟩
        refine ⟨.fl ((List.range len).map fun i=>mo (V i)),⟨by simp;omega,fun x hx=>?_⟩,?_⟩
        · simp only [List.mem_map,List.mem_range] at hx
          obtain ⟨i,hi,rfl⟩:=hx
          exact (hV i hi).2
        · simp only [FA.av,List.length_map,List.length_range]
          rcases Nat.eq_zero_or_pos len with rfl | hz
          · exact .immEnd _ _ _ _ _ _ _ trivial (fun _=>rfl) rfl
          · have h0:=ia (hx 0 hz).choose_spec.1
            have hs:a.spot=none:=by
              have e:a.add 0=a:=by simp [Addr.add]
              rw [e] at h0;exact h0
            have hcell:∀ i,i<len→W.cell? ⟨a.block,a.off+i,none⟩=some (V i):=fun i hi=>by
              obtain ⟨y,c1,_⟩:=hx i hi
              rw [jc c1 hs] at c1;exact c1
            have ha:a=⟨a.block,a.off+0*1,none⟩:=by cases a;simp only at hs;subst hs;rfl
            have:=VR.imm (ρ:=aa.none_) (w:=W) .free (.fl ((List.range len).map fun i=>mo (V i))) 1 1 0 len cap a.block a.off V (eI _ _) (kv (a:=⟨a.block,a.off+0,none⟩) (hcell 0 hz))
              (fun x v hx'=>by
                simp only [ae.cell?,Option.map_eq_some_iff] at hx'
                obtain ⟨y,h1,h2⟩:=hx'
                exact hcell x (cr _ _ _ _ h1).1)
              (fun x v hx'=>by
                simp only [ae.cell?,Option.map_eq_some_iff] at hx'
                obtain ⟨y,h1,rfl⟩:=hx'
                obtain ⟨q1,rfl⟩:=cr _ _ _ _ h1
                rw [(hV x q1).1]
                exact .flt _ _ _ (.inl rfl)) hl trivial (fun _=>rfl) rfl
            rw [ha];exact this
    · rename_i k he hc
      cases ht
      rcases key hc with rfl | ⟨a,len,cap,n,V,rfl,hl,hm,hx⟩
      · exact ⟨.ns k [],⟨rfl,Nat.zero_le _,fun x hx=>by cases hx⟩,.immEnd _ _ _ _ _ _ _ trivial (fun _=>rfl) rfl⟩
      · have hV:∀ i,i<len→V i=.int k (mp (V i))∧(Lit.int k (mp (V i))).wf=true:=by
          intro i hi
          obtain ⟨y,c1,c2⟩:=hx i hi
          cases n with
          | zero=>simp [DataW.trod] at c2
          | succ n =>
            simp only [DataW.trod,he] at c2
            cases hV:V i<;>rw [hV] at c2<;>simp at c2
            obtain ⟨⟨rfl,hw⟩,_⟩:=c2
            exact ⟨rfl,hw⟩
        refine ⟨.ns k ((List.range len).map fun i=>mp (V i)),⟨rfl,by simp;omega,fun x hx=>?_⟩,?_⟩
        · simp only [List.mem_map,List.mem_range] at hx
          obtain ⟨i,hi,rfl⟩:=hx
          exact (hV i hi).2
        · simp only [FA.av,List.length_map,List.length_range]
          rcases Nat.eq_zero_or_pos len with rfl | hz
          · exact .immEnd _ _ _ _ _ _ _ trivial (fun _=>rfl) rfl
          · have h0:=ia (hx 0 hz).choose_spec.1
            have hs:a.spot=none:=by
              have e:a.add 0=a:=by simp [Addr.add]
              rw [e] at h0;exact h0
            have hcell:∀ i,i<len→W.cell? ⟨a.block,a.off+i,none⟩=some (V i):=fun i hi=>by
              obtain ⟨y,c1,_⟩:=hx i hi
              rw [jc c1 hs] at c1;exact c1
            have ha:a=⟨a.block,a.off+0*1,none⟩:=by cases a;simp only at hs;subst hs;rfl
            have:=VR.imm (ρ:=aa.none_) (w:=W) .free (.ns k ((List.range len).map fun i=>mp (V i))) 1 1 0 len cap a.block a.off V (eI _ _) (kv (a:=⟨a.block,a.off+0,none⟩) (hcell 0 hz))
              (fun x v hx'=>by
                simp only [ae.cell?,Option.map_eq_some_iff] at hx'
                obtain ⟨y,h1,h2⟩:=hx'
                exact hcell x (cr _ _ _ _ h1).1)
              (fun x v hx'=>by
                simp only [ae.cell?,Option.map_eq_some_iff] at hx'
                obtain ⟨y,h1,rfl⟩:=hx'
                obtain ⟨q1,rfl⟩:=cr _ _ _ _ h1
                rw [(hV x q1).1]
                exact .int _ _) hl trivial (fun _=>rfl) rfl
            rw [ha];exact this
    · cases ht
  · cases ht
def FA.avs:List FA→List AV
  | []=>[]
  | a::l=>a.av::FA.avs l
def eh:List FT→List FA→Prop
  | [],[]=>True
  | t::ts,a::fas=>a.has t∧eh ts fas
  | _,_=>False
def q8(P:Program)(t:TypeId) :Option (List FT) :=
  match P.underlying t with
  | some (.struct fs)=>bif P.cellsOf t==fs.size&&fs.toList.zipIdx.all (fun x=>x.1.offset==x.2&&P.cellsOf x.1.type==1) then fs.toList.mapM fun f=>q7 P f.type else none
  | _=>none
theorem jd{n:Nat} :∀ (fs:List Field) (o:Nat) {fts:List FT} {cs:List Value} {xs:List (DataW H×List MemPlace)},cs.length=o+fs.length→(∀ (j:Nat) (f:Field),fs[j]? = some f→f.offset=o+j∧P.cellsOf f.type=1)→fs.mapM (fun f=>q7 P f.type)=some fts →
    fs.mapM (fun f=>DataW.trod enc P W 0 (fun _=>true) true n f.type ((cs.drop f.offset).take (P.cellsOf f.type)))=some xs→∃ fas:List FA,eh fts fas∧aG aa.none_ W (FA.avs fas) (cs.drop o)
  | [],o,fts,cs,xs,hl,_,h1,h2=>by
    simp at h1;subst h1
    exact ⟨[],trivial,by rw [List.drop_eq_nil_of_le (by simp at hl;omega)];exact .nil⟩
  | f::fs,o,fts,cs,xs,hl,hf,h1,h2=>by
    simp only [List.mapM_cons,Option.pure_def,Option.bind_eq_bind,Option.bind_eq_some_iff,Option.some.injEq] at h1 h2
    obtain ⟨ft,a1,fts',a2,rfl⟩:=h1
    obtain ⟨x,b1,xs',b2,rfl⟩:=h2
    obtain ⟨e1,e2⟩:=hf 0 f rfl
    simp only [List.length_cons] at hl
    have hlt:o<cs.length:=by omega
    have hd:(cs.drop f.offset).take (P.cellsOf f.type)=[cs[o]]:=by
      rw [e1,e2,Nat.add_zero,List.drop_eq_getElem_cons hlt];rfl
    rw [hd] at b1
    obtain ⟨a,k1,k2⟩:=pB a1 b1
    obtain ⟨fas,k3,k4⟩:=jd fs (o+1) (cs:=cs) (by omega) (fun j f' hj=>by have:=hf (j+1) f' (by simpa using hj);exact ⟨by omega,this.2⟩) a2 b2
    refine ⟨a::fas,⟨k1,k3⟩,?_⟩
    rw [List.drop_eq_getElem_cons hlt]
    exact .cons _ _ _ _ k2 k4
theorem mq{t:TypeId}{fts:List FT}{fuel:Nat}{cs:List Value}{x:DataW H×List MemPlace}(ht:q8 P t=some fts)(h:DataW.trod enc P W 0 (fun _=>true) true fuel t cs=some x) :
    ∃ fas:List FA,eh fts fas∧aG aa.none_ W (FA.avs fas) cs:=by
  unfold q8 at ht
  split at ht
  case h_2=>cases ht
  rename_i fs hk
  cases hb:(P.cellsOf t==fs.size&&fs.toList.zipIdx.all (fun x=>x.1.offset==x.2&&P.cellsOf x.1.type==1)) with
  | false=>rw [hb] at ht;cases ht
  | true =>
  rw [hb] at ht
  simp only [cond_true] at ht
  simp only [Bool.and_eq_true,beq_iff_eq,List.all_eq_true] at hb
  cases fuel with
  | zero=>simp [DataW.trod] at h
  | succ fuel =>
  simp only [DataW.trod,hk] at h
  split at h
  case isFalse=>cases h
  rename_i hlen
  simp only [Option.map_eq_some_iff] at h
  obtain ⟨xs,h1,_⟩:=h
  have:=jd fs.toList 0 (cs:=cs) (by rw [hlen,hb.1];simp) (fun j f hj=>by
    have:=hb.2 (f,j) (by rw [List.mem_zipIdx_iff_getElem?];exact hj)
    simp only at this
    exact ⟨by omega,this.2⟩) ht h1
  simpa using this
theorem je{t:TypeId}{fts:List FT}{v:Value}{d:DataW H}{p:List MemPlace}{base:Nat}(ht:q8 P t=some fts)(ho:Value.okWide P W .any base t v)(h:DataW.Trod enc P W 0 (fun _=>true) true t v d p) :
    ∃ fas:List FA,eh fts fas∧VR aa.none_ W (.agg (FA.avs fas)) v:=by
  obtain ⟨fuel,hf⟩:=h
  have hs:∃ cs,v=.agg cs:=by
    unfold q8 at ht
    split at ht
    case h_2=>cases ht
    rename_i fs hk
    unfold Value.okWide at ho
    rw [hk] at ho
    obtain ⟨cs,rfl,_⟩:=ho
    exact ⟨cs,rfl⟩
  obtain ⟨cs,rfl⟩:=hs
  obtain ⟨fas,k1,k2⟩:=mq ht hf
  exact ⟨fas,k1,.agg _ _ k2⟩
theorem qr{W W':World}(h:bj (fun _=>False) W W') :Below W.heap.size W W' :=
  ⟨h.os,h.tape,h.output,h.size,fun k hk=>h.same k hk (fun q=>q)⟩
def dT(P:Program)(ts:List TypeId) :Bool:=ts.all fun t=>P.readableRec t&&decide (t<P.types.size)
theorem lB{W W':World}(hl:laidOutB P=true)(hb:Below W.heap.size W W') :∀ {ts:List TypeId} {vs:List Value} {ds:List (DataW H)} {ps:List MemPlace},dT P ts=true →
    DataW.TrodAll enc P W 0 (fun _=>true) true ts vs ds ps→(∀ x∈ps,x.block<W.heap.size)→∀ sp:Nat→Bool,(∀ p∈ps,sp p.block=true)→DataW.TrodAll enc P W' 0 sp true ts vs ds ps
  | [],vs,ds,ps,_,h,_,_,_=>by obtain ⟨rfl,rfl,rfl⟩:=trodAll_nil h;rfl
  | t::ts,vs,ds,ps,hp,h,hlt,sp,hsp=>by
    obtain ⟨v,vs',d,ds',p,q,rfl,rfl,rfl,h1,h2⟩:=trodAll_cons h
    simp only [dT,List.all_cons,Bool.and_eq_true,decide_eq_true_eq] at hp
    exact ⟨p,q,WideElems.Trod_stays hl hp.1.1 hp.1.2 h1 (fun x hx=>hb.same (hlt x (by simp [hx]))) (fun x hx=>hsp x (by simp [hx])),
      lB hl hb (by simpa [dT] using hp.2) h2 (fun x hx=>hlt x (by simp [hx])) sp (fun x hx=>hsp x (by simp [hx])),rfl⟩
theorem qs{f:Func}{s:ChangeSpec}{W W':World}{args:Array Value}{ds gs:List (DataW H)}{before:List MemPlace}{tb:TypeId}(hl:laidOutB P=true) 
    (hW:DataW.Whole enc P f.params.toList s.vars false W args.toList ds gs before) (hv:s.vars=[]) (hp:dT P f.params.toList=true)
    (hs:s.fn H (ds++gs) = { results:=[.lit (.bool true)],args:=ds }) (hr:f.resultTypes = #[tb]) (ht:P.underlying tb=some .bool) (hw:bj (fun _=>False) W W') :
    s.post enc P f false true false false W args (.bool true) W':=by
  have hb:=qr hw
  have hlt:∀ p∈before,p.block<W.heap.size:=fun p hp=>hW.lt p hp
  have hW':=hW
  obtain ⟨p,q,hA,hV,rfl,hfz,rQ⟩:=hW'
  rw [hv] at hV
  obtain ⟨rfl,rfl⟩:=trodVars_none hV
  simp only [List.append_nil] at hlt hs hW
  have harg:=lB hl hb hp hA hlt (fun b=>decide (b<W.heap.size)) (fun x hx=>by simpa using hlt x hx)
  refine ⟨ds,[],p,[],p,[],hW,?_,?_,?_,World.keptBut_mono (fun x hx=>⟨hx,.inr (.inl hx)⟩) (hb.frame (· ∈ p)),fun e=>(by cases e)⟩
  · rw [List.append_nil,hs,hr]
    exact trodAll_mk1 (shut_bool ht true)
  · rw [List.append_nil,hs];exact harg
  · rw [hv];simp only [List.append_nil,hs];exact rfl
theorem nw{k:IntKind}{a:FA}(h:a.has (.i k)) :∃ n,a=.i k n:=by
  cases a<;>simp only [FA.has] at h
  obtain ⟨rfl,_⟩:=h;exact ⟨_,rfl⟩
theorem rO{k:IntKind}{a:FA}(h:a.has (.ns k)) :∃ x,a=.ns k x:=by
  cases a<;>simp only [FA.has] at h
  obtain ⟨rfl,_⟩:=h;exact ⟨_,rfl⟩
theorem qt{ρ:aa}{w w':World}{k b:Bool}{u:Value}(h:(⟨.bool k b,[]⟩:iJ).Holds ρ w w' 0 u) :u=.bool b:=by
  obtain ⟨ρ',_,_,_,h4⟩:=h
  cases h4;rfl
end Go.Plb
namespace Go.Plb
set_option linter.unusedSimpArgs false
set_option linter.unusedVariables false
set_option linter.unusedSectionVars false
variable [Rom]
def bi{α:Type}(o n:Nat)(l:List α) :List α:=(cm o l).take n
theorem mr{α:Type}(o n:Nat)(l:List α) :bi o n l=(l.drop o).take n:=by
  unfold bi cm;cases o<;>rfl
theorem ib{α:Type}(l:List α) :bi 0 l.length l=l:=by simp [mr]
theorem bS{α:Type}{o n:Nat}{l:List α}(h:o+n≤l.length) :(bi o n l).length=n:=by rw [mr];simp;omega
theorem qu{α:Type}{o n:Nat}{l:List α}{i:Nat}{v:α}(h:(bi o n l)[i]? = some v) :l[o+i]? = some v:=by
  rw [mr,List.getElem?_take] at h
  split at h
  · rw [List.getElem?_drop] at h;exact h
  · cases h
def di{α:Type}(o n:Nat)(xs:List α) :Bool:=Nat.ble (o+n) xs.length
theorem ic{α:Type}{o n:Nat}{xs:List α} :di o n xs=true↔o+n≤xs.length:=by unfold di;rw [Nat.ble_eq]
theorem jj{l:Lv}{d d':ae}{w es o n:Nat}(h:∀ x v,d'.cell? x=some v→d.cell? (o*w+x)=some v)(hr:d.recKept→d'.recKept)(hk:d'.kept=true)(hg:d'.foreign=true) :
    ah (.imm l d w es o n) (.imm l d' w es 0 n):=by
  intro ρ w' u hv
  cases hv with
  | imm _ _ _ _ _ _ cap bl o' u' ha hb hc hv' hl' hr' _ _ =>
    have:=VR.imm (ρ:=ρ) (w:=w') l d' w es 0 n cap bl (o'+o*w) (fun x=>u' (o*w+x)) ha hb
      (fun x v hx=>by rw [Nat.add_assoc];exact hc _ v (h x v hx)) (fun x v hx=>hv' _ v (h x v hx)) hl' (hr hr') (fun _=>hk) hg
    simpa using this
  | immEnd _ _ _ _ _ _ _ hr'=>exact .immEnd _ _ _ _ _ _ _ (hr hr') (fun _=>hk) hg
theorem jk{l:Lv}{d':ae}{w es:Nat}(hr:d'.recKept)(hk:d'.kept=true)(hg:d'.foreign=true) :ah .nsl (.imm l d' w es 0 0):=by
  intro ρ w' u hv;cases hv;exact .immEnd _ _ _ _ _ _ _ hr (fun _=>hk) hg
theorem jl{l:Lv}{d':ae}{w es:Nat}(hr:d'.recKept)(hk:d'.kept=true)(hg:d'.foreign=true) :ah .esl (.imm l d' w es 0 0):=by
  intro ρ w' u hv;cases hv;exact .immEnd _ _ _ _ _ _ _ hr (fun _=>hk) hg
theorem aT.get:∀ {l1 l2:List AV},aT l1 l2→∀ {x:Nat} {v:AV},l2[x]? = some v→∃ v0,l1[x]? = some v0∧ah v0 v
  | _,_,.nil,x,v,h=>by simp at h
  | _,_,.cons a t,0,v,h=>by simp at h;subst h;exact ⟨_,rfl,a⟩
  | _,_,.cons a t,x+1,v,h=>by
    obtain ⟨v0,h1,h2⟩:=aT.get t (by simpa using h)
    exact ⟨v0,by simpa using h1,h2⟩
theorem kw{lv:Lv}{l1 l2:List AV}{k i j:Nat}(h:aT l1 l2)(hk:aB l1=true→aB l2=true)(hg:am l1=true→am l2=true) :ah (.iptr lv (.vs l1) k i j) (.iptr lv (.vs l2) k i j):=by
  intro ρ w u hv
  cases hv with | iptr _ _ _ _ _ bl o u' ha hb hc hv' hr hk' hg' =>
  refine .iptr _ _ _ _ _ bl o u' ha hb (fun x v hx=>?_) (fun x v hx=>?_) trivial (fun q=>hk (hk' q)) (hg hg')
  · obtain ⟨v0,h1,h2⟩:=h.get hx
    exact hc x v0 h1
  · obtain ⟨v0,h1,h2⟩:=h.get hx
    exact h2 _ _ _ (hv' x v0 h1)
theorem ah.fn{f:Fn}{a b a' b':List AV}(h:aT a a')(k:aT b b') :ah (.fn f a b) (.fn f a' b'):=by
  intro ρ w u hv
  cases hv with | fn _ _ _ c1 c2 h1 h2=>exact .fn _ _ _ _ _ (h.vrs h1) (k.vrs h2)
theorem ah.iface{t:TypeId}{a b:AV}(h:ah a b) :ah (.iface t a) (.iface t b):=by
  intro ρ w u hv
  cases hv with | iface _ _ u h1=>exact .iface _ _ _ (h _ _ _ h1)
theorem ah.any(v:AV) :ah v .any:=fun _ _ u _=>.any u
inductive CK where
  | cf
  | ci (k:IntKind)
  | cb
  | cs
  | cfl
  | cns (k:IntKind)
def CK.Ty:CK→Type
  | .cf=>List Nat
  | .ci _=>List Int
  | .cb=>List Bool
  | .cs=>List ByteArray
  | .cfl=>List (List Nat)
  | .cns _=>List (List Int)
def CK.fit:(k:CK)→(o n:Nat)→aO→Option k.Ty
  | .cf,o,n,.cf xs=>some (bi o n xs)
  | .ci k,o,n,.ci k' xs=>bif ay k k' then some (bi o n xs) else none
  | .cb,o,n,.cb xs=>some (bi o n xs)
  | .cs,o,n,.cs xs=>some (bi o n xs)
  | .cfl,o,n,.cfl xs=>some (bi o n xs)
  | .cns k,o,n,.cns k' xs=>bif ay k k' then some (bi o n xs) else none
  | _,_,_,_=>none
def CK.emp:(k:CK)→k.Ty
  | .cf=>([]:List Nat)
  | .ci _=>([]:List Int)
  | .cb=>([]:List Bool)
  | .cs=>([]:List ByteArray)
  | .cfl=>([]:List (List Nat))
  | .cns _=>([]:List (List Int))
def CK.col:(k:CK)→k.Ty→aO
  | .cf,xs=>.cf xs
  | .ci k,xs=>.ci k xs
  | .cb,xs=>.cb xs
  | .cs,xs=>.cs xs
  | .cfl,xs=>.cfl xs
  | .cns k,xs=>.cns k xs
theorem dq{a b:IntKind} :ay a b=true↔a=b:=by simp [ay]
theorem cP{α:Type}{f:α→AV}{o n i:Nat}{xs:List α}{v:AV}(h:((bi o n xs)[i]?).map f=some v) :(xs[o+i]?).map f=some v:=by
  simp only [Option.map_eq_some_iff] at h ⊢
  obtain ⟨y,h1,h2⟩:=h
  exact ⟨y,qu h1,h2⟩
theorem CK.fit_spec:∀ {k:CK} {o n:Nat} {c:aO} {t:k.Ty},k.fit o n c=some t→(o+n≤c.len→(k.col t).len=n)∧∀ i v,(k.col t).cell? i=some v→c.cell? (o+i)=some v:=by
  intro k o n c t h
  cases k<;>cases c<;>simp only [CK.fit] at h<;>try (cases h;done)
  case cf.cf xs=>cases h;exact ⟨fun q=>bS q,fun i v q=>cP q⟩
  case ci.ci k k' xs =>
    cases e:ay k k' with
    | false=>rw [e] at h;cases h
    | true=>rw [e] at h;cases h;cases (dq.1 e);exact ⟨fun q=>bS q,fun i v q=>cP q⟩
  case cb.cb xs=>cases h;exact ⟨fun q=>bS q,fun i v q=>cP q⟩
  case cs.cs xs=>cases h;exact ⟨fun q=>bS q,fun i v q=>cP q⟩
  case cfl.cfl xs=>cases h;exact ⟨fun q=>bS q,fun i v q=>cP q⟩
  case cns.cns k k' xs =>
    cases e:ay k k' with
    | false=>rw [e] at h;cases h
    | true=>rw [e] at h;cases h;cases (dq.1 e);exact ⟨fun q=>bS q,fun i v q=>cP q⟩
theorem CK.emp_len:∀ (k:CK),(k.col k.emp).len=0:=by intro k;cases k<;>rfl
def CKs.Ty:List CK→Type
  | []=>Unit
  | k::l=>k.Ty×CKs.Ty l
def CKs.fit:(l:List CK)→(o n:Nat)→List aO→Option (CKs.Ty l)
  | [],_,_,[]=>some ()
  | k::l,o,n,c::cs=>(k.fit o n c).bind fun t=>(CKs.fit l o n cs).map fun r=>(t,r)
  | _,_,_,_=>none
def CKs.emp:(l:List CK)→CKs.Ty l
  | []=>()
  | k::l=>(k.emp,CKs.emp l)
def CKs.cols:(l:List CK)→CKs.Ty l→List aO
  | [],_=>[]
  | k::l,t=>k.col t.1::CKs.cols l t.2
theorem CKs.len:∀ {l:List CK} {t:CKs.Ty l},(CKs.cols l t).length=l.length
  | [],t=>rfl
  | k::l,t=>by simp [CKs.cols,CKs.len]
theorem jf:∀ {l:List CK} {o n:Nat} {cs:List aO} {t:CKs.Ty l},CKs.fit l o n cs=some t→cs.length=l.length
  | [],o,n,[],t,h=>rfl
  | [],o,n,c::cs,t,h=>by simp [CKs.fit] at h
  | k::l,o,n,[],t,h=>by simp [CKs.fit] at h
  | k::l,o,n,c::cs,t,h=>by
    simp only [CKs.fit] at h
    cases e1:k.fit o n c with
    | none=>rw [e1] at h;cases h
    | some a =>
      rw [e1] at h
      cases e2:CKs.fit l o n cs with
      | none=>simp only [Option.bind_some,e2] at h;cases h
      | some b=>simp [jf e2]
theorem CKs.fit_spec:∀ {l:List CK} {o n:Nat} {cs:List aO} {t:CKs.Ty l},CKs.fit l o n cs=some t→∀ (j:Nat) (c':aO),(CKs.cols l t)[j]? = some c'→∃ c:aO,cs[j]? = some c∧(o+n≤c.len→c'.len=n)∧∀ i v,c'.cell? i=some v→c.cell? (o+i)=some v
  | [],o,n,cs,t,h,j,c',q=>by simp [CKs.cols] at q
  | k::l,o,n,[],t,h,j,c',q=>by simp [CKs.fit] at h
  | k::l,o,n,c::cs,t,h,j,c',q=>by
    simp only [CKs.fit] at h
    cases e1:k.fit o n c with
    | none=>rw [e1] at h;cases h
    | some a =>
      rw [e1] at h
      cases e2:CKs.fit l o n cs with
      | none=>simp only [Option.bind_some,e2] at h;cases h
      | some b =>
        simp only [Option.bind_some,e2] at h
        cases h
        cases j with
        | zero=>simp [CKs.cols] at q;subst q;exact ⟨c,rfl,CK.fit_spec e1⟩
        | succ j=>exact CKs.fit_spec e2 j c' (by simpa [CKs.cols] using q)
theorem CKs.emp_len:∀ (l:List CK),∀ c∈CKs.cols l (CKs.emp l),c.len=0
  | [],c,h=>by cases h
  | k::l,c,h=>by
    simp only [CKs.cols,CKs.emp,List.mem_cons] at h
    rcases h with rfl | h
    · exact CK.emp_len k
    · exact CKs.emp_len l c h
mutual
inductive gJ where
  | int (k:IntKind)
  | flt (ex:Bool)
  | bool
  | kbool (b:Bool)
  | str
  | fl
  | ns (k:IntKind)
  | bs
  | ss
  | cols (l:List CK)
  | ivs (ps:c5) (w i j:Nat)
  | fn (f:FuncId) (a b:c5)
  | nfn
  | nptr
  | nsl
  | agg (ps:c5)
  | tup (ps:c5)
  | iface (t:TypeId) (p:gJ)
  | niface
  | any
  | lsl (b:Nat)
  | lptr (b w i j:Nat)
inductive c5 where
  | nil
  | cons (p:gJ) (ps:c5)
end
mutual
def gJ.Ty:gJ→Type
  | .int _=>Int
  | .flt _=>Nat
  | .bool=>Bool
  | .str=>ByteArray
  | .fl=>Lv×List Nat
  | .ns _=>Lv×List Int
  | .bs=>Lv×List Bool
  | .ss=>Lv×List ByteArray
  | .cols l=>Lv×Nat×CKs.Ty l
  | .ivs ps _ _ _=>Lv×ps.Ty
  | .fn _ a b=>a.Ty×b.Ty
  | .agg ps=>ps.Ty
  | .tup ps=>ps.Ty
  | .iface _ p=>p.Ty
  | .kbool _=>Unit
  | .nfn=>Unit
  | .nptr=>Unit
  | .nsl=>Unit
  | .niface=>Unit
  | .any=>Unit
  | .lsl _=>Nat×Nat×Nat
  | .lptr _ _ _ _=>Unit
def c5.Ty:c5→Type
  | .nil=>Unit
  | .cons p ps=>p.Ty×ps.Ty
end
mutual
def gJ.av:(p:gJ)→p.Ty→AV
  | .int k,n=>.int k n
  | .flt ex,x=>.flt ex x
  | .bool,b=>.bool false b
  | .str,s=>.str s
  | .fl,t=>.imm t.1 (.fl t.2) 1 1 0 t.2.length
  | .ns k,t=>.imm t.1 (.ns k t.2) 1 1 0 t.2.length
  | .bs,t=>.imm t.1 (.bs t.2) 1 1 0 t.2.length
  | .ss,t=>.imm t.1 (.ss t.2) 1 1 0 t.2.length
  | .cols l,t=>.imm t.1 (.cols t.2.1 (CKs.cols l t.2.2)) l.length l.length 0 t.2.1
  | .ivs ps w i j,t=>.iptr t.1 (.vs (ps.avs t.2)) w i j
  | .fn f a b,t=>.fn (.func f) (a.avs t.1) (b.avs t.2)
  | .agg ps,t=>.agg (ps.avs t)
  | .tup ps,t=>.tup (ps.avs t)
  | .iface y p,t=>.iface y (p.av t)
  | .kbool b,_=>.bool true b
  | .nfn,_=>.nfn
  | .nptr,_=>.nptr
  | .nsl,_=>.nsl
  | .niface,_=>.niface
  | .any,_=>.any
  | .lsl b,t=>.sl b 1 1 t.1 t.2.1 t.2.2
  | .lptr b w i j,_=>.ptr b w i j
def c5.avs:(ps:c5)→ps.Ty→List AV
  | .nil,_=>[]
  | .cons p ps,t=>p.av t.1::ps.avs t.2
end
def ot(a b:Bool) :Bool:=bif a then b else !b
theorem ou{a b:Bool} :ot a b=true↔a=b:=by cases a<;>cases b<;>simp [ot]
def CKs.ok(n:Nat)(m:Nat) :Bool:=Nat.ble n m
def qv(k:IntKind) :AV→Option (Int×List Bool)
  | .int k' n=>bif ay k k' then some (n,[]) else none
  | _=>none
def qw(ex:Bool) :AV→Option (Nat×List Bool)
  | .flt ex' x=>bif ex && !ex' then none else some (x,[])
  | _=>none
def oT:AV→Option (Bool×List Bool)
  | .bool kn b=>bif kn then none else some (b,[])
  | _=>none
def nx(b:Bool) :AV→Option (Unit×List Bool)
  | .bool kn b'=>bif kn&&ot b b' then some ((),[]) else none
  | _=>none
def qx:AV→Option (ByteArray×List Bool)
  | .str s=>some (s,[])
  | _=>none
def lC{α:Type}(f:ae→Option (List α)) :AV→Option ((Lv×List α)×List Bool)
  | .imm l d w es o n=>(f d).bind fun xs=>bif Nat.beq w 1&&Nat.beq es 1 then some ((l,bi o n xs),[di o n xs]) else none
  | .nsl=>some ((.free,[]),[])
  | .esl=>some ((.free,[]),[])
  | _=>none
def qy:ae→Option (List Nat)
  | .fl xs=>some xs
  | _=>none
def qz(k:IntKind) :ae→Option (List Int)
  | .ns k' xs=>bif ay k k' then some xs else none
  | _=>none
def qA:ae→Option (List Bool)
  | .bs xs=>some xs
  | _=>none
def ri:ae→Option (List ByteArray)
  | .ss xs=>some xs
  | _=>none
def rj:ae→Option (List AV)
  | .vs xs=>some xs
  | _=>none
def oU:ae→Option (Nat×List aO)
  | .cols m cs=>some (m,cs)
  | _=>none
def mt(ks:List CK) :AV→Option ((Lv×Nat×CKs.Ty ks)×List Bool)
  | .imm l d w es o n=>(oU d).bind fun q=>bif Nat.beq w ks.length&&Nat.beq es ks.length then (CKs.fit ks o n q.2).map fun t=>((l,n,t),[Nat.ble (o+n) q.1]) else none
  | .nsl=>some ((.free,0,CKs.emp ks),[])
  | .esl=>some ((.free,0,CKs.emp ks),[])
  | _=>none
def rl(w i j:Nat) :AV→Option (Lv×List AV)
  | .iptr l d w' i' j'=>(rj d).bind fun xs=>bif Nat.beq w w'&&(Nat.beq i i'&&Nat.beq j j') then some (l,xs) else none
  | _=>none
def r6(f:FuncId) :AV→Option (List AV×List AV)
  | .fn (.func f') x y=>bif Nat.beq f f' then some (x,y) else none
  | _=>none
def rm:AV→Option (List AV)
  | .agg l=>some l
  | _=>none
def rn:AV→Option (List AV)
  | .tup l=>some l
  | _=>none
def oV(t:TypeId) :AV→Option AV
  | .iface t' v=>bif Nat.beq t t' then some v else none
  | _=>none
def rp:AV→Option (Unit×List Bool)
  | .nfn=>some ((),[])
  | _=>none
def qB:AV→Option (Unit×List Bool)
  | .nptr=>some ((),[])
  | _=>none
def rq:AV→Option (Unit×List Bool)
  | .nsl=>some ((),[])
  | _=>none
def qC(b:Nat) :AV→Option ((Nat×Nat×Nat)×List Bool)
  | .sl b' w es i len cap=>bif Nat.beq b b'&&(Nat.beq w 1&&Nat.beq es 1) then some ((i,len,cap),[]) else none
  | _=>none
def oW(b w i j:Nat) :AV→Option (Unit×List Bool)
  | .ptr b' w' i' j'=>bif (Nat.beq b b'&&Nat.beq w w')&&(Nat.beq i i'&&Nat.beq j j') then some ((),[]) else none
  | _=>none
def ny:AV→Option (Unit×List Bool)
  | .niface=>some ((),[])
  | _=>none
mutual
def gJ.fit:(p:gJ)→AV→Option (p.Ty×List Bool)
  | .int k=>qv k
  | .flt ex=>qw ex
  | .bool=>oT
  | .kbool b=>nx b
  | .str=>qx
  | .fl=>lC qy
  | .ns k=>lC (qz k)
  | .bs=>lC qA
  | .ss=>lC ri
  | .cols ks=>mt ks
  | .ivs ps w i j=>fun v=>match rl w i j v with
    | some q=>match ps.fit q.2 with
      | some r=>some ((q.1,r.1),r.2)
      | none=>none
    | none=>none
  | .fn f a b=>fun v=>match r6 f v with
    | some q=>match a.fit q.1 with
      | some r=>match b.fit q.2 with
        | some s=>some ((r.1,s.1),r.2++s.2)
        | none=>none
      | none=>none
    | none=>none
  | .agg ps=>fun v=>match rm v with
    | some l=>ps.fit l
    | none=>none
  | .tup ps=>fun v=>match rn v with
    | some l=>ps.fit l
    | none=>none
  | .iface t p=>fun v=>match oV t v with
    | some u=>p.fit u
    | none=>none
  | .nfn=>rp
  | .nptr=>qB
  | .nsl=>rq
  | .niface=>ny
  | .any=>fun _=>some ((),[])
  | .lsl b=>qC b
  | .lptr b w i j=>oW b w i j
def c5.fit:(ps:c5)→List AV→Option (ps.Ty×List Bool)
  | .nil=>fun l=>match l with
    | []=>some ((),[])
    | _::_=>none
  | .cons p ps=>fun l=>match l with
    | []=>none
    | v::l=>match p.fit v with
      | some r=>match ps.fit l with
        | some s=>some ((r.1,s.1),r.2++s.2)
        | none=>none
      | none=>none
end
theorem pC{ks:List CK}{o n m:Nat}{cs:List aO}{t:CKs.Ty ks}(h:CKs.fit ks o n cs=some t) :∀ x v,(ae.cols n (CKs.cols ks t)).cell? x=some v→(ae.cols m cs).cell? (o*ks.length+x)=some v:=by
  intro x v hx
  have hl:=jf h
  obtain ⟨c',h1,_,h3⟩:=aU hx
  obtain ⟨c,q1,_,q3⟩:=CKs.fit_spec h _ _ h1
  rw [CKs.len] at h1 h3 q1
  have hpos:0<ks.length:=by
    have:=(List.getElem?_eq_some_iff.1 q1).1
    omega
  simp only [ae.cell?,hl,Option.bind_eq_some_iff]
  refine ⟨c,?_,?_⟩
  · rw [Nat.add_comm,Nat.add_mul_mod_self_right];exact q1
  · rw [Nat.add_comm,Nat.add_mul_div_right _ _ hpos,Nat.add_comm];exact q3 _ _ h3
structure Wk (v v':AV):Prop where
  weak:ah v v'
  kept:v.kept=true→v'.kept=true
  foreign:v.foreign=true→v'.foreign=true
structure sk (v v':List AV):Prop where
  weak:aT v v'
  kept:aB v=true→aB v'=true
  foreign:am v=true→am v'=true
theorem Wk.refl(v:AV) :Wk v v:=⟨ah.refl v,id,id⟩
theorem Wk.fltL(x:Nat) :Wk (.flt true x) (.flt false x):=⟨fun ρ w u h=>(by
  cases h with | flt _ _ y hf =>
  rcases hf with rfl | ⟨q,_⟩
  · exact .flt _ _ _ (.inl rfl)
  · cases q),id,id⟩
theorem sk.cons{v v':AV}{l l':List AV}(h:Wk v v')(k:sk l l') :sk (v::l) (v'::l') :=
  ⟨.cons h.weak k.weak,fun q=>by simp only [aB,Bool.and_eq_true] at q ⊢;exact ⟨h.kept q.1,k.kept q.2⟩,fun q=>by simp only [am,Bool.and_eq_true] at q ⊢;exact ⟨h.foreign q.1,k.foreign q.2⟩⟩
theorem Wk.part{l:Lv}{d d':ae}{w es o n:Nat}(h:∀ x v,d'.cell? x=some v→d.cell? (o*w+x)=some v)(hr:d.recKept→d'.recKept)(hk:d'.kept=true)(hg:d'.foreign=true) :Wk (.imm l d w es o n) (.imm l d' w es 0 n) :=
  ⟨jj h hr hk hg,id,id⟩
theorem Wk.nsl{d':ae}{w es:Nat}(hr:d'.recKept)(hk:d'.kept=true)(hg:d'.foreign=true) :Wk .nsl (.imm .free d' w es 0 0):=⟨jk hr hk hg,id,id⟩
theorem Wk.esl{d':ae}{w es:Nat}(hr:d'.recKept)(hk:d'.kept=true)(hg:d'.foreign=true) :Wk .esl (.imm .free d' w es 0 0):=⟨jl hr hk hg,id,id⟩
theorem Wk.fl{l:Lv}{xs:List Nat}{o n:Nat}(h:di o n xs=true) :Wk (.imm l (.fl xs) 1 1 o n) (.imm l (.fl (bi o n xs)) 1 1 0 (bi o n xs).length):=by
  rw [bS (ic.1 h)];exact .part (fun x v q=>by rw [Nat.mul_one];exact cP q) (fun _=>trivial) rfl rfl
theorem Wk.ns{k:IntKind}{l:Lv}{xs:List Int}{o n:Nat}(h:di o n xs=true) :Wk (.imm l (.ns k xs) 1 1 o n) (.imm l (.ns k (bi o n xs)) 1 1 0 (bi o n xs).length):=by
  rw [bS (ic.1 h)];exact .part (fun x v q=>by rw [Nat.mul_one];exact cP q) (fun _=>trivial) rfl rfl
theorem Wk.bs{l:Lv}{xs:List Bool}{o n:Nat}(h:di o n xs=true) :Wk (.imm l (.bs xs) 1 1 o n) (.imm l (.bs (bi o n xs)) 1 1 0 (bi o n xs).length):=by
  rw [bS (ic.1 h)];exact .part (fun x v q=>by rw [Nat.mul_one];exact cP q) (fun _=>trivial) rfl rfl
theorem Wk.ss{l:Lv}{xs:List ByteArray}{o n:Nat}(h:di o n xs=true) :Wk (.imm l (.ss xs) 1 1 o n) (.imm l (.ss (bi o n xs)) 1 1 0 (bi o n xs).length):=by
  rw [bS (ic.1 h)];exact .part (fun x v q=>by rw [Nat.mul_one];exact cP q) (fun _=>trivial) rfl rfl
theorem qD{ks:List CK}{o n m:Nat}{cs:List aO}{t:CKs.Ty ks}(h:CKs.fit ks o n cs=some t)(hm:o+n≤m) :(ae.cols m cs).recKept→(ae.cols n (CKs.cols ks t)).recKept:=by
  intro hr c hc
  obtain ⟨j,hj⟩:=List.getElem?_of_mem hc
  obtain ⟨c0,q1,q2,_⟩:=CKs.fit_spec h j c hj
  exact q2 (by rw [hr c0 (List.mem_of_getElem? q1)];exact hm)
theorem r7{w es n:Nat}(h:(Nat.beq w n&&Nat.beq es n)=true) :w=n∧es=n:=by
  rw [Bool.and_eq_true] at h;exact ⟨Nat.eq_of_beq_eq_true h.1,Nat.eq_of_beq_eq_true h.2⟩
theorem dj{α:Type}{c:Bool}{a:α}{x:α}(h:(bif c then some a else none)=some x) :c=true∧a=x:=by
  cases c with
  | true=>exact ⟨rfl,by simpa using h⟩
  | false=>cases h
theorem r8{α:Type}{c:Bool}{a:Option α}{x:α}(h:(bif c then a else none)=some x) :c=true∧a=some x:=by
  cases c with
  | true=>exact ⟨rfl,h⟩
  | false=>cases h
theorem eJ{α:Type}{f:ae→Option (List α)}{g:List α→ae}(hg:∀ {d xs},f d=some xs→d=g xs) 
    (hw:∀ {l xs o n},di o n xs=true→Wk (.imm l (g xs) 1 1 o n) (.imm l (g (bi o n xs)) 1 1 0 (bi o n xs).length)) (h0:(g []).recKept∧(g []).kept=true∧(g []).foreign=true)
    {v:AV} {t:Lv×List α} {o:List Bool} (h:lC f v=some (t,o)) (ho:ac o):Wk v (.imm t.1 (g t.2) 1 1 0 t.2.length):=by
  unfold lC at h
  split at h
  · rename_i l d w es i n
    cases e:f d with
    | none=>rw [e] at h;cases h
    | some xs =>
      rw [e] at h
      obtain ⟨e2,h⟩:=dj h
      obtain ⟨rfl,rfl⟩:=r7 e2
      cases h;cases hg e;exact hw ho.1
  · cases h;exact .nsl h0.1 h0.2.1 h0.2.2
  · cases h;exact .esl h0.1 h0.2.1 h0.2.2
  · cases h
theorem mu{ks:List CK}{v:AV}{t:Lv×Nat×CKs.Ty ks}{o:List Bool}(h:mt ks v=some (t,o))(ho:ac o) :Wk v (.imm t.1 (.cols t.2.1 (CKs.cols ks t.2.2)) ks.length ks.length 0 t.2.1):=by
  unfold mt at h
  split at h
  · rename_i l d w es i n
    cases d<;>simp only [oU,Option.bind_none,Option.bind_some,reduceCtorEq] at h
    rename_i m cs
    have e:=(r8 h).1;replace h:=(r8 h).2
    obtain ⟨rfl,rfl⟩:=r7 e
    cases e2:CKs.fit ks i n cs with
    | none=>rw [e2] at h;cases h
    | some r =>
      rw [e2] at h;cases h
      have:i+n≤m:=Nat.le_of_ble_eq_true ho.1
      exact .part (pC e2) (qD e2 this) rfl rfl
  · cases h;exact .nsl (CKs.emp_len ks) rfl rfl
  · cases h;exact .esl (CKs.emp_len ks) rfl rfl
  · cases h
mutual
theorem gJ.fit_spec:∀ (p:gJ) (v:AV) {t:p.Ty} {o:List Bool},p.fit v=some (t,o)→ac o→Wk v (p.av t)
  | .int k,v,t,o,h,ho=>by
    simp only [gJ.fit,qv] at h
    split at h
    · obtain ⟨e,h⟩:=dj h
      cases h;cases dq.1 e;exact .refl _
    · cases h
  | .flt ex,v,t,o,h,ho=>by
    simp only [gJ.fit,qw] at h
    split at h
    · rename_i ex' x
      cases ex with
      | true =>
        cases ex' with
        | true=>cases h;exact .refl _
        | false=>cases h
      | false =>
        cases ex' with
        | true=>cases h;exact .fltL x
        | false=>cases h;exact .refl _
    · cases h
  | .bool,v,t,o,h,ho=>by
    simp only [gJ.fit,oT] at h
    split at h
    · rename_i kn b
      cases kn with
      | true=>cases h
      | false=>cases h;exact .refl _
    · cases h
  | .kbool b,v,t,o,h,ho=>by
    simp only [gJ.fit,nx] at h
    split at h
    · obtain ⟨e,h⟩:=dj h
      rw [Bool.and_eq_true] at e
      cases e.1;cases ou.1 e.2;exact .refl _
    · cases h
  | .str,v,t,o,h,ho=>by
    simp only [gJ.fit,qx] at h
    split at h
    · cases h;exact .refl _
    · cases h
  | .fl,v,t,o,h,ho=>eJ (g:=.fl) (f:=qy) (fun {d xs} e=>by cases d<;>cases e;rfl) (fun q=>.fl q) ⟨trivial,rfl,rfl⟩ h ho
  | .ns k,v,t,o,h,ho=>eJ (g:=.ns k) (f:=qz k) (fun {d xs} e=>by
      cases d<;>try (cases e;done)
      have e1:=(dj e).1;replace e:=(dj e).2
      cases dq.1 e1;cases e;rfl) (fun q=>.ns q) ⟨trivial,rfl,rfl⟩ h ho
  | .bs,v,t,o,h,ho=>eJ (g:=.bs) (f:=qA) (fun {d xs} e=>by cases d<;>cases e;rfl) (fun q=>.bs q) ⟨trivial,rfl,rfl⟩ h ho
  | .ss,v,t,o,h,ho=>eJ (g:=.ss) (f:=ri) (fun {d xs} e=>by cases d<;>cases e;rfl) (fun q=>.ss q) ⟨trivial,rfl,rfl⟩ h ho
  | .cols ks,v,t,o,h,ho=>mu h ho
  | .ivs ps w i j,v,t,o,h,ho=>by
    simp only [gJ.fit] at h
    split at h
    case h_2=>cases h
    rename_i q hq
    split at h
    case h_2=>cases h
    rename_i r hr
    cases h
    unfold rl at hq
    split at hq
    case h_2=>cases hq
    rename_i l d w' i' j'
    cases d<;>simp only [rj,Option.bind_none,Option.bind_some,reduceCtorEq] at hq
    rename_i xs
    have e:=(dj hq).1;replace hq:=(dj hq).2
    rw [Bool.and_eq_true,Bool.and_eq_true] at e
    cases Nat.eq_of_beq_eq_true e.1
    cases Nat.eq_of_beq_eq_true e.2.1
    cases Nat.eq_of_beq_eq_true e.2.2
    cases hq
    have:=c5.fit_spec ps xs hr ho
    exact ⟨kw this.weak this.kept this.foreign,id,id⟩
  | .fn f a b,v,t,o,h,ho=>by
    simp only [gJ.fit] at h
    split at h
    case h_2=>cases h
    rename_i q hq
    split at h
    case h_2=>cases h
    rename_i r hr
    split at h
    case h_2=>cases h
    rename_i s hs
    cases h
    unfold r6 at hq
    split at hq
    case h_2=>cases hq
    have e:=(dj hq).1;replace hq:=(dj hq).2
    cases Nat.eq_of_beq_eq_true e
    cases hq
    rw [aj] at ho
    have h1:=c5.fit_spec a _ hr ho.1
    have h2:=c5.fit_spec b _ hs ho.2
    refine ⟨ah.fn h1.weak h2.weak,fun q=>?_,fun q=>?_⟩
    · simp only [gJ.av,AV.kept,Bool.and_eq_true] at q ⊢;exact ⟨h1.kept q.1,h2.kept q.2⟩
    · simp only [gJ.av,AV.foreign,Bool.and_eq_true] at q ⊢;exact ⟨h1.foreign q.1,h2.foreign q.2⟩
  | .agg ps,v,t,o,h,ho=>by
    simp only [gJ.fit] at h
    split at h
    case h_2=>cases h
    rename_i l hl
    cases v<;>simp only [rm,reduceCtorEq,Option.some.injEq] at hl
    subst hl
    have:=c5.fit_spec ps _ h ho
    exact ⟨ah.agg this.weak,this.kept,this.foreign⟩
  | .tup ps,v,t,o,h,ho=>by
    simp only [gJ.fit] at h
    split at h
    case h_2=>cases h
    rename_i l hl
    cases v<;>simp only [rn,reduceCtorEq,Option.some.injEq] at hl
    subst hl
    have:=c5.fit_spec ps _ h ho
    exact ⟨ah.tup this.weak,this.kept,this.foreign⟩
  | .iface y p,v,t,o,h,ho=>by
    simp only [gJ.fit] at h
    split at h
    case h_2=>cases h
    rename_i u hu
    unfold oV at hu
    split at hu
    case h_2=>cases hu
    have e:=(dj hu).1;replace hu:=(dj hu).2
    cases Nat.eq_of_beq_eq_true e
    subst hu
    have:=gJ.fit_spec p _ h ho
    exact ⟨ah.iface this.weak,this.kept,this.foreign⟩
  | .nfn,v,t,o,h,ho=>by
    cases v<;>simp only [gJ.fit,rp,reduceCtorEq] at h
    exact .refl _
  | .nptr,v,t,o,h,ho=>by
    cases v<;>simp only [gJ.fit,qB,reduceCtorEq] at h
    exact .refl _
  | .nsl,v,t,o,h,ho=>by
    cases v<;>simp only [gJ.fit,rq,reduceCtorEq] at h
    exact .refl _
  | .niface,v,t,o,h,ho=>by
    cases v<;>simp only [gJ.fit,ny,reduceCtorEq] at h
    exact .refl _
  | .any,v,t,o,h,ho=>⟨ah.any v,fun _=>rfl,fun _=>rfl⟩
  | .lsl b,v,t,o,h,ho=>by
    simp only [gJ.fit,qC] at h
    split at h
    · have e:=(dj h).1;replace h:=(dj h).2
      rw [Bool.and_eq_true,Bool.and_eq_true] at e
      cases Nat.eq_of_beq_eq_true e.1
      cases Nat.eq_of_beq_eq_true e.2.1
      cases Nat.eq_of_beq_eq_true e.2.2
      cases h;exact .refl _
    · cases h
  | .lptr b w i j,v,t,o,h,ho=>by
    simp only [gJ.fit,oW] at h
    split at h
    · have e:=(dj h).1;replace h:=(dj h).2
      rw [Bool.and_eq_true,Bool.and_eq_true,Bool.and_eq_true] at e
      cases Nat.eq_of_beq_eq_true e.1.1
      cases Nat.eq_of_beq_eq_true e.1.2
      cases Nat.eq_of_beq_eq_true e.2.1
      cases Nat.eq_of_beq_eq_true e.2.2
      exact .refl _
    · cases h
theorem c5.fit_spec:∀ (ps:c5) (l:List AV) {t:ps.Ty} {o:List Bool},ps.fit l=some (t,o)→ac o→sk l (ps.avs t)
  | .nil,[],t,o,h,ho=>⟨.nil,id,id⟩
  | .nil,v::l,t,o,h,ho=>by simp [c5.fit] at h
  | .cons p ps,[],t,o,h,ho=>by simp [c5.fit] at h
  | .cons p ps,v::l,t,o,h,ho=>by
    simp only [c5.fit] at h
    split at h
    case h_2=>cases h
    rename_i r hr
    split at h
    case h_2=>cases h
    rename_i s hs
    cases h
    rw [aj] at ho
    exact .cons (gJ.fit_spec p v hr ho.1) (c5.fit_spec ps l hs ho.2)
end
def lD(f:FuncId)(ps:c5)(alts:ps.Ty→List jh) :cX :=
  ⟨f, fun L args => match L with
    | []=>match ps.fit args with
      | some r=>some ((alts r.1).map fun a=>⟨a.out,r.2++a.obs⟩)
      | none=>none
    | _=>none⟩
theorem ig{P:Program}{f:FuncId}{ps:c5}{alts:ps.Ty→List jh}(h:∀ t,∀ a∈alts t,ac a.obs→ao P f [] (ps.avs t) a.out) :fN P (lD f ps alts):=by
  intro L args al a hal ha ho
  simp only [lD] at hal
  split at hal
  case h_2=>cases hal
  split at hal
  case h_2=>cases hal
  rename_i r hr
  obtain ⟨t,o⟩:=r
  simp only [Option.some.injEq] at hal
  subst hal
  simp only [List.mem_map] at ha
  obtain ⟨b,hb,rfl⟩:=ha
  simp only [aj] at ho
  exact (h t b hb ho.2).args (c5.fit_spec ps args hr ho.1).weak
inductive CP where
  | int (k:IntKind)
  | flt
  | fltx
  | bool
  | str
  | lsl (b:Nat)
  | lsl0 (b:Nat)
  | lptr (b w i j:Nat)
  | nsl
  | nptr
def CP.Ty:CP→Type
  | .int _=>Int
  | .flt=>Nat
  | .fltx=>Nat
  | .bool=>Bool
  | .str=>ByteArray
  | .lsl _=>Nat×Nat×Nat
  | .lsl0 _=>Nat×Nat
  | .lptr _ _ _ _=>Unit
  | .nsl=>Unit
  | .nptr=>Unit
def CP.av:(p:CP)→p.Ty→AV
  | .int k,n=>.int k n
  | .flt,x=>.flt false x
  | .fltx,x=>.flt true x
  | .bool,b=>.bool false b
  | .str,s=>.str s
  | .lsl b,t=>.sl b 1 1 t.1 t.2.1 t.2.2
  | .lsl0 b,t=>.sl b 1 1 0 t.1 t.2
  | .lptr b w i j,_=>.ptr b w i j
  | .nsl,_=>.nsl
  | .nptr,_=>.nptr
def rr(k:IntKind) :AV→Option Int
  | .int k' n=>bif ay k k' then some n else none
  | _=>none
def rt:AV→Option Nat
  | .flt ex x=>bif ex then none else some x
  | _=>none
def qE:AV→Option Nat
  | .flt ex x=>bif ex then some x else none
  | _=>none
def qF:AV→Option Bool
  | .bool kn b=>bif kn then none else some b
  | _=>none
def ru:AV→Option ByteArray
  | .str s=>some s
  | _=>none
def rv(b:Nat) :AV→Option (Nat×Nat×Nat)
  | .sl b' w es i len cap=>bif Nat.beq b b'&&(Nat.beq w 1&&Nat.beq es 1) then some (i,len,cap) else none
  | _=>none
def qG(b:Nat) :AV→Option (Nat×Nat)
  | .sl b' w es i len cap=>bif Nat.beq b b'&&(Nat.beq w 1&&Nat.beq es 1)&&Nat.beq i 0 then some (len,cap) else none
  | _=>none
def qH(b w i j:Nat) :AV→Option Unit
  | .ptr b' w' i' j'=>bif (Nat.beq b b'&&Nat.beq w w')&&(Nat.beq i i'&&Nat.beq j j') then some () else none
  | _=>none
def rx:AV→Option Unit
  | .nsl=>some ()
  | _=>none
def qI:AV→Option Unit
  | .nptr=>some ()
  | _=>none
def CP.fit:(p:CP)→AV→Option p.Ty
  | .int k=>rr k
  | .flt=>rt
  | .fltx=>qE
  | .bool=>qF
  | .str=>ru
  | .lsl b=>rv b
  | .lsl0 b=>qG b
  | .lptr b w i j=>qH b w i j
  | .nsl=>rx
  | .nptr=>qI
theorem r9{c:Bool}{α:Type}{a x:α}(h:(bif c then none else some a)=some x) :c=false∧a=x:=by
  cases c with
  | true=>cases h
  | false=>exact ⟨rfl,by simpa using h⟩
theorem CP.fit_spec:∀ (p:CP) {v:AV} {t:p.Ty},p.fit v=some t→v=p.av t
  | .int k,v,t,h=>by
    simp only [CP.fit,rr] at h
    split at h
    · obtain ⟨e,h⟩:=dj h
      cases h;cases dq.1 e;rfl
    · cases h
  | .flt,v,t,h=>by
    simp only [CP.fit,rt] at h
    split at h
    · obtain ⟨e,h⟩:=r9 h
      cases h;cases e;rfl
    · cases h
  | .fltx,v,t,h=>by
    simp only [CP.fit,qE] at h
    split at h
    · obtain ⟨e,h⟩:=dj h
      cases h;cases e;rfl
    · cases h
  | .bool,v,t,h=>by
    simp only [CP.fit,qF] at h
    split at h
    · obtain ⟨e,h⟩:=r9 h
      cases h;cases e;rfl
    · cases h
  | .str,v,t,h=>by
    simp only [CP.fit,ru] at h
    split at h
    · cases h;rfl
    · cases h
  | .lsl b,v,t,h=>by
    simp only [CP.fit,rv] at h
    split at h
    · have e:=(dj h).1;replace h:=(dj h).2
      rw [Bool.and_eq_true,Bool.and_eq_true] at e
      cases Nat.eq_of_beq_eq_true e.1
      cases Nat.eq_of_beq_eq_true e.2.1
      cases Nat.eq_of_beq_eq_true e.2.2
      cases h;rfl
    · cases h
  | .lsl0 b,v,t,h=>by
    simp only [CP.fit,qG] at h
    split at h
    · have e:=(dj h).1;replace h:=(dj h).2
      rw [Bool.and_eq_true,Bool.and_eq_true,Bool.and_eq_true] at e
      cases Nat.eq_of_beq_eq_true e.1.1
      cases Nat.eq_of_beq_eq_true e.1.2.1
      cases Nat.eq_of_beq_eq_true e.1.2.2
      cases Nat.eq_of_beq_eq_true e.2
      cases h;rfl
    · cases h
  | .lptr b w i j,v,t,h=>by
    simp only [CP.fit,qH] at h
    split at h
    · have e:=(dj h).1;clear h
      rw [Bool.and_eq_true,Bool.and_eq_true,Bool.and_eq_true] at e
      cases Nat.eq_of_beq_eq_true e.1.1
      cases Nat.eq_of_beq_eq_true e.1.2
      cases Nat.eq_of_beq_eq_true e.2.1
      cases Nat.eq_of_beq_eq_true e.2.2
      rfl
    · cases h
  | .nsl,v,t,h=>by
    simp only [CP.fit,rx] at h
    split at h
    · rfl
    · cases h
  | .nptr,v,t,h=>by
    simp only [CP.fit,qI] at h
    split at h
    · rfl
    · cases h
def CPs.Ty:List CP→Type
  | []=>Unit
  | p::l=>p.Ty×CPs.Ty l
def CPs.avs:(l:List CP)→CPs.Ty l→List AV
  | [],_=>[]
  | p::l,t=>p.av t.1::CPs.avs l t.2
def CPs.fit:(l:List CP)→List AV→Option (CPs.Ty l)
  | []=>fun vs=>match vs with
    | []=>some ()
    | _::_=>none
  | p::l=>fun vs=>match vs with
    | []=>none
    | v::vs=>match p.fit v with
      | some t=>match CPs.fit l vs with
        | some r=>some (t,r)
        | none=>none
      | none=>none
theorem CPs.fit_spec:∀ (l:List CP) {vs:List AV} {t:CPs.Ty l},CPs.fit l vs=some t→vs=CPs.avs l t
  | [],[],t,h=>rfl
  | [],_::_,t,h=>by cases h
  | _::_,[],t,h=>by cases h
  | p::l,v::vs,t,h=>by
    simp only [CPs.fit] at h
    split at h
    case h_2=>cases h
    rename_i x hx
    split at h
    case h_2=>cases h
    rename_i r hr
    cases h
    simp only [CPs.avs]
    rw [←CP.fit_spec p hx,←CPs.fit_spec l hr]
inductive BK where
  | fl
  | ns (k:IntKind)
  | bs
  | vs (l:List CP)
def BK.Ty:BK→Type
  | .fl=>List Nat
  | .ns _=>List Int
  | .bs=>List Bool
  | .vs l=>CPs.Ty l
def BK.blk:(k:BK)→k.Ty→ae
  | .fl,xs=>.fl xs
  | .ns k,xs=>.ns k xs
  | .bs,xs=>.bs xs
  | .vs l,t=>.vs (CPs.avs l t)
def sw(l:List CP) :ae→Option (CPs.Ty l)
  | .vs xs=>CPs.fit l xs
  | _=>none
def BK.fit:(k:BK)→ae→Option k.Ty
  | .fl=>qy
  | .ns k=>qz k
  | .bs=>qA
  | .vs l=>sw l
theorem BK.fit_spec:∀ (k:BK) {d:ae} {t:k.Ty},k.fit d=some t→d=k.blk t
  | .fl,d,t,h=>by cases d<;>cases h;rfl
  | .ns k,d,t,h=>by
    cases d<;>try (cases h;done)
    have e1:=(dj h).1;replace h:=(dj h).2
    cases dq.1 e1;cases h;rfl
  | .bs,d,t,h=>by cases d<;>cases h;rfl
  | .vs l,d,t,h=>by
    cases d<;>try (cases h;done)
    exact congrArg ae.vs (CPs.fit_spec l h)
def BKs.Ty:List BK→Type
  | []=>Unit
  | k::l=>k.Ty×BKs.Ty l
def kx:(l:List BK)→BKs.Ty l→List ae
  | [],_=>[]
  | k::l,t=>k.blk t.1::kx l t.2
def BKs.fit:(l:List BK)→List ae→Option (BKs.Ty l)
  | [],[]=>some ()
  | [],_::_=>none
  | _::_,[]=>none
  | k::l,d::ds=>match k.fit d with
    | some t=>match BKs.fit l ds with
      | some r=>some (t,r)
      | none=>none
    | none=>none
theorem BKs.fit_spec:∀ (l:List BK) {ds:List ae} {t:BKs.Ty l},BKs.fit l ds=some t→ds=kx l t
  | [],[],t,h=>rfl
  | [],_::_,t,h=>by cases h
  | _::_,[],t,h=>by cases h
  | k::l,d::ds,t,h=>by
    simp only [BKs.fit] at h
    split at h
    case h_2=>cases h
    rename_i x hx
    split at h
    case h_2=>cases h
    rename_i r hr
    cases h
    simp only [kx]
    rw [←BK.fit_spec k hx,←BKs.fit_spec l hr]
theorem jD{P:Program}{f:FuncId}{l:List AV} :∀ a∈([]:List jh),ac a.obs→ao P f [] l a.out:=fun a h=>by cases h
theorem ii{P:Program}{f:FuncId}{l:List AV}{o:iJ}{b:Bool}{al:List jh}(h:b=true→ao P f [] l o)(t:∀ a∈al,ac a.obs→ao P f [] l a.out) :∀ a∈(⟨o,[b]⟩:jh)::al,ac a.obs→ao P f [] l a.out:=by
  intro a ha ho
  rcases List.mem_cons.1 ha with rfl | ha
  · exact h ho.1
  · exact t a ha ho
end Go.Plb
namespace Go.Plb
open Go.ChangeShapes Go.WideShapes Go.ChangeAt Go.RowKit Go.Deep
set_option linter.unusedSimpArgs false
set_option linter.unusedVariables false
set_option linter.unusedSectionVars false
variable [Rom]
def FA.n:FA→Nat
  | .f x=>x
  | _=>0
def FA.ss:FA→ByteArray
  | .s x=>x
  | _=>ByteArray.empty
variable {H : Type} {enc : TypeId × Value → H} {P : Program} {W : World}
instance:Inhabited FA:=⟨.b false⟩
end Go.Plb
namespace Go.Plb.Seat
open Go Go.Plb Go.Proofs
noncomputable abbrev prog:Program:=Tryd.prog
def az:List Int:=[1,10,100,1000,10000,100000,1000000,10000000,100000000,1000000000,10000000000,100000000000,1000000000000,10000000000000,100000000000000,1000000000000000,10000000000000000,100000000000000000,1000000000000000000,10000000000000000000]
instance:Rom:=⟨[(5,.gvar (az.map fun z=>Value.int .u64 z).toArray),(3,.iptr .free (.vs [.iface 147 .any]) 1 0 0),(4,.iptr .free (.vs [.iface 147 .any]) 1 0 0)],by intro x hx;simp only [List.mem_cons,List.not_mem_nil,or_false] at hx;rcases hx with rfl | rfl | rfl<;>rfl⟩
abbrev dz:FuncId:=6
abbrev eK:FuncId:=18
abbrev f5:FuncId:=23
abbrev ei:FuncId:=47
abbrev dA:FuncId:=48
abbrev gE:FuncId:=53
abbrev aM:FuncId:=77
abbrev aE:FuncId:=94
noncomputable def FN(f:FuncId) :Func:=(prog.funcs[f]?).getD default
noncomputable def qJ(f:FuncId) :Code:=((FN f).body).getD .skip
noncomputable def C0:gz:=oN prog [(aM,.cntb),(aE,.idxb)] [(ei,⟨[true,false],false⟩)]
theorem ct:qh prog aM .cntb:=⟨FN aM,by kernel_rfl,by kernel_rfl,by kernel_rfl,by kernel_rfl,by kernel_rfl⟩
theorem bM:qh prog aE .idxb:=⟨FN aE,by kernel_rfl,by kernel_rfl,by kernel_rfl,by kernel_rfl,by kernel_rfl⟩
theorem mixed:prog.follows .mixedOrders=true:=by kernel_rfl
theorem sa:oO prog=true:=by kernel_rfl
theorem sb:C0.Ok:=qi mixed sa (by
  intro x hx
  simp only [List.mem_cons,List.not_mem_nil,or_false] at hx
  rcases hx with rfl | rfl
  · exact ct
  · exact bM
  )
end Go.Plb.Seat
namespace Go.Proofs.YtacdcghekbbjiaaDoor
open Go.ChangeShapes Go.WideShapes Go.ChangeAt Go.RowKit Go.Plb Go.Plb.Seat
set_option maxRecDepth 100000
theorem rP:ownKnob Tryd.prog.godebug=none:=by kernel_rfl
theorem q9:laidOutB Tryd.prog=true:=by kernel_rfl
def ky : List (String × DataW Unit) := [("math/bits.deBruijn32tab", Rows.laid_math_bits_deBruijn32tab), ("math/bits.deBruijn64tab", Rows.laid_math_bits_deBruijn64tab), ("internal/strconv.uint64pow10", Rows.laid_internal_strconv_uint64pow10), ("unicode/utf8.acceptRanges", Rows.laid_unicode_utf8_acceptRanges), ("strconv.ErrRange", Rows.laid_strconv_ErrRange), ("strconv.ErrSyntax", Rows.laid_strconv_ErrSyntax), ("unicode/utf8.first", Rows.laid_unicode_utf8_first)]
theorem oX : Tryd.prog.globalNamed "internal/strconv.uint64pow10" = some 5 := by kernel_rfl
theorem oY : Tryd.prog.globalNamed "strconv.ErrRange" = some 4 := by kernel_rfl
theorem oZ : Tryd.prog.globalNamed "strconv.ErrSyntax" = some 3 := by kernel_rfl
theorem ra:(Rows.laid_internal_strconv_uint64pow10:DataW Unit)=Lib.tabData .u64 az:=by rfl
theorem sc : "*" ++ "errors.errorString" = "*errors.errorString" := by decide
noncomputable def sE:Field:=match Tryd.prog.underlying 149 with
  | some (.struct l)=>l[0]?.getD default
  | _=>default
noncomputable def sd:Array (String×TypeId):=match Tryd.prog.underlying 77 with
  | some (.interface l)=>l
  | _=>#[]
theorem qK(u : TypeId)(h : Tryd.prog.typeName? 3 u = some "*errors.errorString") : u = 147 :=
  typeName_ptr_named (nm := "errors.errorString") (by rw [sc]; kernel_rfl) (by kernel_rfl) (by decide) u (by rw [sc]; exact h)
theorem kz{W:World}{n:String}{g:Nat}{cs:Array Value}(hg:Tryd.prog.globalNamed n=some g)(h:W.var? Tryd.prog n=some cs) :∃ t fr,W.heap[g]? = some (.cells cs t fr):=by
  unfold World.var? at h
  rw [hg] at h
  simp only [Option.bind_some] at h
  split at h
  · rename_i cs' t fr e
    cases h
    exact ⟨t,fr,e⟩
  · cases h
theorem nA{W:World}{g:Nat}{v:Value}(h:∃ t fr,W.heap[g]? = some (.cells #[.iface 147 v] t fr)) :VR aa.none_ W (.iptr .free (.vs [.iface 147 .any]) 1 0 0) (.pointer (some ⟨g,0,none⟩)):=by
  obtain ⟨t,fr,h⟩:=h
  refine .iptr .free _ 1 0 0 g 0 (fun _=>.iface 147 v) (eI _ _) (Array.getElem?_eq_some_iff.1 h).1 (fun x u hx=>?_) (fun x u hx=>?_) trivial (fun _=>rfl) rfl
  · cases x with
    | zero=>simp [World.cell?,h]
    | succ x=>cases hx
  · cases x with
    | zero=>cases hx;exact .iface _ _ _ (.any _)
    | succ x=>cases hx
theorem rb{W:World}(h:laidMetH Tryd.prog ky W) :∀ x∈Rom.tab,VR aa.none_ W x.2 (.pointer (some ⟨x.1,0,none⟩)):=by
  have h':laidMet Tryd.prog ky W:=h
  have h3:=h'.tail.tail
  have ht : Lib.TabIs Tryd.prog W "internal/strconv.uint64pow10" .u64 az := by
    rw [ra] at h3
    exact Lib.tabIs_of_head oX (t:=143) (e:=35) (n:=az.length) (by kernel_rfl) (by kernel_rfl) (by kernel_rfl) (by kernel_rfl) (by kernel_rfl) h3
  have h5:=h3.tail.tail
  obtain ⟨a0,s0,hv0,-,-,-⟩:=laid_sentinel (te:=149) (ts:=9) (f:=sE) (ms:=sd) h5 oY (ti:=77) (by kernel_rfl) (by kernel_rfl) qK (by kernel_rfl) (by kernel_rfl) (by kernel_rfl) (by kernel_rfl) (by kernel_rfl) (by kernel_rfl) (by kernel_rfl)
  have h6:=h5.tail
  obtain ⟨a1,s1,hv1,-,-,-⟩:=laid_sentinel (te:=149) (ts:=9) (f:=sE) (ms:=sd) h6 oZ (ti:=77) (by kernel_rfl) (by kernel_rfl) qK (by kernel_rfl) (by kernel_rfl) (by kernel_rfl) (by kernel_rfl) (by kernel_rfl) (by kernel_rfl) (by kernel_rfl)
  intro x hx
  simp only [Rom.tab,List.mem_cons,List.not_mem_nil,or_false] at hx
  rcases hx with rfl | rfl | rfl
  · obtain ⟨t,fr,hh⟩:=kz oX ht
    exact .gvar _ 5 t fr (eI _ _) (Array.getElem?_eq_some_iff.1 hh).1 hh
  · exact nA (kz oZ hv1)
  · exact nA (kz oY hv0)
def sx:DataW Unit→List Value
  | .lit (.int k z)=>[.int k z]
  | .agg l=>l.flatMap fun
    | .lit (.int k z)=>[.int k z]
    | _=>[]
  | _=>[]
def qL:DataW Unit→Array Value
  | .agg l=>(l.flatMap sx).toArray
  | _=>#[]
def kA(g:Nat)(c:Array Value)(h:Array Obj) :Array Obj:=h.modify g fun
  | .cells _ t frozen=>.cells c t frozen
  | o=>o
def sF:DataW Unit→Value
  | .iface _ (.ptr (.agg [.lit (.string s)]))=>.string ⟨s.toArray⟩
  | _=>undef
noncomputable def lE(os:Os) :World :=
  let w0:=World.holding Tryd.prog os ⟨#[],#[],[]⟩
  let n:=w0.heap.size
  { w0 with heap:=(((kA 1 (qL Rows.laid_unicode_utf8_first) (kA 2 (qL Rows.laid_unicode_utf8_acceptRanges) (kA 5 (qL Rows.laid_internal_strconv_uint64pow10) (kA 6 (qL Rows.laid_math_bits_deBruijn32tab) (kA 7 (qL Rows.laid_math_bits_deBruijn64tab)
      (kA 4 #[.iface 147 (.pointer (some ⟨n,0,none⟩))] (kA 3 #[.iface 147 (.pointer (some ⟨n+1,0,none⟩))] w0.heap))))))).push (.cells #[sF Rows.laid_strconv_ErrRange] 149 (0,0))).push (.cells #[sF Rows.laid_strconv_ErrSyntax] 149 (0,0))) }
theorem qM(os:Os)(args:Array Value) :laidMetH Tryd.prog ky ((lE os).forCall (fun _ _=>0) ⟨#[],args,[]⟩).memory :=
  (laidMet_of_run' 8 (by kernel_rfl) (by kernel_rfl):laidMet Tryd.prog ky _)
theorem o0{l:List FA}(h:eh [.i .i64,.i .i64,.i .i64,.ns .u64,.i .i64,.i .u64] l) :∃ k m n ws y t,l=[.i .i64 k,.i .i64 m,.i .i64 n,.ns .u64 ws,.i .i64 y,.i .u64 t]:=by
  match l,h with
  | [a,b,c,d,e,f],⟨h1,h2,h3,h4,h5,h6,_⟩ =>
    obtain ⟨k,rfl⟩:=nw h1
    obtain ⟨m,rfl⟩:=nw h2
    obtain ⟨n,rfl⟩:=nw h3
    obtain ⟨ws,rfl⟩:=rO h4
    obtain ⟨y,rfl⟩:=nw h5
    obtain ⟨t,rfl⟩:=nw h6
    exact ⟨k,m,n,ws,y,t,rfl⟩
end Go.Proofs.YtacdcghekbbjiaaDoor
namespace Go.Plb
open Go.RowKit
set_option linter.unusedSimpArgs false
set_option linter.unusedVariables false
set_option linter.unusedSectionVars false
variable [Rom]
theorem bv.new{ρ:aa}{w:World}{l:List ae}(hN:bv ρ w l)(bl:Nat)(h:w.heap.size≤bl) :ρ.avoid .free bl:=by
  intro j _
  cases j with
  | zero=>exact fun q=>by have:=hN.heap.liveLt bl q;omega
  | succ j=>exact fun q=>by have:=hN.heap.outLt j bl q;omega
end Go.Plb
namespace Go.Plb.Seat
open Go Go.Plb Go.Proofs Go.RowKit
set_option maxRecDepth 100000
set_option linter.unusedSimpArgs false
set_option linter.unusedVariables false
def lF(s:List UInt8)(n:Int)(a b:Bool) :Value:=.agg #[.string ⟨s.toArray⟩,.int .i64 n,.bool a,.bool b]
def se:List MapEntry:=[⟨.int .i64 1,lF [101,105,103,101,110] 3 false true,0⟩,⟨.int .i64 2,lF [118,97,108,117,101,115] 0 false true,1⟩,⟨.int .i64 3,lF [115,118,100] 2 false false,2⟩,
  ⟨.int .i64 4,lF [114,97,110,107] 2 true false,3⟩,⟨.int .i64 5,lF [105,110,118,101,114,115,101] 2 true false,4⟩,⟨.int .i64 6,lF [99,111,110,100] 2 false false,5⟩]
end Go.Plb.Seat
namespace Go.Plb.Seat
open Go Go.Plb Go.Proofs Go.RowKit
open Go.ChangeMaps (setBlock)
set_option maxRecDepth 100000
set_option linter.unusedSimpArgs false
set_option linter.unusedVariables false
def ij(i:Nat) :ByteArray:=⟨(([[101,105,103,101,110],[118,97,108,117,101,115],[115,118,100],[114,97,110,107],[105,110,118,101,114,115,101],[99,111,110,100]]:List (List UInt8))[i]?.getD []).toArray⟩
def kn(i:Nat) :Int:=([3,0,2,2,2,2]:List Int)[i]?.getD 0
def kt(i:Nat) :Bool:=([false,false,false,true,true,false]:List Bool)[i]?.getD false
def ks(i:Nat) :Bool:=([true,true,false,false,false,false]:List Bool)[i]?.getD false
def pD(i:Nat) :Array Value:=#[.string (ij i),.int .i64 (kn i),.bool (kt i),.bool (ks i)]
def kE(i:Nat) :MapEntry:=⟨.int .i64 (i+1),.agg (pD i),i⟩
def RE(B:Nat)(W:World)(i:Nat)(e:MapEntry) :Prop :=
  e.key=.string (ij i)∧∃ bn bk,B≤bn∧B≤bk∧e.val=.func (.func gE) #[] #[.pointer (some ⟨bn,0,none⟩),.pointer (some ⟨bk,0,none⟩)] ∧
    W.heap[bn]? = some (.cells #[.int .i64 (i+1)] 34 (0,0))∧W.heap[bk]? = some (.cells (pD i) 94 (0,0))
structure RI (w:World) (W:World) (seen:List Nat):Prop where
  it:W.heap[w.heap.size+2]? = some (.mapIter (some (w.heap.size+1)) 6 seen.toArray 6)
  src:W.heap[w.heap.size+1]? = some (.map se.toArray 6)
  nodup:seen.Nodup
  lt:∀ i∈seen,i<6
  low:Below w.heap.size w W
  all:∃ es cl,W.heap[w.heap.size]? = some (.map es cl)∧(∀ e∈es.toList,∃ i∈seen,RE w.heap.size W i e)∧(∀ i∈seen,∃ e∈es.toList,RE w.heap.size W i e)∧∀ e∈es.toList,∀ e'∈es.toList,e.key=e'.key→e=e'
theorem dB{w:World}{b:Nat}{o:Obj}(h:b<w.heap.size) :(setBlock w b o).heap[b]? = some o:=by simp [setBlock,h]
theorem c8{w:World}{b c:Nat}{o:Obj}(h:c≠b) :(setBlock w b o).heap[c]? = w.heap[c]?:=by
  simp only [setBlock,Array.getElem?_setIfInBounds]
  rw [if_neg (fun e:b=c=>h e.symm)]
theorem f7{w:World}{b:Nat}{o:Obj} :(setBlock w b o).heap.size=w.heap.size:=by simp [setBlock]
theorem pE{i j:Nat}(hi:i<6)(hj:j<6)(h:ij i=ij j) :i=j:=by
  have h':(ij i).data.toList=(ij j).data.toList:=by rw [h]
  rcases i with _ | _ | _ | _ | _ | _ | i<;>rcases j with _ | _ | _ | _ | _ | _ | j<;>first | rfl | omega | (exfalso;revert h';decide)
theorem RE.mono{B:Nat}{W W':World}{i:Nat}{e:MapEntry}(h:RE B W i e)(hs:∀ b c t,B≤b→W.heap[b]? = some (.cells c t (0,0))→W'.heap[b]? = some (.cells c t (0,0))) :RE B W' i e:=by
  obtain ⟨h1,bn,bk,h2,h3,h4,h5,h6⟩:=h
  exact ⟨h1,bn,bk,h2,h3,h4,hs _ _ _ h2 h5,hs _ _ _ h3 h6⟩
set_option maxHeartbeats 1000000 in
theorem RI.step {w W2 : World} {wr : World} {seen : List Nat} (hI : RI w wr seen) {i : Nat} (hi : i < 6) (his : i ∉ seen) {w1 : World} (hw1 : w1 = wr ∨ w1 = wr.drew)
    (hW2 : setBlock w1 (w.heap.size + 2) (.mapIter (some (w.heap.size + 1)) 6 (seen.toArray.push (kE i).born) 6) = W2) {es : Array MapEntry} {cl : Nat} (hes : wr.heap[w.heap.size]? = some (.map es cl))
    (h1 : ∀ e ∈ es.toList, ∃ i ∈ seen, RE w.heap.size wr i e) (h2 : ∀ i ∈ seen, ∃ e ∈ es.toList, RE w.heap.size wr i e) (h3 : ∀ e ∈ es.toList, ∀ e' ∈ es.toList, e.key = e'.key → e = e') :
    RI w (setBlock ((W2.alloc (.cells #[.int .i64 (i + 1)] 34)).alloc (.cells (pD i) 94)) w.heap.size (.map (es.push ⟨.string (ij i), .func (.func 53) #[] #[.pointer (some ⟨W2.heap.size, 0, none⟩), .pointer (some ⟨W2.heap.size + 1, 0, none⟩)], cl⟩) (cl + 1))) (seen ++ [i]) := by
  have hh1 : w1.heap = wr.heap := by rcases hw1 with rfl | rfl <;> rfl
  have hlt : ∀ {b : Nat} {o : Obj}, wr.heap[b]? = some o → b < wr.heap.size := fun h => (Array.getElem?_eq_some_iff.1 h).1
  have hsz : W2.heap.size = wr.heap.size := by rw [← hW2, f7, hh1]
  have L2 := hlt hI.it
  have L1 := hlt hI.src
  have L0 := hlt hes
  have e2 : ∀ c, c ≠ w.heap.size + 2 → W2.heap[c]? = wr.heap[c]? := fun c hc => by rw [← hW2, c8 hc, hh1]
  obtain ⟨W3, hW3⟩ : ∃ W3, (W2.alloc (.cells #[.int .i64 (i + 1)] 34)).alloc (.cells (pD i) 94) = W3 := ⟨_, rfl⟩
  have e3 : ∀ c, c < wr.heap.size → W3.heap[c]? = W2.heap[c]? := fun c hc => by
    rw [← hW3, cj (by simp; omega), cj (by omega)]
  have n1 : W3.heap[wr.heap.size]? = some (.cells #[.int .i64 (i + 1)] 34 (0, 0)) := by
    rw [← hW3, cj (by simp; omega), ← hsz]; exact aW _ _
  have n2 : W3.heap[wr.heap.size + 1]? = some (.cells (pD i) 94 (0, 0)) := by
    have := aW (W2.alloc (.cells #[.int .i64 (i + 1)] 34)) (.cells (pD i) 94)
    rw [hW3] at this
    simpa [hsz] using this
  rw [hW3]
  obtain ⟨W4, hW4⟩ : ∃ W4, setBlock W3 w.heap.size (.map (es.push ⟨.string (ij i), .func (.func 53) #[] #[.pointer (some ⟨W2.heap.size, 0, none⟩), .pointer (some ⟨W2.heap.size + 1, 0, none⟩)], cl⟩) (cl + 1)) = W4 := ⟨_, rfl⟩
  rw [hW4]
  have e4 : ∀ c, c ≠ w.heap.size → W4.heap[c]? = W3.heap[c]? := fun c hc => by rw [← hW4, c8 hc]
  have s3 : W3.heap.size = wr.heap.size + 2 := by rw [← hW3]; simp [hsz]
  have old : ∀ b c t, w.heap.size ≤ b → wr.heap[b]? = some (.cells c t (0, 0)) → W4.heap[b]? = some (.cells c t (0, 0)) := fun b c t hb h => by
    have hne : b ≠ w.heap.size := fun e => by rw [e, hes] at h; cases h
    have hne2 : b ≠ w.heap.size + 2 := fun e => by rw [e, hI.it] at h; cases h
    rw [e4 b hne, e3 b (hlt h), e2 b hne2]; exact h
  refine ⟨?_, ?_, ?_, ?_, ?_, ⟨_, _, by rw [← hW4]; exact dB (by omega), ?_, ?_, ?_⟩⟩
  · rw [e4 _ (by omega), e3 _ L2, ← hW2, dB (by rw [hh1]; exact L2)]
    simp [kE]
  · rw [e4 _ (by omega), e3 _ L1, e2 _ (by omega)]; exact hI.src
  · exact List.nodup_append.2 ⟨hI.nodup, by simp, fun a ha b hb e => by simp at hb; subst hb; subst e; exact his ha⟩
  · intro j hj
    simp at hj
    rcases hj with hj | rfl
    · exact hI.lt j hj
    · exact hi
  · have a1 : W4.os = wr.os ∧ W4.tape = wr.tape ∧ W4.output = wr.output := by
      rw [← hW4, ← hW3, ← hW2]; rcases hw1 with rfl | rfl <;> exact ⟨rfl, rfl, rfl⟩
    have s4 : W4.heap.size = wr.heap.size + 2 := by rw [← hW4, f7, s3]
    refine hI.low.trans ⟨a1.1, a1.2.1, a1.2.2, by omega, fun k hk => ?_⟩
    rw [e4 k (by omega), e3 k (by omega), e2 k (by omega)]
  · intro e he
    simp at he
    rcases he with he | rfl
    · obtain ⟨j, hj, hr⟩ := h1 e (by simpa using he)
      exact ⟨j, by simp [hj], hr.mono old⟩
    · exact ⟨i, by simp, rfl, W2.heap.size, W2.heap.size + 1, by omega, by omega, rfl, by rw [hsz, e4 _ (by omega)]; exact n1, by rw [hsz, e4 _ (by omega)]; exact n2⟩
  · intro j hj
    simp at hj
    rcases hj with hj | rfl
    · obtain ⟨e, he, hr⟩ := h2 j hj
      exact ⟨e, by simp; exact .inl (by simpa using he), hr.mono old⟩
    · exact ⟨_, by simp; exact .inr rfl, rfl, W2.heap.size, W2.heap.size + 1, by omega, by omega, rfl, by rw [hsz, e4 _ (by omega)]; exact n1, by rw [hsz, e4 _ (by omega)]; exact n2⟩
  · have fresh : ∀ e ∈ es.toList, e.key ≠ .string (ij i) := fun e he c => by
      obtain ⟨j, hj, hk, _⟩ := h1 e he
      rw [hk] at c
      exact his (pE (hI.lt j hj) hi (by simpa using c) ▸ hj)
    intro e he e' he' hk
    simp at he he'
    rcases he with he | rfl <;> rcases he' with he' | rfl
    · exact h3 e (by simpa using he) e' (by simpa using he') hk
    · exact absurd hk (fresh e (by simpa using he))
    · exact absurd hk.symm (fresh e' (by simpa using he'))
    · rfl
end Go.Plb.Seat
namespace Go.Proofs
open Go.Shelf
open Go.RowKit in
open Go.RowKit in
open Go.RowKit in
open Go.RowKit in
open Go.RowKit in
open Go.RowKit Go.Sort Go.Lib in
open Go.RowKit in
open Go.RowKit in
open Go.RowKit in
open Go.RowKit Go.Lib in
end Go.Proofs
namespace Go.Plb
set_option linter.unusedSimpArgs false
set_option linter.unusedVariables false
set_option linter.unusedSectionVars false
variable [Rom]
inductive T (α:Type) where
  | fail
  | leaf (a:α)
  | ask (b:Bool) (t f:T α)
  | need (b:Bool) (t:T α)
  | alt (k:Nat) (t e:T α)
def T.run{α:Type} :T α→Option α
  | .fail=>none
  | .leaf a=>some a
  | .ask b t f=>bif b then t.run else f.run
  | .need b t=>bif b then t.run else none
  | .alt _ t e=>match t.run with
    | some a=>some a
    | none=>e.run
structure fP (α:Type) where
  path:List Nat
  obs:List Bool
  val:α
def fP.ask{α:Type}(n:Nat)(b:Bool)(l:fP α) :fP α:=⟨n::l.path,b::l.obs,l.val⟩
def fP.need{α:Type}(b:Bool)(l:fP α) :fP α:=⟨l.path,b::l.obs,l.val⟩
def fP.alt{α:Type}(n:Nat)(l:fP α) :fP α:=⟨n::l.path,l.obs,l.val⟩
def T.leaves{α:Type} :T α→List (fP α)
  | .fail=>[]
  | .leaf a=>[⟨[],[],a⟩]
  | .ask b t f=>t.leaves.map (fP.ask 1 (b==true))++f.leaves.map (fP.ask 0 (b==false))
  | .need b t=>t.leaves.map (fP.need b)
  | .alt k t e=>t.leaves.map (fP.alt k)++e.leaves
theorem cH{α:Type} :∀ (t:T α) {a:α},t.run=some a→∃ l∈t.leaves,l.val=a∧ac l.obs
  | .fail,a,h=>by cases h
  | .leaf b,a,h=>by
    simp only [T.run,Option.some.injEq] at h;subst h
    exact ⟨⟨[],[],b⟩,by simp [T.leaves],rfl,trivial⟩
  | .ask b t f,a,h=>by
    simp only [T.run] at h
    cases b with
    | true =>
      simp only [cond_true] at h
      obtain ⟨l,h1,h2,h3⟩:=cH t h
      exact ⟨l.ask 1 (true==true),by simp only [T.leaves,List.mem_append];exact .inl (List.mem_map_of_mem h1),h2,⟨rfl,h3⟩⟩
    | false =>
      simp only [cond_false] at h
      obtain ⟨l,h1,h2,h3⟩:=cH f h
      exact ⟨l.ask 0 (false==false),by simp only [T.leaves,List.mem_append];exact .inr (List.mem_map_of_mem h1),h2,⟨rfl,h3⟩⟩
  | .need b t,a,h=>by
    simp only [T.run] at h
    cases b with
    | true =>
      simp only [cond_true] at h
      obtain ⟨l,h1,h2,h3⟩:=cH t h
      exact ⟨l.need true,by simp only [T.leaves];exact List.mem_map_of_mem h1,h2,⟨rfl,h3⟩⟩
    | false=>cases h
  | .alt k t e,a,h=>by
    simp only [T.run] at h
    split at h
    · rename_i a' ht
      cases h
      obtain ⟨l,h1,h2,h3⟩:=cH t ht
      exact ⟨l.alt k,by simp only [T.leaves,List.mem_append];exact .inl (List.mem_map_of_mem h1),h2,h3⟩
    · obtain ⟨l,h1,h2,h3⟩:=cH e h
      exact ⟨l,by simp only [T.leaves,List.mem_append];exact .inr h1,h2,h3⟩
def fm{α X:Type}(N:α→ax)(E:X→AE×ax) :α⊕X→AE×ax
  | .inl a=>(.normal,N a)
  | .inr x=>E x
def Sg{α X:Type}(P:Program)(lent:List ae)(cs:List Code)(st:ax)(m:Option (α⊕X))(N:α→ax)(E:X→AE×ax) :Prop :=
  ∀ r,m=some r→aY P lent cs st fun e st'=>(e,st')=fm N E r
def qN{α X:Type}(C:gz)(S:hY)(n:Nat)(cs:List Code)(st:ax)(ls:List (fP (α⊕X)))(ks:List NS)(k:Nat) :List (Bool×Option (AE×ax×List Bool)) :=
  List.zipWith (fun l s=>(s.ok k,qp s (pA (eE C S 12 n) cs st (some l.path)))) ls ks
def o5{α X:Type}(N:α→ax)(E:X→AE×ax)(ls:List (fP (α⊕X))) :List (Bool×Option (AE×ax×List Bool)) :=
  ls.map fun l=>(true,some ((fm N E l.val).1,(fm N E l.val).2,l.obs))
theorem o6{α β γ:Type}{f:α→β→γ}{g:α→γ} :∀ {l:List α} {k:List β},List.zipWith f l k=l.map g→∀ a∈l,∃ b,f a b=g a
  | [],_,_,a,ha=>by cases ha
  | x::l,[],h,a,ha=>by simp at h
  | x::l,y::k,h,a,ha=>by
    simp only [List.zipWith_cons_cons,List.map_cons,List.cons.injEq] at h
    rcases List.mem_cons.1 ha with rfl | ha
    · exact ⟨y,h.1⟩
    · exact o6 h.2 a ha
theorem Sg.seg{C:gz}(hC:C.Ok){S:hY}(hS:bB C.P S){lent:List ae}{α X:Type}(n:Nat)(cs:List Code)(st:ax)(t:T (α⊕X))(N:α→ax)(E:X→AE×ax)(ks:List NS) 
    (h:qN C S n cs st t.leaves ks lent.length=o5 N E t.leaves):Sg C.P lent cs st t.run N E:=by
  intro r hr
  obtain ⟨l,h1,h2,h3⟩:=cH t hr
  obtain ⟨k,hk⟩:=o6 h l h1
  simp only [Prod.mk.injEq] at hk
  obtain ⟨hn,he⟩:=hk
  have:=aY.seg hC hS (lent:=lent) (Q:=fun e st'=>(e,st')=fm N E r) cs.length (some l.path) k (cs:=cs) (st:=st) (by rw [List.take_length];exact he) hn h3
  refine this ?_
  rw [h2,List.drop_length]
  generalize hg:fm N E r=x
  obtain ⟨e,s⟩:=x
  cases e with
  | normal=>exact aY.nil rfl
  | ret=>rfl
  | exit id=>rfl
theorem aY.append{P:Program}{lent:List ae}{cs1 cs2:List Code}{st:ax}{Q1 Q:AE→ax→Prop}(h:aY P lent cs1 st Q1)(k:∀ e st',Q1 e st'→k6 P lent cs2 e st' Q) :aY P lent (cs1++cs2) st Q:=by
  intro ρ0 w0 hN K hK a w hA
  apply gD
  refine h ρ0 w0 hN _ ?_ a w hA
  intro e st' a' w' q hA'
  have:=k e st' q
  cases e with
  | normal=>exact this ρ0 w0 hN K hK a' w' hA'
  | ret=>exact hK _ _ _ _ this hA'
  | exit id=>exact hK _ _ _ _ this hA'
def pO{X:Type}(E:X→AE×ax) :Prop:=∀ x,(E x).1 ≠ .normal
theorem o7{P:Program}{lent:List ae}{cs:List Code}{e:AE}{st:ax}{Q:AE→ax→Prop}(hn:e ≠ .normal)(h:Q e st) :k6 P lent cs e st Q:=by
  cases e with
  | normal=>exact (hn rfl).elim
  | ret=>exact h
  | exit id=>exact h
def ik{α β X:Type}(m:Option (α⊕X))(k:α→Option (β⊕X)) :Option (β⊕X) :=
  match m with
  | none=>none
  | some (.inl a)=>k a
  | some (.inr x)=>some (.inr x)
theorem Sg.seq{P:Program}{lent:List ae}{α β X:Type}{cs1 cs2:List Code}{st:ax}{m:Option (α⊕X)}{N1:α→ax}{E:X→AE×ax}{k:α→Option (β⊕X)}{N:β→ax}(hE:pO E) 
    (h:Sg P lent cs1 st m N1 E) (hk:∀ a,Sg P lent cs2 (N1 a) (k a) N E):Sg P lent (cs1++cs2) st (ik m k) N E:=by
  intro r hr
  unfold ik at hr
  split at hr
  · cases hr
  · rename_i a
    refine aY.append (h _ rfl) ?_
    intro e st' q
    simp only [fm,Prod.mk.injEq] at q
    obtain ⟨rfl,rfl⟩:=q
    exact hk a r hr
  · rename_i x
    simp only [Option.some.injEq] at hr;subst hr
    refine aY.append (h _ rfl) ?_
    intro e st' q
    simp only [fm] at q
    refine o7 ?_ q
    have:=hE x
    rw [←q] at this;exact this
def eP{σ Y:Type}(B:σ→Option (σ⊕Y)) :Nat→σ→Option Y
  | 0,_=>none
  | n+1,s=>match B s with
    | none=>none
    | some (.inl s')=>eP B n s'
    | some (.inr y)=>some y
theorem gF{σ Y:Type}{B:σ→Option (σ⊕Y)} :∀ (n:Nat) {s:σ} {y:Y},eP B n s=some y→∀ m,n≤m→eP B m s=some y
  | 0,s,y,h,_,_=>by cases h
  | n+1,s,y,h,m,hm=>by
    obtain ⟨m',rfl⟩:∃ m',m=m'+1:=⟨m-1,by omega⟩
    simp only [eP] at h ⊢
    split at h
    · cases h
    · exact gF n h m' (by omega)
    · exact h
open Classical in
noncomputable def bT{σ Y:Type}(B:σ→Option (σ⊕Y))(s:σ) :Option Y :=
  if h:∃ n y,eP B n s=some y then some h.choose_spec.choose else none
theorem fO{σ Y:Type}{B:σ→Option (σ⊕Y)}{s:σ}{y:Y} :bT B s=some y↔∃ n,eP B n s=some y:=by
  unfold bT
  constructor
  · intro h
    split at h
    · rename_i q
      simp only [Option.some.injEq] at h
      exact ⟨q.choose,by rw [←h];exact q.choose_spec.choose_spec⟩
    · cases h
  · rintro ⟨n,h⟩
    rw [dif_pos ⟨n,y,h⟩]
    generalize hq:(⟨n,y,h⟩:∃ n y,eP B n s=some y)=q
    have h1:=q.choose_spec.choose_spec
    have a1:=gF n h (max n q.choose) (by omega)
    have a2:=gF _ h1 (max n q.choose) (by omega)
    rw [a1] at a2
    exact a2.symm
theorem nB{σ Y:Type}(B:σ→Option (σ⊕Y))(s:σ) :bT B s=match B s with
    | none=>none
    | some (.inl s')=>bT B s'
    | some (.inr y)=>some y:=by
  have key:∀ y,bT B s=some y↔(match B s with | none=>none | some (.inl s')=>bT B s' | some (.inr y)=>some y)=some y:=by
    intro y
    rw [fO]
    constructor
    · rintro ⟨n,h⟩
      cases n with
      | zero=>cases h
      | succ n =>
        simp only [eP] at h
        cases q:B s with
        | none=>rw [q] at h;cases h
        | some z=>cases z with
          | inl s'=>rw [q] at h;exact fO.2 ⟨n,h⟩
          | inr z=>rw [q] at h;exact h
    · intro h
      split at h<;>rename_i q
      · cases h
      · obtain ⟨n,hn⟩:=fO.1 h
        exact ⟨n+1,by simp only [eP,q];exact hn⟩
      · exact ⟨1,by simp only [eP,q];exact h⟩
  generalize (match B s with | none=>none | some (.inl s')=>bT B s' | some (.inr y)=>some y)=x at key
  cases hl:bT B s with
  | none=>cases x with
    | none=>rfl
    | some y=>rw [(key y).2 rfl] at hl;cases hl
  | some y=>rw [hl] at key;exact ((key y).1 rfl).symm
theorem nC{σ Y:Type}{B:σ→Option (σ⊕Y)}{s s':σ}(h:B s=some (.inl s')) :bT B s=bT B s':=by rw [nB,h]
theorem lG{σ Y:Type}{B:σ→Option (σ⊕Y)}{s:σ}{y:Y}(h:B s=some (.inr y)) :bT B s=some y:=by rw [nB,h]
theorem pF{σ Y:Type}{B:σ→Option (σ⊕Y)}(G:σ→Prop)(m:σ→Nat)(Q:Y→Prop)(h:∀ s,G s→(∃ s',B s=some (.inl s')∧G s'∧m s'<m s)∨∃ y,B s=some (.inr y)∧Q y) :
    ∀ s,G s→∃ y,bT B s=some y∧Q y:=by
  have key:∀ n s,m s<n→G s→∃ y,bT B s=some y∧Q y:=by
    intro n
    induction n with
    | zero=>intro s q;omega
    | succ n ih =>
      intro s q hs
      rcases h s hs with ⟨s',h1,h2,h3⟩ | ⟨y,h1,h2⟩
      · obtain ⟨y,k1,k2⟩:=ih s' (by omega) h2
        exact ⟨y,by rw [nC h1];exact k1,k2⟩
      · exact ⟨y,lG h1,h2⟩
  exact fun s hs=>key _ s (Nat.lt_succ_self _) hs
def f8{ρ X:Type}(id:Nat)(J:ρ→ax)(E:X→AE×ax) :ρ⊕X→AE×ax
  | .inl r=>(.exit id,J r)
  | .inr x=>E x
def pG{X:Type}(id:Nat)(E:X→AE×ax) :Prop:=∀ x,(E x).1 ≠ .exit id
theorem Sg.loop{P:Program}{lent:List ae}{σ ρ X:Type}{I:σ→ax}{J:ρ→ax}{E:X→AE×ax}{B:σ→Option (σ⊕(ρ⊕X))}{id:Nat}{b:Code}(hE:pO E)(hI:pG id E) 
    (hb:∀ s,Sg P lent (dG b) (I s) (B s) I (f8 id J E)) (s:σ):Sg P lent [.block id (.loop b)] (I s) (bT B s) J E:=by
  intro y hy
  obtain ⟨n,hn⟩:=fO.1 hy

  have:=aY.loop (P:=P) (lent:=lent) (id:=id) (b:=b) (rest:=[]) (Q:=fun e st'=>(e,st')=fm J E y) (σ:=Nat×σ) (fun s=>I s.2) (fun s=>eP B s.1 s.2=some y) (fun s=>s.1) rfl (fun s hs=>?_) (n,s) hn
  · exact this
  · obtain ⟨n,s⟩:=s
    simp only at hs ⊢
    cases n with
    | zero=>cases hs
    | succ n =>
      simp only [eP] at hs
      split at hs
      · cases hs
      · rename_i s' hB
        refine (hb s _ hB).mono ?_
        intro e st' q
        simp only [fm,Prod.mk.injEq] at q
        obtain ⟨rfl,rfl⟩:=q
        exact ⟨(n,s'),hs,by simp,rfl⟩
      · rename_i y' hB
        simp only [Option.some.injEq] at hs;subst hs
        refine (hb s _ hB).mono ?_
        intro e st' q
        cases y' with
        | inl r =>
          simp only [fm,f8,Prod.mk.injEq] at q
          obtain ⟨rfl,rfl⟩:=q
          simp only [h9,if_true]
          exact aY.nil rfl
        | inr x =>
          simp only [fm,f8] at q
          have h1:=hE x
          have h2:=hI x
          rw [←q] at h1 h2
          simp only at h1 h2
          cases e with
          | normal=>exact (h1 rfl).elim
          | ret=>exact q
          | exit j =>
            have hj : ¬ j=id:=fun h=>h2 (by rw [h])
            simp only [h9,hj,if_false]
            exact q
def lH{κ X:Type}(m:Option (κ⊕(κ⊕X))) :Option (κ⊕X) :=
  match m with
  | none=>none
  | some (.inl a)=>some (.inl a)
  | some (.inr (.inl a))=>some (.inl a)
  | some (.inr (.inr x))=>some (.inr x)
theorem Sg.block{P:Program}{lent:List ae}{κ X:Type}{K:κ→ax}{E:X→AE×ax}{m:Option (κ⊕(κ⊕X))}{id:Nat}{b:Code}{st:ax}(hE:pO E)(hI:pG id E) 
    (hb:Sg P lent (dG b) st m K (f8 id K E)):Sg P lent [.block id b] st (lH m) K E:=by
  intro r hr
  unfold lH at hr
  refine aY.block (rest:=[]) rfl ?_
  split at hr
  · cases hr
  · simp only [Option.some.injEq] at hr;subst hr
    refine (hb _ rfl).mono ?_
    intro e st' q
    simp only [fm,Prod.mk.injEq] at q
    obtain ⟨rfl,rfl⟩:=q
    exact aY.nil rfl
  · simp only [Option.some.injEq] at hr;subst hr
    refine (hb _ rfl).mono ?_
    intro e st' q
    simp only [fm,f8,Prod.mk.injEq] at q
    obtain ⟨rfl,rfl⟩:=q
    simp only [if_true]
    exact aY.nil rfl
  · rename_i x
    simp only [Option.some.injEq] at hr;subst hr
    refine (hb _ rfl).mono ?_
    intro e st' q
    simp only [fm,f8] at q
    have h1:=hE x
    have h2:=hI x
    rw [←q] at h1 h2
    simp only at h1 h2
    cases e with
    | normal=>exact (h1 rfl).elim
    | ret=>exact q
    | exit j =>
      have hj : ¬ j=id:=fun h=>h2 (by rw [h])
      simp only [hj,if_false]
      exact q
theorem Sg.scope{P:Program}{lent:List ae}{α X:Type}{N:α→ax}{E:X→AE×ax}{m:Option (α⊕X)}{b:Code}{st:ax}(hE:pO E)(hb:Sg P lent (dG b) st m N E) :Sg P lent [.scope b] st m N E:=by
  intro r hr
  refine aY.scope (rest:=[]) rfl ((hb r hr).mono ?_)
  intro e st' q
  cases r with
  | inl a =>
    simp only [fm,Prod.mk.injEq] at q
    obtain ⟨rfl,rfl⟩:=q
    exact aY.nil rfl
  | inr x =>
    refine o7 ?_ q
    have:=hE x
    simp only [fm] at q
    rw [←q] at this;exact this
theorem nD{k:Nat}{ρ0:aa}{w0:World}{st:ax}{a:Act}{w:World}{c:Operand}{b kn:Bool}(h:At k ρ0 w0 st a w)(hc:qT st.tmps c=.bool kn b) :At k ρ0 w0 { st with tmps:=dx st.tmps c b } a w∧a.eval c=.bool b:=by
  obtain ⟨ρ,E,W,hs,hbk,hle⟩:=h
  have hb:a.eval c=.bool b:=by
    have:=jI hs.heap.rom hs.tmps c
    rw [hc] at this
    generalize a.eval c=z at this
    cases this;rfl
  refine ⟨⟨ρ,E,W,⟨hs.defers,?_,hs.heap⟩,hbk,hle⟩,hb⟩
  cases c with
  | tmp t =>
    simp only [dx]
    have:aG ρ w (st.tmps.set t (.bool true b)) (a.tmps.toList.set t (.bool b)):=hs.tmps.set (.bool _ _) t
    have e:a.tmps.toList.set t (.bool b)=a.tmps.toList:=by
      apply List.ext_getElem?
      intro j
      rw [List.getElem?_set]
      split
      · rename_i q;subst q
        split
        · rename_i hlt
          simp only [Act.eval] at hb
          rw [Array.getD_eq_getD_getElem?] at hb
          have hlt':t<a.tmps.size:=by simpa using hlt
          rw [Array.getElem?_eq_getElem hlt'] at hb
          simp only [Option.getD_some] at hb
          simp [hlt',hb]
        · rename_i hge
          rw [List.getElem?_eq_none (by omega)]
      · rfl
    rw [e] at this;exact this
  | const v=>exact hs.tmps
  | global g=>exact hs.tmps
  | func f=>exact hs.tmps
theorem Sg.cond{P:Program}{lent:List ae}{α X:Type}{N:α→ax}{E:X→AE×ax}{m1 m2:Option (α⊕X)}{c:Operand}{A B:Code}{st:ax}{kn b:Bool}(hE:pO E)(hc:qT st.tmps c=.bool kn b) 
    (h1:Sg P lent (dG A) { st with tmps:=dx st.tmps c true } m1 N E) (h2:Sg P lent (dG B) { st with tmps:=dx st.tmps c false } m2 N E):Sg P lent [.cond c A B] st (bif b then m1 else m2) N E:=by
  intro r hr
  intro ρ0 w0 hN K hK a w hA
  simp only [kM]
  obtain ⟨hA',hb⟩:=nD hA hc
  refine wp_cond hb ?_
  have fin:∀ (D:Code) (m:Option (α⊕X)) (st1:ax),Sg P lent (dG D) st1 m N E→m=some r→At lent.length ρ0 w0 st1 a w→D.wp P (fun e a' w'=>match e with | .normal=>K .normal a' w' | e=>K e a' w') a w:=by
    intro D m st1 hS hm hA1
    refine eH D (hS r hm ρ0 w0 hN _ ?_ a w hA1)
    intro e st' a' w' q hA2
    cases e with
    | normal=>exact hK .normal st' a' w' q hA2
    | ret=>exact hK .ret st' a' w' q hA2
    | exit id=>exact hK (.exit id) st' a' w' q hA2
  cases b with
  | true=>exact fin A m1 _ h1 hr hA'
  | false=>exact fin B m2 _ h2 hr hA'
theorem Sg.pre{P:Program}{lent:List ae}{α X:Type}{N:α→ax}{E:X→AE×ax}{m:Option (α⊕X)}{cs:List Code}{st st1:ax}(s:NS)(hn:s.ok lent.length=true)(h1:s.on st=st1)(h:Sg P lent cs st1 m N E) :Sg P lent cs st m N E :=
  fun r hr=>aY.weak (by rw [←h1];exact qo hn st) (h r hr)
def ry{X:Type} :Option (Empty⊕X)→Option X
  | some (.inr x)=>some x
  | _=>none
theorem Sg.contract{P:Program}{f:FuncId}{fn:Func}{c:Code}{X:Type}{N:Empty→ax}{E:X→AE×ax}{m:Option (Empty⊕X)}{lent:List ae}{args:List AV}(keep:Bool)(o:X→iJ)(hf:P.funcs[f]? = some fn)(hc:fn.body=some c) 
    (h:Sg P lent (dG c) (dO fn lent args) m N E) (hE:∀ x,oR P fn lent.length keep (o x) (E x).1 (E x).2) {x:X} (hx:ry m=some x):ao P f lent args (o x):=by
  unfold ry at hx
  split at hx
  · rename_i x'
    simp only [Option.some.injEq] at hx;subst hx
    refine aY.contract (keep:=keep) hf hc ((h _ rfl).mono ?_)
    intro e st' q
    simp only [fm] at q
    have:=hE x'
    rw [←q] at this;exact this
  · cases hx
end Go.Plb
namespace Go.Plb
set_option linter.unusedSectionVars false
variable [Rom]
def mv:Code→Code
  | .block _ (.loop b)=>b
  | _=>.skip
theorem Sg.cut{P:Program}{lent:List ae}{α β X:Type}{cs:List Code}{st:ax}{m:Option (α⊕X)}{N1:α→ax}{E:X→AE×ax}{k:α→Option (β⊕X)}{N:β→ax}(n:Nat)(hE:pO E) 
    (h:Sg P lent (cs.take n) st m N1 E) (hk:∀ a,Sg P lent (cs.drop n) (N1 a) (k a) N E):Sg P lent cs st (ik m k) N E:=by
  have:=Sg.seq hE h hk
  rwa [List.take_append_drop] at this
theorem pH{P:Program}{lent:List ae}{σ ρ X:Type}{I:σ→ax}{J:ρ→ax}{E:X→AE×ax}{B:σ→Option (σ⊕(ρ⊕X))}{id:Nat}{b:Code}{cs:List Code}(hcs:cs=[.block id (.loop b)])(hE:pO E)(hI:pG id E) 
    (hb:∀ s,Sg P lent (dG b) (I s) (B s) I (f8 id J E)) (s:σ):Sg P lent cs (I s) (bT B s) J E:=by rw [hcs];exact Sg.loop hE hI hb s
end Go.Plb
namespace Go.Plb.Seat
open Go Go.Plb
set_option linter.unusedSimpArgs false
set_option linter.unusedVariables false
noncomputable abbrev E0:hY:=bZ []
def L1:List cX:=[]
def S1:hY:=bZ L1
theorem sf:bB prog S1:=ku _
end Go.Plb.Seat
namespace Go.Plb.Seat
open Go Go.Plb
set_option linter.unusedSimpArgs false
set_option linter.unusedVariables false
set_option maxRecDepth 100000
noncomputable def L2:List cX:=L1
theorem sg:bB prog (bZ L2):=sf
end Go.Plb.Seat
namespace Go.Plb.Seat
open Go Go.Plb
set_option linter.unusedSimpArgs false
set_option linter.unusedVariables false
theorem ao.nan{f:FuncId}{g:Nat→iJ}{r:iJ}(h:∀ n:Nat,ao prog f [] [.int .u64 (n:Int)] (g n))(e:∀ n:Nat,isNaN n=true→g n=r) :ao prog f [] [.nan] r:=by
  intro ρ w us hN hv
  cases hv with | cons _ u _ _ h1 h2 =>
  cases h2
  cases h1 with | nan n hn =>
  rw [←e n hn]
  exact h n ρ w _ hN (.cons _ _ _ _ (.int _ _) .nil)
noncomputable def L3:List cX:=L2
theorem sG:bB prog (bZ L3):=sg
end Go.Plb.Seat
namespace Go.Plb.Seat
open Go Go.Plb
set_option linter.unusedVariables false
set_option maxRecDepth 100000
theorem qO{S:hY}(hS:bB prog S){lent:List ae}{α X:Type}{cs:List Code}{st:ax}{t:T (α⊕X)}(N:α→ax){E:X→AE×ax}(ks:List NS) 
    (h:qN C0 S 60 cs st t.leaves ks lent.length=o5 N E t.leaves:=by kernel_rfl):Sg prog lent cs st t.run N E:=Sg.seg sb hS 60 cs st t N E ks h
theorem sH{lent:List ae}{σ ρ X:Type}{cs:List Code}{st:ax}{E:X→AE×ax}{B:σ→Option (σ⊕(ρ⊕X))}{ent:σ}(s:NS)(I:σ→ax)(J:ρ→ax)(id:Nat)(hE:pO E)(hI:pG id E) 
    (hb:∀ a,Sg prog lent (dG (mv (cs.headD .skip))) (I a) (B a) I (f8 id J E)) (hn:s.ok lent.length=true:=by exact rfl) (h1:s.on st=I ent:=by kernel_rfl) (hcs:cs=[.block id (.loop (mv (cs.headD .skip)))]:=by kernel_rfl) :
    Sg prog lent cs st (bT B ent) J E:=Sg.pre s hn h1 (pH hcs hE hI hb ent)
def rS:Empty→ax:=fun a=>a.elim
theorem rQ{fn:Func}{k:Nat}{keep:Bool}{o:iJ}{st:ax}(vs:List AV)(h1:br prog fn st fn.results.toList=some (vs,[]):=by kernel_rfl)(h2:kf k keep st.heap (iO vs)=some o:=by kernel_rfl) :oR prog fn k keep o .ret st :=
  ⟨.inr rfl,vs,[],h1,trivial,h2⟩
theorem sm{f:FuncId}{X:Type}{m:Option (Empty⊕X)}{lent:List ae}{args:List AV}{x:X}(keep:Bool)(o:X→iJ)(E:X→AE×ax)(hx:ry m=some x) 
    (h:Sg prog lent (dG (qJ f)) (dO (FN f) lent args) m rS E) (hE:∀ x,oR prog (FN f) lent.length keep (o x) (E x).1 (E x).2)
    (hf:prog.funcs[f]? = some (FN f):=by kernel_rfl) (hc:(FN f).body=some (qJ f):=by kernel_rfl):ao prog f lent args (o x) :=
  Sg.contract (P:=prog) (f:=f) (fn:=FN f) (c:=qJ f) (N:=rS) (E:=E) (lent:=lent) (args:=args) keep o hf hc h hE hx
end Go.Plb.Seat
namespace Go.Plb.Seat
open Go Go.Plb
noncomputable def sh:List cX:=[]
theorem il:bB prog (bZ sh):=ku prog
end Go.Plb.Seat
namespace Go.Plb.Seat
open Go Go.Plb
set_option linter.unusedVariables false
set_option maxRecDepth 100000
noncomputable section
end
end Go.Plb.Seat
namespace Go.Plb
set_option linter.unusedSimpArgs false
set_option linter.unusedVariables false
set_option linter.unusedSectionVars false
variable [Rom]
theorem bC{α:Type}{b:Bool}{t:T α}{x:Option α}(h:b=true)(k:t.run=x) :(T.need b t).run=x:=by subst h;exact k
theorem im{α:Type}{b:Bool}{t f:T α}{x:Option α}(h:b=true)(k:t.run=x) :(T.ask b t f).run=x:=by subst h;exact k
theorem k7{α:Type}{b:Bool}{t f:T α}{x:Option α}(h:b=false)(k:f.run=x) :(T.ask b t f).run=x:=by subst h;exact k
theorem o8{α:Type}{b:Bool}{t:T α}{x:Option α}(k:t.run=x)(h:b=true:=by exact rfl) :(T.need b t).run=x:=bC h k
theorem nE{α:Type}{b:Bool}{t f:T α}{x:Option α}(k:t.run=x)(h:b=true:=by exact rfl) :(T.ask b t f).run=x:=im h k
theorem dk{α β X:Type}{m:Option (α⊕X)}{k:α→Option (β⊕X)}{a:α}{x:Option (β⊕X)}(h:m=some (.inl a))(q:k a=x) :ik m k=x:=by subst h;exact q
theorem fo{α β X:Type}{m:Option (α⊕X)}{k:α→Option (β⊕X)}{y:X}(h:m=some (.inr y)) :ik m k=some (.inr y):=by subst h;rfl
theorem qP{κ X:Type}{m:Option (κ⊕(κ⊕X))}{a:κ}(h:m=some (.inl a)) :lH m=some (.inl a):=by subst h;rfl
theorem pI{κ X:Type}{m:Option (κ⊕(κ⊕X))}{a:κ}(h:m=some (.inr (.inl a))) :lH m=some (.inl a):=by subst h;rfl
theorem pJ{κ X:Type}{m:Option (κ⊕(κ⊕X))}{a:X}(h:m=some (.inr (.inr a))) :lH m=some (.inr a):=by subst h;rfl
theorem iR{X:Type}{m:Option (Empty⊕X)}{x:X}(h:m=some (.inr x)) :ry m=some x:=by subst h;rfl
theorem pK{σ Y:Type}{B:σ→Option (σ⊕Y)}(st:Nat→σ)(n:Nat){y:Y}(i:Nat)(hi:i≤n)(step:∀ j,i≤j→j<n→B (st j)=some (.inl (st (j+1))))(done:B (st n)=some (.inr y)) :bT B (st i)=some y:=by
  obtain ⟨d,rfl⟩:∃ d,n=i+d:=⟨n-i,by omega⟩
  clear hi
  induction d generalizing i with
  | zero=>exact lG done
  | succ d ih =>
    rw [nC (step i (Nat.le_refl _) (by omega))]
    have e:i+(d+1)=i+1+d:=by omega
    rw [e] at step done
    exact ih (i+1) (fun j h1 h2=>step j (by omega) h2) done
theorem io{σ Y:Type}{B:σ→Option (σ⊕Y)}(st:Nat→σ)(n:Nat){y:Y}{s0:σ}(h0:s0=st 0)(step:∀ j,j<n→B (st j)=some (.inl (st (j+1))))(done:B (st n)=some (.inr y)) :bT B s0=some y:=by
  rw [h0];exact pK st n 0 (Nat.zero_le _) (fun j _=>step j) done
theorem jE{n:Int} :qS .i64 n=true↔-9223372036854775808≤n∧n≤9223372036854775807:=by
  have e1:IntKind.i64.min = -9223372036854775808:=by decide
  have e2:IntKind.i64.max=9223372036854775807:=by decide
  simp only [qS,e1,e2,Bool.and_eq_true,decide_eq_true_eq]
theorem eQ{k:Int}{n:Nat} :ow k n=true↔0≤k∧k<n:=by simp only [ow,Bool.and_eq_true,decide_eq_true_eq]
theorem bV{k n:Nat} :eU k n=true↔k<n:=by simp [eU]
def mz{α:Type}(m:Option α)(Q:α→Prop) :Prop:=∃ r,m=some r∧Q r
theorem mz.mono{α:Type}{m:Option α}{Q R:α→Prop}(h:mz m Q)(k:∀ r,Q r→R r) :mz m R:=by
  obtain ⟨r,a,b⟩:=h
  exact ⟨r,a,k r b⟩
def T.wp{α:Type}(Q:α→Prop) :T α→Prop
  | .fail=>False
  | .leaf a=>Q a
  | .ask b t f=>(b=true→t.wp Q)∧(b=false→f.wp Q)
  | .need b t=>b=true∧t.wp Q
  | .alt _ t e=>t.wp Q∨(t.run=none∧e.wp Q)
theorem mz.seq{α β X:Type}{m:Option (α⊕X)}{k:α→Option (β⊕X)}{N:β→Prop}{E:X→Prop}(h:mz m (Sum.elim (fun a=>mz (k a) (Sum.elim N E)) E)) :mz (ik m k) (Sum.elim N E):=by
  obtain ⟨r,a,b⟩:=h
  cases r with
  | inl x =>
    obtain ⟨r',a',b'⟩:=b
    exact ⟨r',dk a a',b'⟩
  | inr x=>exact ⟨.inr x,fo a,b⟩
theorem mz.join{κ X:Type}{m:Option (κ⊕(κ⊕X))}{N:κ→Prop}{E:X→Prop}(h:mz m (Sum.elim N (Sum.elim N E))) :mz (lH m) (Sum.elim N E):=by
  obtain ⟨r,a,b⟩:=h
  rcases r with x | x | x
  · exact ⟨.inl x,qP a,b⟩
  · exact ⟨.inl x,pI a,b⟩
  · exact ⟨.inr x,pJ a,b⟩
theorem mz.loop{σ Y:Type}{B:σ→Option (σ⊕Y)}(I:σ→Prop)(m:σ→Nat){Q:Y→Prop}{s:σ}(h0:I s)(h:∀ s,I s→mz (B s) (Sum.elim (fun s'=>I s'∧m s'<m s) Q)) :mz (bT B s) Q:=by
  obtain ⟨y,a,b⟩:=pF I m Q (fun s hs=>by
    obtain ⟨r,a,b⟩:=h s hs
    cases r with
    | inl x=>exact .inl ⟨x,a,b.1,b.2⟩
    | inr y=>exact .inr ⟨y,a,b⟩) s h0
  exact ⟨y,a,b⟩
theorem mz.map{α R:Type}{m:Option α}{g:α→R}{E:R→Prop}(h:mz m fun a=>E (g a)) :mz (Option.map g m) E:=by
  obtain ⟨r,a,b⟩:=h
  exact ⟨g r,by rw [a];rfl,b⟩
theorem mz.some{α:Type}{a:α}{Q:α→Prop}(h:Q a) :mz (some a) Q:=⟨a,rfl,h⟩
end Go.Plb
namespace Go.Plb.Seat
open Go Go.Plb
set_option linter.unusedSimpArgs false
set_option linter.unusedVariables false
set_option maxRecDepth 100000
end Go.Plb.Seat
namespace Go.Plb.Seat
open Go Go.Plb Go.Proofs Go.RowKit
set_option maxRecDepth 100000
set_option linter.unusedSimpArgs false
set_option linter.unusedVariables false
end Go.Plb.Seat
namespace Go.Plb.Seat
open Go Go.Plb Go.Proofs Go.RowKit Go.Shelf
set_option maxRecDepth 100000
set_option linter.unusedSimpArgs false
set_option linter.unusedVariables false
end Go.Plb.Seat
namespace Go.Plb.Seat
open Go Go.Plb Go.Proofs Go.RowKit Go.Shelf
set_option maxRecDepth 100000
set_option linter.unusedSimpArgs false
set_option linter.unusedVariables false
attribute [local go_sem] Oper.semAt_some
theorem pL{B:Nat}{a w:World}(h:Below B a w){r:Nat}(hr:B≤r)(o:Obj) :Below B a (w.putObj r o) :=
  ⟨h.os,h.tape,h.output,by simp only [World.putObj_size];exact h.size,fun k hk=>(World.putObj_heap_other (by omega)).trans (h.block k hk)⟩
theorem mw{W W':World}{base:Nat}{e:TypeId}{size:Nat}{v:Value}{n:Nat}{xs:List Value}(h:W.ownsRow base e size v n xs)(hb:∀ k,base≤k→k<W.heap.size→W'.heap[k]? = W.heap[k]?) :W'.ownsRow base e size v n xs:=by
  refine ⟨h.1,?_⟩
  rcases h.2 with q | ⟨g,cap,cur,h1,h2,h3,h4⟩
  · exact .inl q
  · exact .inr ⟨g,cap,cur,h1,h2,(hb g h2 (Array.getElem?_eq_some_iff.1 h3).1).trans h3,h4⟩
structure sy (w:World) (rec:LoopState→Option Code→Loop) (pre:List Int) (W:World):Prop where
  r:Boxed W w.heap.size 22 (.slice none 0 0)
  e:Boxed W (w.heap.size+1) 24 (.int .i64 0)
  l:∃ v,Boxed W (w.heap.size+1+1) 22 v∧W.ownsRow (w.heap.size+8) 35 1 v pre.length (pre.map (Value.int .u64))
  d:W.heap[w.heap.size+6]? = some (.deferred (some []))
  o:W.heap[w.heap.size+6+1]? = some (.loop (rec .ready none))
  low:Below w.heap.size w W
theorem sy.set{w:World}{rec:LoopState→Option Code→Loop}{pre:List Int}{W:World}(h:sy w rec pre W)(k:Nat)(h1:w.heap.size+3≤k)(h2:k<w.heap.size+6)(u:Value) :sy w rec pre (W.setCell ⟨k,0,none⟩ u):=by
  have hk:∀ j,j≠k→(W.setCell ⟨k,0,none⟩ u).heap[j]? = W.heap[j]?:=fun j hj=>Below.heap_setCell _ _ _ _ hj
  obtain ⟨v,hv,ho⟩:=h.l
  exact ⟨(hk _ (by omega)).trans h.r,(hk _ (by omega)).trans h.e,⟨v,(hk _ (by omega)).trans hv,mw ho fun j hj _=>hk j (by omega)⟩,(hk _ (by omega)).trans h.d,(hk _ (by omega)).trans h.o,h.low.setCell (by show w.heap.size≤k;omega) _⟩
end Go.Plb.Seat
namespace Go.Plb.Seat
open Go Go.Plb
end Go.Plb.Seat
namespace Go.Plb.Seat
open Go Go.Plb
set_option linter.unusedVariables false
set_option maxRecDepth 100000
noncomputable section
end
end Go.Plb.Seat
namespace Go.Plb.Seat
open Go Go.Plb
set_option linter.unusedSimpArgs false
set_option linter.unusedVariables false
set_option maxRecDepth 100000
end Go.Plb.Seat
namespace Go.Plb.Seat
open Go Go.Plb Go.Proofs Go.RowKit Go.Shelf
set_option maxRecDepth 100000
set_option linter.unusedSimpArgs false
set_option linter.unusedVariables false
attribute [local go_sem] Oper.semAt_some
theorem ip{W:World}{k:Nat}{o:Obj}(h:W.heap[k]? = some o) :k<W.heap.size:=(Array.getElem?_eq_some_iff.1 h).1
structure sI (S bx l:Nat) (p:Option Addr) (L cap N:Nat) (rec:LoopState→Option Code→Loop) (J:Option Nat→World→Prop) (j:Nat) (W:World):Prop where
  j:J (some (1+j)) W
  x:Boxed W bx 44 (.func (.yield l) #[] #[])
  c:Boxed W S 22 (.slice p L cap)
  n:Boxed W (S+1) 3 (.int .i64 N)
  d:W.heap[S+2]? = some (.deferred (some []))
  o:W.heap[S+2+1]? = some (.loop (rec .ready none))
structure sJ (S:Nat) (rec:LoopState→Option Code→Loop) (J:Option Nat→World→Prop) (W:World):Prop where
  j:J none W
  d:W.heap[S+2]? = some (.deferred (some []))
  o:W.heap[S+2+1]? = some (.loop (rec .done (some .ret)))
def CJ(S bx l:Nat)(p:Option Addr)(L cap N:Nat)(rec:LoopState→Option Code→Loop)(J:Option Nat→World→Prop) :Option Nat→World→Prop
  | some j,W=>sI S bx l p L cap N rec J j W
  | none,W=>sJ S rec J W
theorem CJ.mono{S bx l:Nat}{p:Option Addr}{L cap N:Nat}{rec:LoopState→Option Code→Loop}{J:Option Nat→World→Prop}(hJ:∀ i W W',J i W→Below W.heap.size W W'→J i W') :
    ∀ i W W',CJ S bx l p L cap N rec J i W→Below W.heap.size W W'→CJ S bx l p L cap N rec J i W'
  | some j,W,W',h,hb=>⟨hJ _ _ _ h.j hb,(hb.block _ h.x.lt).trans h.x,(hb.block _ h.c.lt).trans h.c,(hb.block _ h.n.lt).trans h.n,(hb.block _ (ip h.d)).trans h.d,(hb.block _ (ip h.o)).trans h.o⟩
  | none,W,W',h,hb=>⟨hJ _ _ _ h.j hb,(hb.block _ (ip h.d)).trans h.d,(hb.block _ (ip h.o)).trans h.o⟩
theorem my{T e:TypeId}{B b:Nat}{bs:List Value}{W W':World}(h:Lib.IsBuilderF T e B b bs W)(hk:∀ (k:Nat) (c:Array Value) (t:TypeId) (fz:Nat×Nat),W.heap[k]? = some (Obj.cells c t fz)→W'.heap[k]? = some (Obj.cells c t fz)) :Lib.IsBuilderF T e B b bs W':=by
  have key:∀ p,Lib.BuilderAtF T e B b p bs W→Lib.BuilderAtF T e B b p bs W':=by
    rintro p ⟨h1,v,h2,h3,h4⟩
    refine ⟨h1,v,hk _ _ _ _ h2,⟨h3.1,?_⟩,h4⟩
    rcases h3.2 with q | ⟨g,cap,cur,fz,q1,q2,q3,q4⟩
    · exact .inl q
    · exact .inr ⟨g,cap,cur,fz,q1,q2,hk _ _ _ _ q3,q4⟩
  exact h.imp (key _) (key _)
structure TJ (w:World) (bb ab L:Nat) (cs:Array Value) (Ds:List Nat) (obj:Obj) (pre:List UInt8) (W:World):Prop where
  b:Lib.IsBuilderF 74 5 bb bb (Lib.byteCells pre) W
  a:W.heap[ab]? = some (.cells cs 37 (0,0))
  low:Below w.heap.size w W
  ds:∀ D∈Ds,W.heap[D]? = some (.deferred (some []))
  o:W.heap[L]? = some obj
theorem TJ.put{w:World}{bb ab L:Nat}{cs:Array Value}{Ds:List Nat}{obj obj':Obj}{pre:List UInt8}{W:World}(h:TJ w bb ab L cs Ds obj pre W)(r:Nat)(ob o':Obj)(hw:w.heap.size≤r)(ho:W.heap[r]? = some o')(hc:o'.isCells=false)(hD:∀ D∈Ds,r≠D) 
    (hL:(r≠L∧obj'=obj)∨(r=L∧obj'=ob)):TJ w bb ab L cs Ds obj' pre (W.putObj r ob):=by
  have nc:∀ k c t fz,W.heap[k]? = some (.cells c t fz)→k≠r:=fun k c t fz q e=>by
    rw [e,ho] at q;cases q;cases hc
  refine ⟨my h.b fun k c t fz q=>(World.putObj_heap_other (nc k c t fz q)).trans q,(World.putObj_heap_other (nc _ _ _ _ h.a)).trans h.a,pL h.low hw _,fun D q=>(World.putObj_heap_other (fun e=>hD D q e.symm)).trans (h.ds D q),?_⟩
  rcases hL with ⟨h1,rfl⟩ | ⟨rfl,rfl⟩
  · exact (World.putObj_heap_other (fun e=>h1 e.symm)).trans h.o
  · exact World.putObj_heap_same (ip ho)
end Go.Plb.Seat
namespace Go.Plb.Seat
open Go Go.Plb Go.Proofs Go.RowKit
set_option maxRecDepth 100000
set_option linter.unusedSimpArgs false
set_option linter.unusedVariables false
end Go.Plb.Seat
namespace Go.Plb.Seat
open Go Go.Plb
set_option linter.unusedSimpArgs false
set_option linter.unusedVariables false
set_option maxRecDepth 100000
end Go.Plb.Seat
namespace Go.Plb.Seat
open Go Go.Plb
end Go.Plb.Seat
namespace Go.Plb.Seat
open Go Go.Plb
set_option linter.unusedVariables false
set_option maxRecDepth 100000
noncomputable section
inductive aC where
  | r0 (b3:Bool)
def dl:aC→AE×ax
  | .r0 b3=>(.ret,⟨eg 66 [(4,.bool false b3)],[],0⟩)
theorem cQ:pO dl:=by intro x;cases x<;>(intro h;cases h)
theorem k8(id:Nat) :pG id dl:=by intro x;cases x<;>(intro h;cases h)
def eL:aC→iJ
  | .r0 b3=>⟨.bool false b3,[]⟩
noncomputable def k9:List Code:=dG (qJ eK)
def lb(a_0:Int)(a_1:Int)(a_2:Int)(v_3:Lv)(a_4:List Int)(a_5:Int)(a_6:Int)(b_7:Int)(b_8:Int)(b_9:Int)(v_10:Lv)(b_11:List Int)(b_12:Int)(b_13:Int)(b1:Bool) :ax:=⟨eg 66 [(2,.ptr 0 1 0 0),(3,.ptr 1 1 0 0),(47,.bool false b1)],[(0,.vs [.int .i64 a_0,.int .i64 a_1,.int .i64 a_2,.imm v_3 (.ns .u64 a_4) 1 1 0 (List.length a_4),.int .i64 a_5,.int .u64 a_6]),(1,.vs [.int .i64 b_7,.int .i64 b_8,.int .i64 b_9,.imm v_10 (.ns .u64 b_11) 1 1 0 (List.length b_11),.int .i64 b_12,.int .u64 b_13])],2⟩
def d7(a_0:Int)(a_1:Int)(a_2:Int)(a_4:List Int)(a_5:Int)(a_6:Int)(b_7:Int)(b_8:Int)(b_9:Int)(b_11:List Int)(b_12:Int)(b_13:Int) :T ((Bool)⊕(aC)) :=
  .ask (a_0 != b_7)
    (.leaf (.inl true))
    (.ask (a_1 != b_8)
      (.leaf (.inl true))
      (.ask (a_2 != b_9)
        (.leaf (.inl true))
        (.ask (a_5 != b_12)
          (.leaf (.inl true))
          (.ask (a_6 != b_13)
            (.leaf (.inl true))
            (.leaf (.inl ((((List.length a_4):Nat):Int) != (((List.length b_11):Nat):Int))))))))
def lc(a_0:Int)(a_1:Int)(a_2:Int)(v_3:Lv)(a_4:List Int)(a_5:Int)(a_6:Int)(b_7:Int)(b_8:Int)(b_9:Int)(v_10:Lv)(b_11:List Int)(b_12:Int)(b_13:Int)(_:Unit) :ax:=⟨eg 66 [(2,.ptr 0 1 0 0),(3,.ptr 1 1 0 0),(5,.int .i64 (0:Int))],[(0,.vs [.int .i64 a_0,.int .i64 a_1,.int .i64 a_2,.imm v_3 (.ns .u64 a_4) 1 1 0 (List.length a_4),.int .i64 a_5,.int .u64 a_6]),(1,.vs [.int .i64 b_7,.int .i64 b_8,.int .i64 b_9,.imm v_10 (.ns .u64 b_11) 1 1 0 (List.length b_11),.int .i64 b_12,.int .u64 b_13])],2⟩
def f9(b1:Bool) :T ((Unit)⊕(aC)) :=
  .ask b1
    (.leaf (.inr (.r0 false)))
    (.leaf (.inl ()))
def cR(a_0:Int)(a_1:Int)(a_2:Int)(v_3:Lv)(a_4:List Int)(a_5:Int)(a_6:Int)(b_7:Int)(b_8:Int)(b_9:Int)(v_10:Lv)(b_11:List Int)(b_12:Int)(b_13:Int)(i2:Nat) :ax:=⟨eg 66 [(2,.ptr 0 1 0 0),(3,.ptr 1 1 0 0),(5,.int .i64 ((i2:Nat):Int))],[(0,.vs [.int .i64 a_0,.int .i64 a_1,.int .i64 a_2,.imm v_3 (.ns .u64 a_4) 1 1 0 (List.length a_4),.int .i64 a_5,.int .u64 a_6]),(1,.vs [.int .i64 b_7,.int .i64 b_8,.int .i64 b_9,.imm v_10 (.ns .u64 b_11) 1 1 0 (List.length b_11),.int .i64 b_12,.int .u64 b_13])],2⟩
def gd(_:Unit) :ax:=⟨eg 66 [],[],0⟩
noncomputable def kB:List Code:=dG (mv (((((k9.drop 2).drop 2).take 1)).headD .skip))
def kC(a_4:List Int)(b_11:List Int)(i2:Nat) :T ((Nat)⊕((Unit)⊕(aC))) :=
  .ask (decide (((i2:Nat):Int)<(((List.length a_4):Nat):Int)))
    (.need (ow ((i2:Nat):Int) (List.length a_4))<|.need (eU i2 (List.length a_4))<|.need (ow ((i2:Nat):Int) (List.length b_11))<|.need (eU i2 (List.length b_11))<|.ask ((List.getD a_4 i2 0) != (List.getD b_11 i2 0))
      (.leaf (.inr (.inr (.r0 false))))
      (.need (qS .i64 (((i2+1):Nat):Int))<|.leaf (.inl (i2+1))))
    (.leaf (.inr (.inl ())))
noncomputable def dC(a_4:List Int)(b_11:List Int) :Nat→Option ((Nat)⊕((Unit)⊕(aC))):=fun i2 =>
  (kC a_4 b_11 i2).run
theorem kD(a_0:Int)(a_1:Int)(a_2:Int)(v_3:Lv)(a_4:List Int)(a_5:Int)(a_6:Int)(b_7:Int)(b_8:Int)(b_9:Int)(v_10:Lv)(b_11:List Int)(b_12:Int)(b_13:Int)(i2:Nat) :Sg prog [] kB (cR a_0 a_1 a_2 v_3 a_4 a_5 a_6 b_7 b_8 b_9 v_10 b_11 b_12 b_13 i2) (dC a_4 b_11 i2) (cR a_0 a_1 a_2 v_3 a_4 a_5 a_6 b_7 b_8 b_9 v_10 b_11 b_12 b_13) (f8 0 gd dl):=by
  unfold dC;exact qO il (cR a_0 a_1 a_2 v_3 a_4 a_5 a_6 b_7 b_8 b_9 v_10 b_11 b_12 b_13) [⟨[],[],[4]⟩,⟨[],[0,1],[2,3,5]⟩,⟨[],[],[]⟩]
def kF:T ((Empty)⊕(aC)) :=
  .leaf (.inr (.r0 true))
noncomputable def bJ(a_0:Int)(a_1:Int)(a_2:Int)(a_4:List Int)(a_5:Int)(a_6:Int)(b_7:Int)(b_8:Int)(b_9:Int)(b_11:List Int)(b_12:Int)(b_13:Int) :Option aC:=ry (ik ((d7 a_0 a_1 a_2 a_4 a_5 a_6 b_7 b_8 b_9 b_11 b_12 b_13).run) fun b1 =>
  ik ((f9 b1).run) fun _ =>
  ik (bT (dC a_4 b_11) 0) fun _ =>
  (kF).run)
theorem ld(a_0:Int)(a_1:Int)(a_2:Int)(v_3:Lv)(a_4:List Int)(a_5:Int)(a_6:Int)(b_7:Int)(b_8:Int)(b_9:Int)(v_10:Lv)(b_11:List Int)(b_12:Int)(b_13:Int){x:aC}(h:bJ a_0 a_1 a_2 a_4 a_5 a_6 b_7 b_8 b_9 b_11 b_12 b_13=some x) :ao prog eK [] [.agg [.int .i64 a_0,.int .i64 a_1,.int .i64 a_2,.imm v_3 (.ns .u64 a_4) 1 1 0 (List.length a_4),.int .i64 a_5,.int .u64 a_6],.agg [.int .i64 b_7,.int .i64 b_8,.int .i64 b_9,.imm v_10 (.ns .u64 b_11) 1 1 0 (List.length b_11),.int .i64 b_12,.int .u64 b_13]] (eL x) :=
  sm false eL dl h (Sg.cut 2 cQ (qO il (lb a_0 a_1 a_2 v_3 a_4 a_5 a_6 b_7 b_8 b_9 v_10 b_11 b_12 b_13) [⟨[],[0,16],[2,3,47]⟩,⟨[],[0,16],[2,3,47]⟩,⟨[],[0,16],[2,3,47]⟩,⟨[],[0,16],[2,3,47]⟩,⟨[],[0,16],[2,3,47]⟩,⟨[],[0,16],[2,3,47]⟩]) (fun b1=>Sg.cut 2 cQ (qO il (lc a_0 a_1 a_2 v_3 a_4 a_5 a_6 b_7 b_8 b_9 v_10 b_11 b_12 b_13) [⟨[],[],[4]⟩,⟨[],[0,1],[2,3,5]⟩]) (fun _=>Sg.cut 1 cQ (sH ⟨[],[0,1],[2,3,5]⟩ (cR a_0 a_1 a_2 v_3 a_4 a_5 a_6 b_7 b_8 b_9 v_10 b_11 b_12 b_13) (gd) 0 cQ (k8 _) (fun i2=>kD a_0 a_1 a_2 v_3 a_4 a_5 a_6 b_7 b_8 b_9 v_10 b_11 b_12 b_13 i2)) (fun _=>qO il rS [⟨[],[],[4]⟩]))))
    (fun x=>by cases x with | r0 b3=>exact rQ [.bool false b3])
def cS:Option aC→Bool
  | some _=>true
  | none=>false
def c6:Option aC→Bool
  | some (.r0 x)=>x
  | _=>false
theorem lf{x:Option aC}(h:cS x=true) :x=some (.r0 (c6 x)):=by
  unfold cS at h
  split at h<;>first | rfl | (cases h;done) | (rename_i y;cases y;rfl)
noncomputable def iq:cX:=lD eK (.cons (.agg (.cons (.int .i64) (.cons (.int .i64) (.cons (.int .i64) (.cons (.ns .u64) (.cons (.int .i64) (.cons (.int .u64) .nil))))))) (.cons (.agg (.cons (.int .i64) (.cons (.int .i64) (.cons (.int .i64) (.cons (.ns .u64) (.cons (.int .i64) (.cons (.int .u64) .nil))))))) .nil)) fun t=>(fun q=>[⟨eL (.r0 (c6 q)),[cS q]⟩]) (bJ t.1.1 t.1.2.1 t.1.2.2.1 t.1.2.2.2.1.2 t.1.2.2.2.2.1 t.1.2.2.2.2.2.1 t.2.1.1 t.2.1.2.1 t.2.1.2.2.1 t.2.1.2.2.2.1.2 t.2.1.2.2.2.2.1 t.2.1.2.2.2.2.2.1)
theorem jm:fN prog iq:=ig fun t=>(ii (fun h=>ld t.1.1 t.1.2.1 t.1.2.2.1 t.1.2.2.2.1.1 t.1.2.2.2.1.2 t.1.2.2.2.2.1 t.1.2.2.2.2.2.1 t.2.1.1 t.2.1.2.1 t.2.1.2.2.1 t.2.1.2.2.2.1.1 t.2.1.2.2.2.1.2 t.2.1.2.2.2.2.1 t.2.1.2.2.2.2.2.1 (lf h)) jD)
noncomputable def ir:List cX:=iq::sh
theorem bW:bB prog (bZ ir):=dS jm il
inductive aA where
  | r0 (b2:Bool)
def cu:aA→AE×ax
  | .r0 b2=>(.ret,⟨eg 26 [(4,.bool false b2)],[],0⟩)
theorem c7:pO cu:=by intro x;cases x<;>(intro h;cases h)
theorem jn(id:Nat) :pG id cu:=by intro x;cases x<;>(intro h;cases h)
def dD:aA→iJ
  | .r0 b2=>⟨.bool false b2,[]⟩
noncomputable def jo:List Code:=dG (qJ dA)
def jp(v_0:Lv)(s_1:List Int)(v_2:Lv)(s_3:List Int)(_:Unit) :ax:=⟨eg 26 [(0,.imm v_0 (.ns .u64 s_1) 1 1 0 (List.length s_1)),(1,.imm v_2 (.ns .u64 s_3) 1 1 0 (List.length s_3)),(12,.int .i64 (((List.length s_1):Nat):Int)),(13,.int .i64 (0:Int))],[],0⟩
def eR(s_1:List Int)(s_3:List Int) :T ((Unit)⊕(aA)) :=
  .ask ((((List.length s_1):Nat):Int) != (((List.length s_3):Nat):Int))
    (.leaf (.inr (.r0 false)))
    (.leaf (.inl ()))
def bX(v_0:Lv)(s_1:List Int)(v_2:Lv)(s_3:List Int)(a1:Nat) :ax:=⟨eg 26 [(0,.imm v_0 (.ns .u64 s_1) 1 1 0 (List.length s_1)),(1,.imm v_2 (.ns .u64 s_3) 1 1 0 (List.length s_3)),(12,.int .i64 (((List.length s_1):Nat):Int)),(13,.int .i64 ((a1:Nat):Int))],[],0⟩
def eS(_:Unit) :ax:=⟨eg 26 [],[],0⟩
noncomputable def jq:List Code:=dG (mv ((((jo.drop 4).take 1)).headD .skip))
def jr(s_1:List Int)(s_3:List Int)(a1:Nat) :T ((Nat)⊕((Unit)⊕(aA))) :=
  .ask (decide (((a1:Nat):Int)<(((List.length s_1):Nat):Int)))
    (.need (ow ((a1:Nat):Int) (List.length s_1))<|.need (eU a1 (List.length s_1))<|.need (ow ((a1:Nat):Int) (List.length s_3))<|.need (eU a1 (List.length s_3))<|.ask ((List.getD s_1 a1 0) != (List.getD s_3 a1 0))
      (.leaf (.inr (.inr (.r0 false))))
      (.need (qS .i64 (((a1+1):Nat):Int))<|.leaf (.inl (a1+1))))
    (.leaf (.inr (.inl ())))
noncomputable def cI(s_1:List Int)(s_3:List Int) :Nat→Option ((Nat)⊕((Unit)⊕(aA))):=fun a1 =>
  (jr s_1 s_3 a1).run
theorem iS(v_0:Lv)(s_1:List Int)(v_2:Lv)(s_3:List Int)(a1:Nat) :Sg prog [] jq (bX v_0 s_1 v_2 s_3 a1) (cI s_1 s_3 a1) (bX v_0 s_1 v_2 s_3) (f8 0 eS cu):=by
  unfold cI;exact qO bW (bX v_0 s_1 v_2 s_3) [⟨[],[],[4]⟩,⟨[],[],[0,1,12,13]⟩,⟨[],[],[]⟩]
def iT:T ((Empty)⊕(aA)) :=
  .leaf (.inr (.r0 true))
noncomputable def bg(s_1:List Int)(s_3:List Int) :Option aA:=ry (ik ((eR s_1 s_3).run) fun _ =>
  ik (bT (cI s_1 s_3) 0) fun _ =>
  (iT).run)
theorem js(v_0:Lv)(s_1:List Int)(v_2:Lv)(s_3:List Int){x:aA}(h:bg s_1 s_3=some x) :ao prog dA [] [.imm v_0 (.ns .u64 s_1) 1 1 0 (List.length s_1),.imm v_2 (.ns .u64 s_3) 1 1 0 (List.length s_3)] (dD x) :=
  sm false dD cu h (Sg.cut 4 c7 (qO bW (jp v_0 s_1 v_2 s_3) [⟨[],[],[4]⟩,⟨[],[],[0,1,12,13]⟩]) (fun _=>Sg.cut 1 c7 (sH ⟨[],[],[0,1,12,13]⟩ (bX v_0 s_1 v_2 s_3) (eS) 0 c7 (jn _) (fun a1=>iS v_0 s_1 v_2 s_3 a1)) (fun _=>qO bW rS [⟨[],[],[4]⟩])))
    (fun x=>by cases x with | r0 b2=>exact rQ [.bool false b2])
def bY:Option aA→Bool
  | some _=>true
  | none=>false
def cv:Option aA→Bool
  | some (.r0 x)=>x
  | _=>false
theorem jt{x:Option aA}(h:bY x=true) :x=some (.r0 (cv x)):=by
  unfold bY at h
  split at h<;>first | rfl | (cases h;done) | (rename_i y;cases y;rfl)
noncomputable def fp:cX:=lD dA (.cons (.ns .u64) (.cons (.ns .u64) .nil)) fun t=>(fun q=>[⟨dD (.r0 (cv q)),[bY q]⟩]) (bg t.1.2 t.2.1.2)
theorem iu:fN prog fp:=ig fun t=>(ii (fun h=>js t.1.1 t.1.2 t.2.1.1 t.2.1.2 (jt h)) jD)
noncomputable def fq:List cX:=fp::ir
theorem cw:bB prog (bZ fq):=dS iu bW
inductive aN where
  | r0 (b2:Bool)
def gg:aN→AE×ax
  | .r0 b2=>(.ret,⟨eg 45 [(4,.bool false b2)],[],0⟩)
theorem kG:pO gg:=by intro x;cases x<;>(intro h;cases h)
def d8:aN→iJ
  | .r0 b2=>⟨.bool false b2,[]⟩
def kH(b1:Bool) :ax:=⟨eg 45 [(4,.bool false b1)],[],0⟩
def fu(a_0:Int)(a_1:Int)(a_2:Int)(a_4:List Int)(a_5:Int)(a_6:Int)(b_7:Int)(b_8:Int)(b_9:Int)(b_11:List Int)(b_12:Int)(b_13:Int) :T ((Bool)⊕(aN)) :=
  .ask (a_0==b_7)
    (.ask (a_1==b_8)
      (.ask (a_2==b_9)
        (.ask (a_5==b_12)
          (.ask (a_6==b_13)
            (.need (di 0 (List.length a_4) a_4)<|.need (di 0 (List.length b_11) b_11)<|.need (bY (bg (bi 0 (List.length a_4) a_4) (bi 0 (List.length b_11) b_11)))<|.leaf (.inl (cv (bg (bi 0 (List.length a_4) a_4) (bi 0 (List.length b_11) b_11)))))
            (.leaf (.inl false)))
          (.leaf (.inl false)))
        (.leaf (.inl false)))
      (.leaf (.inl false)))
    (.leaf (.inl false))
def kI(b1:Bool) :T ((Empty)⊕(aN)) :=
  .leaf (.inr (.r0 b1))
noncomputable def bd(a_0:Int)(a_1:Int)(a_2:Int)(a_4:List Int)(a_5:Int)(a_6:Int)(b_7:Int)(b_8:Int)(b_9:Int)(b_11:List Int)(b_12:Int)(b_13:Int) :Option aN:=ry (ik ((fu a_0 a_1 a_2 a_4 a_5 a_6 b_7 b_8 b_9 b_11 b_12 b_13).run) fun b1 =>
  (kI b1).run)
theorem kJ(a_0:Int)(a_1:Int)(a_2:Int)(v_3:Lv)(a_4:List Int)(a_5:Int)(a_6:Int)(b_7:Int)(b_8:Int)(b_9:Int)(v_10:Lv)(b_11:List Int)(b_12:Int)(b_13:Int){x:aN}(h:bd a_0 a_1 a_2 a_4 a_5 a_6 b_7 b_8 b_9 b_11 b_12 b_13=some x) :ao prog f5 [] [.agg [.int .i64 a_0,.int .i64 a_1,.int .i64 a_2,.imm v_3 (.ns .u64 a_4) 1 1 0 (List.length a_4),.int .i64 a_5,.int .u64 a_6],.agg [.int .i64 b_7,.int .i64 b_8,.int .i64 b_9,.imm v_10 (.ns .u64 b_11) 1 1 0 (List.length b_11),.int .i64 b_12,.int .u64 b_13]] (d8 x) :=
  sm false d8 gg h (Sg.cut 2 kG (qO cw kH [⟨[],[],[4]⟩,⟨[],[],[4]⟩,⟨[],[],[4]⟩,⟨[],[],[4]⟩,⟨[],[],[4]⟩,⟨[],[],[4]⟩]) (fun b1=>qO cw rS [⟨[],[],[4]⟩]))
    (fun x=>by cases x with | r0 b2=>exact rQ [.bool false b2])
def bG:Option aN→Bool
  | some _=>true
  | none=>false
def bK:Option aN→Bool
  | some (.r0 x)=>x
  | _=>false
theorem kK{x:Option aN}(h:bG x=true) :x=some (.r0 (bK x)):=by
  unfold bG at h
  split at h<;>first | rfl | (cases h;done) | (rename_i y;cases y;rfl)
noncomputable def gh:cX:=lD f5 (.cons (.agg (.cons (.int .i64) (.cons (.int .i64) (.cons (.int .i64) (.cons (.ns .u64) (.cons (.int .i64) (.cons (.int .u64) .nil))))))) (.cons (.agg (.cons (.int .i64) (.cons (.int .i64) (.cons (.int .i64) (.cons (.ns .u64) (.cons (.int .i64) (.cons (.int .u64) .nil))))))) .nil)) fun t=>(fun q=>[⟨d8 (.r0 (bK q)),[bG q]⟩]) (bd t.1.1 t.1.2.1 t.1.2.2.1 t.1.2.2.2.1.2 t.1.2.2.2.2.1 t.1.2.2.2.2.2.1 t.2.1.1 t.2.1.2.1 t.2.1.2.2.1 t.2.1.2.2.2.1.2 t.2.1.2.2.2.2.1 t.2.1.2.2.2.2.2.1)
theorem iU:fN prog gh:=ig fun t=>(ii (fun h=>kJ t.1.1 t.1.2.1 t.1.2.2.1 t.1.2.2.2.1.1 t.1.2.2.2.1.2 t.1.2.2.2.2.1 t.1.2.2.2.2.2.1 t.2.1.1 t.2.1.2.1 t.2.1.2.2.1 t.2.1.2.2.2.1.1 t.2.1.2.2.2.1.2 t.2.1.2.2.2.2.1 t.2.1.2.2.2.2.2.1 (kK h)) jD)
noncomputable def gi:List cX:=gh::fq
theorem cJ:bB prog (bZ gi):=dS iU cw
inductive aq where
  | r0 (b2:Bool)
def dE:aq→AE×ax
  | .r0 b2=>(.ret,⟨eg 28 [(4,.bool false b2)],[],0⟩)
theorem fQ:pO dE:=by intro x;cases x<;>(intro h;cases h)
def b7:aq→iJ
  | .r0 b2=>⟨.bool false b2,[]⟩
def fR(b1:Bool) :ax:=⟨eg 28 [(4,.bool false b1)],[],0⟩
def c9(a_0:Int)(a_1:Int)(a_2:Int)(a_4:List Int)(a_5:Int)(a_6:Int)(b_7:Int)(b_8:Int)(b_9:Int)(b_11:List Int)(b_12:Int)(b_13:Int) :T ((Bool)⊕(aq)) :=
  .ask (decide ((((List.length a_4):Nat):Int)>(200:Int)))
    (.leaf (.inl true))
    (.ask (decide ((((List.length b_11):Nat):Int)>(200:Int)))
      (.leaf (.inl true))
      (.need (di 0 (List.length a_4) a_4)<|.need (di 0 (List.length b_11) b_11)<|.need (bG (bd a_0 a_1 a_2 (bi 0 (List.length a_4) a_4) a_5 a_6 b_7 b_8 b_9 (bi 0 (List.length b_11) b_11) b_12 b_13))<|.need (di 0 (List.length a_4) a_4)<|.need (di 0 (List.length b_11) b_11)<|.need (cS (bJ a_0 a_1 a_2 (bi 0 (List.length a_4) a_4) a_5 a_6 b_7 b_8 b_9 (bi 0 (List.length b_11) b_11) b_12 b_13))<|.ask ((bK (bd a_0 a_1 a_2 (bi 0 (List.length a_4) a_4) a_5 a_6 b_7 b_8 b_9 (bi 0 (List.length b_11) b_11) b_12 b_13))==(c6 (bJ a_0 a_1 a_2 (bi 0 (List.length a_4) a_4) a_5 a_6 b_7 b_8 b_9 (bi 0 (List.length b_11) b_11) b_12 b_13)))
        (.need (di 0 (List.length a_4) a_4)<|.need (di 0 (List.length a_4) a_4)<|.need (bG (bd a_0 a_1 a_2 (bi 0 (List.length a_4) a_4) a_5 a_6 a_0 a_1 a_2 (bi 0 (List.length a_4) a_4) a_5 a_6))<|.ask (bK (bd a_0 a_1 a_2 (bi 0 (List.length a_4) a_4) a_5 a_6 a_0 a_1 a_2 (bi 0 (List.length a_4) a_4) a_5 a_6))
          (.leaf (.inl true))
          (.leaf (.inl false)))
        (.leaf (.inl false))))
def fS(b1:Bool) :T ((Empty)⊕(aq)) :=
  .leaf (.inr (.r0 b1))
noncomputable def b8(a_0:Int)(a_1:Int)(a_2:Int)(a_4:List Int)(a_5:Int)(a_6:Int)(b_7:Int)(b_8:Int)(b_9:Int)(b_11:List Int)(b_12:Int)(b_13:Int) :Option aq:=ry (ik ((c9 a_0 a_1 a_2 a_4 a_5 a_6 b_7 b_8 b_9 b_11 b_12 b_13).run) fun b1 =>
  (fS b1).run)
theorem da(a_0:Int)(a_1:Int)(a_2:Int)(v_3:Lv)(a_4:List Int)(a_5:Int)(a_6:Int)(b_7:Int)(b_8:Int)(b_9:Int)(v_10:Lv)(b_11:List Int)(b_12:Int)(b_13:Int){x:aq}(h:b8 a_0 a_1 a_2 a_4 a_5 a_6 b_7 b_8 b_9 b_11 b_12 b_13=some x) :ao prog dz [] [.agg [.int .i64 a_0,.int .i64 a_1,.int .i64 a_2,.imm v_3 (.ns .u64 a_4) 1 1 0 (List.length a_4),.int .i64 a_5,.int .u64 a_6],.agg [.int .i64 b_7,.int .i64 b_8,.int .i64 b_9,.imm v_10 (.ns .u64 b_11) 1 1 0 (List.length b_11),.int .i64 b_12,.int .u64 b_13]] (b7 x) :=
  sm false b7 dE h (Sg.cut 2 fQ (qO cJ fR [⟨[],[],[4]⟩,⟨[],[],[4]⟩,⟨[],[],[4]⟩,⟨[],[],[4]⟩,⟨[],[],[4]⟩]) (fun b1=>qO cJ rS [⟨[],[],[4]⟩]))
    (fun x=>by cases x with | r0 b2=>exact rQ [.bool false b2])
def bN:Option aq→Bool
  | some _=>true
  | none=>false
def cy:Option aq→Bool
  | some (.r0 x)=>x
  | _=>false
theorem fT{x:Option aq}(h:bN x=true) :x=some (.r0 (cy x)):=by
  unfold bN at h
  split at h<;>first | rfl | (cases h;done) | (rename_i y;cases y;rfl)
noncomputable def dF:cX:=lD dz (.cons (.agg (.cons (.int .i64) (.cons (.int .i64) (.cons (.int .i64) (.cons (.ns .u64) (.cons (.int .i64) (.cons (.int .u64) .nil))))))) (.cons (.agg (.cons (.int .i64) (.cons (.int .i64) (.cons (.int .i64) (.cons (.ns .u64) (.cons (.int .i64) (.cons (.int .u64) .nil))))))) .nil)) fun t=>(fun q=>[⟨b7 (.r0 (cy q)),[bN q]⟩]) (b8 t.1.1 t.1.2.1 t.1.2.2.1 t.1.2.2.2.1.2 t.1.2.2.2.2.1 t.1.2.2.2.2.2.1 t.2.1.1 t.2.1.2.1 t.2.1.2.2.1 t.2.1.2.2.2.1.2 t.2.1.2.2.2.2.1 t.2.1.2.2.2.2.2.1)
theorem eV:fN prog dF:=ig fun t=>(ii (fun h=>da t.1.1 t.1.2.1 t.1.2.2.1 t.1.2.2.2.1.1 t.1.2.2.2.1.2 t.1.2.2.2.2.1 t.1.2.2.2.2.2.1 t.2.1.1 t.2.1.2.1 t.2.1.2.2.1 t.2.1.2.2.2.1.1 t.2.1.2.2.2.1.2 t.2.1.2.2.2.2.1 t.2.1.2.2.2.2.2.1 (fT h)) jD)
noncomputable def gG:List cX:=dF::gi
theorem mA:bB prog (bZ gG):=dS eV cJ
end
end Go.Plb.Seat
