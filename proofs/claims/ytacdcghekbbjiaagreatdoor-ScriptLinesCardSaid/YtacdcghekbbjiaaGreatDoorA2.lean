/-
  Part 2 of what the claim leans on: an evaluator of the model, proved sound; the contracts of the functions.
-/
import Derived.Laws.BytesString
import GoSem.Instr.Lookup
import GoSem.Extern.MathSqrt
import GoSem.Extern.MathFloatBits
import GoSem.Extern.MathBitsCarry
import GoSem.Extern.BytealgIndexByte
import GoSem.Extern.BytealgCount
import Derived.LoopN
import Derived.Scope
import Derived.Laws.Externs
import Derived.WalkKit
import Derived.ProofKit
import Derived.OpenShut
import Derived.Deep.Slices
import Derived.Test.YtacdcghekbbjiaaGreatDoorChecked
import Derived.KernelRfl
import Derived.Test.YtacdcghekbbjiaaGreatDoorRows
import Derived.LaidLaws
import Derived.LaidHandle
import Derived.Lib.LaidTab
import Derived.Stop.LaidErr
import Derived.JoinedOf
import Derived.Below
import Derived.WalkSpells
import Derived.Maps.RangeRun
import Derived.Maps.RangeWalk
import Derived.Maps.OwnIn
import Derived.Shelf.Strings.OnBuilder
import Derived.Shelf.Strings.BuilderF
import Derived.Shelf.Strings.BuilderK
import Derived.Shelf.Strconv.Itoa3
import Derived.Shelf.Strconv.AtoiAll
import Derived.Shelf.Strings.Search2
import Derived.Shelf.Strings.Search3
import Derived.Test.YtacdcghekbbjiaaGreatDoorProg
import Derived.Test.YtacdcghekbbjiaaGreatDoorA1
namespace Go.Plb
set_option linter.unusedSimpArgs false
set_option linter.unusedVariables false
set_option linter.unusedSectionVars false
variable [Rom]
def su(l:List Int) :ByteArray:=l.foldl (fun r n=>r.push (UInt8.ofNat n.toNat)) ByteArray.empty
def GT(P:Program)(g:Nat→Option aj)(s d:TypeId)(x:AV) :Option (ByteArray×List Bool×List Nat) :=
  match P.underlying s,P.underlying d with
  | some (.slice e),some .string =>
    match P.underlying e,DM g x with
    | some (.int .u8),some (m,es,.ns k ys,obs,rs)=>bif Nat.beq es 1&&bu k .u8 then some (su ys,obs,rs) else none
    | _,_=>none
  | _,_=>none
theorem E7{P:Program}{ρ:ae}{w:World}{h:aK}{n:Nat}(hh:HR ρ w h n){s d:TypeId}{x:AV}{x':Value}(hx:VR ρ w x x'){t:ByteArray}{obs:List Bool}{rs:List Nat} 
    (hc:GT P (aw h) s d x=some (t,obs,rs)) (ho:ak obs):(convert s d x').run P w=.ok (.string t) w:=by
  unfold GT at hc
  split at hc
  case h_2=>cases hc
  rename_i e hs hd
  split at hc
  case h_2=>cases hc
  rename_i m es k ys obs' rs' he hsrc
  cases h1:Nat.beq es 1&&bu k .u8 with
  | false=>rw [h1] at hc;cases hc
  | true =>
  rw [h1] at hc
  simp only [Bool.and_eq_true] at h1
  have hes:=Nat.eq_of_beq_eq_true h1.1
  have hk:k=.u8:=by simpa [bu] using h1.2
  subst hes hk
  simp only [cond_true,Option.some.injEq,Prod.mk.injEq] at hc
  obtain ⟨rfl,rfl,rfl⟩:=hc
  have hS:=yT hh hx hsrc ho
  obtain ⟨a,c,rfl,hv⟩:=hS.val
  have hlen:ys.length=m:=by
    have:=hS.count
    rw [Nat.mul_one] at this
    exact this
  rw [run_convert_bytes_string w s d e a m c hs he hd]
  rcases hv with h0 | ⟨bl,o,rfl,news,hnl,hnews,hone,hrel⟩
  · subst h0
    have hy:ys=[]:=List.length_eq_zero_iff.1 hlen
    subst hy
    cases a with
    | none=>rfl
    | some a=>exact run_bytesToString w a 0 c [] (by simp [loadCells,loadCellsFrom])
  · have hnews':news=ys.map (Value.int .u8):=by
      refine List.ext_getElem? fun j=>?_
      rw [List.getElem?_map]
      cases hj:ys[j]? with
      | none =>
        rw [List.getElem?_eq_none_iff] at hj
        rw [List.getElem?_eq_none (by omega)];rfl
      | some z =>
        obtain ⟨u,q1,q2⟩:=hrel j (.int .u8 z) (by show (ys[j]?).map _=_;rw [hj];rfl)
        rw [q1]
        cases q2
        rfl
    subst hnews'
    refine run_bytesToString w ⟨bl,o,none⟩ m c ys ?_
    have hf:=run_firstCells_some (P:=P) w 1 m ⟨bl,o,none⟩ m c (ys.map (Value.int .u8)) (by rw [hnl]) hnews
    simpa [Builtin.firstCells] using hf
def wi(P:Program)(g:Nat→Option aj)(t:TypeId)(x:AV)(lo hi:Option AV) :Option (AV×List Bool×List Nat) :=
  match P.underlying t,x with
  | some (.array n e),.ptr b 1 0 0 =>
    match g b,P.info? e,vV hi n,vV lo 0 with
    | some (.ns k xs),some ie,some h,some l =>
      bif Nat.beq ie.size 1 then some (.sl b 1 1 l.toNat (h.toNat-l.toNat) (n-l.toNat),[lW h n,lW l h.toNat,gK n xs.length],[b]) else none
    | _,_,_,_=>none
  | _,_=>none
theorem Cw{P:Program}{ρ:ae}{w:World}{hp:aK}{m:Nat}(hh:HR ρ w hp m){e:Operand→AV}{g:Operand→Value}(hops:∀ x,VR ρ w (e x) (g x)){t:TypeId}{x:AV}{x':Value}{lo hi:Option Operand}{v:AV}{obs:List Bool}{rs:List Nat} 
    (hx:VR ρ w x x') (h:wi P (aw hp) t x (lo.map e) (hi.map e)=some (v,obs,rs)) (ho:ak obs):dK P ρ w (Instr.sliceAt t x' (lo.map g) (hi.map g) none) v:=by
  unfold wi at h
  split at h
  case h_2=>cases h
  rename_i n el b hu
  split at h
  case h_2=>cases h
  rename_i k xs ie hh' ll hg hi' e1 e2
  cases hb1:Nat.beq ie.size 1 with
  | false=>rw [hb1] at h;cases h
  | true =>
  rw [hb1] at h
  simp only [cond_true,Option.some.injEq,Prod.mk.injEq] at h
  obtain ⟨rfl,rfl,rfl⟩:=h
  have hsz:ie.size=1:=Nat.eq_of_beq_eq_true hb1
  have b1:=dv ho.1
  have b2:=dv ho.2.1
  have b3:n≤xs.length:=by have:=ho.2.2.1;unfold gK at this;exact of_decide_eq_true this
  have hce:P.cellsOf el=1:=by simp [Program.cellsOf,hi',hsz]
  cases hx with
  | ptr _ _ _ _ hbo =>
  obtain ⟨hl,hr,c,ty,hc,hcv⟩:=hh.real hg hbo
  have hn:n≤c.size:=by
    rcases Nat.eq_zero_or_pos n with z | z
    · omega
    · have hlt:n-1<xs.length:=by omega
      obtain ⟨u,q,_⟩:=hcv (n-1) (.int k (xs[n-1]'hlt)) (by show (xs[n-1]?).map _=_;rw [List.getElem?_eq_getElem hlt];rfl)
      have:=(Array.getElem?_eq_some_iff.1 q).1
      omega
  have run:=ew (P:=P) (w:=w) false n n (lo.map g) (hi.map g) ll hh' (jh hops e2) (jh hops e1) b1 ⟨b2.1,by omega⟩
  have run2:(Instr.sliceAt t (.pointer (some ⟨ρ.at_ b,0*1+0,none⟩)) (lo.map g) (hi.map g) none).run P w=.ok (.slice (some (if n=ll.toNat then ⟨ρ.at_ b,0*1+0,none⟩ else (Addr.add ⟨ρ.at_ b,0*1+0,none⟩ (ll.toNat*P.cellsOf el)))) (hh'.toNat-ll.toNat) (n-ll.toNat)) w:=by
    simp only [Instr.sliceAt,Sem.run_bind,run_underlying hu,Result.andThen]
    simp [Instr.sureAddr,run,run_sizeOf w hi',hce,hsz,Sem.run_bind,Result.andThen,Sem.run_pure,Go.asAddr]
  refine .plain run2 ?_
  by_cases q:n=ll.toNat
  · rw [if_pos q]
    have z1:hh'.toNat-ll.toNat=0:=by omega
    have z2:n-ll.toNat=0:=by omega
    rw [z1,z2]
    exact .slEnd _ _ _ _ _
  · rw [if_neg q,fq,hce]
    have:0*1+0+ll.toNat*1=ll.toNat*1:=by omega
    rw [this]
    exact .sl _ _ _ _ _ _ _ hbo (Nat.le_refl _) (by omega) c ty hc (by omega)
theorem Cx{P:Program}{g g':Nat→Option aj}{t:TypeId}{x:AV}{lo hi:Option AV}{r:AV×List Bool×List Nat}(h:wi P g t x lo hi=some r)(hg:∀ b∈r.2.2,g' b=g b) :wi P g' t x lo hi=some r:=by
  unfold wi at h ⊢
  split at h
  case h_2=>cases h
  rename_i n el b hu
  split at h
  case h_2=>cases h
  rename_i k xs ie hh' ll hgb hi' e1 e2
  cases hb1:Nat.beq ie.size 1 with
  | false=>rw [hb1] at h;cases h
  | true =>
  rw [hb1] at h
  simp only [cond_true,Option.some.injEq] at h
  subst h
  have:g' b=some (.ns k xs):=by rw [hg b (by simp)];exact hgb
  simp only [this,hi',e1,e2,hb1,cond_true]
def cd.like:cd→cd→Bool
  | .i k _,.i k' _=>bu k k'
  | .s _,.s _=>true
  | _,_=>false
def cd.same:cd→cd→Bool
  | .i _ n,.i _ m=>n==m
  | .s a,.s b=>decide (a=b)
  | _,_=>false
def cd.fits:TypeDesc→cd→Bool
  | .int _,.i ..=>true
  | .string,.s _=>true
  | _,_=>false
def uI(k:cd) :List cd→Bool
  | []=>true
  | q::l=>k.like q&&uI k l
def za:List cd→Bool
  | []=>true
  | q::l=>(l.all fun r=>!q.same r)&&za l
def J4:AV→Option cd
  | .int k n=>some (.i k n)
  | .str s=>some (.s s)
  | _=>none
def HO:Value→AV
  | .agg c=>.agg (c.toList.map ca)
  | v=>ca v
def La(cok:Bool)(v:AV)(b:Bool) :AV:=bif cok then .tup [v,.bool true b] else v
def uJ(cok:Bool)(k:cd) :List cd→List AV→List ma
  | q::ks,v::vs=>⟨La cok v true,[],[k.same q]⟩::uJ cok k ks vs
  | _,_=>[]
def Cy(P:Program)(t:TypeId)(x k:AV)(cok:Bool) :List ma :=
  match P.underlying t,x,J4 k with
  | some (.map kt et),.gmap ks vs,some key =>
    match P.underlying kt,(P.info? et).bind (·.zero) with
    | some d,some z=>bif key.fits d&&uI key ks&&za ks then uJ cok key ks vs++[⟨La cok (HO z) false,[],ks.map fun q=>!key.same q⟩] else []
    | _,_=>[]
  | _,_,_=>[]
theorem jF{k:cd} :∀ {l:List cd},uI k l=true→∀ q∈l,k.like q=true
  | [],_,q,h=>by cases h
  | r::l,h,q,hq=>by
    simp only [uI,Bool.and_eq_true] at h
    rcases List.mem_cons.1 hq with rfl | hq
    · exact h.1
    · exact jF h.2 q hq
theorem DT(ρ:ae)(w:World)(v:Value) :VR ρ w (HO v) v:=by
  unfold HO
  split
  · exact .agg _ _ (oD ρ w _)
  · exact kx ρ w v
theorem HP{ρ:ae}{w:World}{k:AV}{k':Value}{key:cd}(h:VR ρ w k k')(hk:J4 k=some key) :k'=key.val:=by
  unfold J4 at hk
  split at hk
  · cases hk;cases h;rfl
  · cases hk;cases h;rfl
  · cases hk
theorem ol{k q:cd}(h:k.like q=true) :k.same q=true↔q.val=k.val:=by
  cases k with
  | i k n =>
    cases q with
    | i k' m =>
      have:k=k':=by simpa [cd.like,bu] using h
      subst this
      simp only [cd.same,cd.val,beq_iff_eq,Value.int.injEq,true_and]
      exact ⟨fun e=>e.symm,fun e=>e.symm⟩
    | s b=>cases h
  | s a =>
    cases q with
    | i k' m=>cases h
    | s b =>
      simp only [cd.same,cd.val,decide_eq_true_eq,Value.string.injEq]
      exact ⟨fun e=>e.symm,fun e=>e.symm⟩
theorem J5(a b:ByteArray) :(a==b)=decide (a=b):=by
  have e:(a==b)=(a.data==b.data):=rfl
  rw [e]
  by_cases h:a=b
  · subst h;simp
  · rw [decide_eq_false h]
    have:a.data≠b.data:=fun c=>h (by cases a;cases b;simp at c;subst c;rfl)
    simpa using this
theorem I6{d:TypeDesc}{k q:cd}(hf:k.fits d=true)(h:k.like q=true) :Instr.sameNow d k.val q.val=some (k.same q):=by
  cases k with
  | i k n =>
    cases q with
    | i k' m =>
      have:k=k':=by simpa [cd.like,bu] using h
      subst this
      cases d<;>first | (cases hf;done) | simp [cd.val,Instr.sameNow,cd.same]
    | s b=>cases h
  | s a =>
    cases q with
    | i k' m=>cases h
    | s b =>
      cases d<;>first | (cases hf;done) | (simp only [cd.val,Instr.sameNow,cd.same,J5])
theorem oM{d:TypeDesc}{key:cd}(hf:key.fits d=true) :∀ (es:List MapEntry) (i:Nat),(∀ e∈es,∃ q:cd,key.like q=true∧e.key=q.val) →
    (Instr.findNow d key.val es i=some none∧∀ e∈es,e.key≠key.val)∨∃ j e,e∈es∧e.key=key.val∧Instr.findNow d key.val es i=some (some (j,e.val))
  | [],i,_=>.inl ⟨rfl,fun e h=>by cases h⟩
  | e::es,i,h=>by
    obtain ⟨q,hq,he⟩:=h e (by simp)
    have hn:Instr.sameNow d key.val e.key=some (key.same q):=by rw [he];exact I6 hf hq
    cases hs:key.same q with
    | true =>
      refine .inr ⟨i,e,by simp,by rw [he];exact (ol hq).1 hs,?_⟩
      simp only [Instr.findNow,hn,hs]
    | false =>
      have hne:e.key≠key.val:=by rw [he];intro c;rw [(ol hq).2 c] at hs;cases hs
      rcases oM hf es (i+1) (fun e he=>h e (by simp [he])) with ⟨q1,q2⟩ | ⟨j,e',q1,q2,q3⟩
      · refine .inl ⟨by simp only [Instr.findNow,hn,hs];exact q1,fun e' he'=>?_⟩
        rcases List.mem_cons.1 he' with rfl | he'
        · exact hne
        · exact q2 e' he'
      · exact .inr ⟨j,e',by simp [q1],q2,by simp only [Instr.findNow,hn,hs];exact q3⟩
theorem wj{P:Program}{w:World}{kt:TypeId}{d:TypeDesc}(hu:P.underlying kt=some d){key:cd}(hf:key.fits d=true)(b:Bool)(n:Nat) :(Instr.checkKey b (n+1) kt key.val).run P w=.ok () w:=by
  unfold Instr.checkKey
  rw [Sem.run_bind,run_underlying hu]
  cases key<;>cases d<;>first | (cases hf;done) | rfl
theorem oO{cok:Bool}{k:cd} :∀ {ks:List cd} {vs:List AV} {r:ma},r∈uJ cok k ks vs→∃ (i:Nat) (q:cd) (v:AV),ks[i]? = some q∧vs[i]? = some v∧r=⟨La cok v true,[],[k.same q]⟩
  | q::ks,v::vs,r,h=>by
    simp only [uJ,List.mem_cons] at h
    rcases h with rfl | h
    · exact ⟨0,q,v,rfl,rfl,rfl⟩
    · obtain ⟨i,q',v',h1,h2,h3⟩:=oO h
      exact ⟨i+1,q',v',by simpa using h1,by simpa using h2,h3⟩
  | [],_,r,h=>by cases h
  | _::_,[],r,h=>by cases h
theorem tm:∀ {l:List cd},za l=true→∀ {i j:Nat} {q r:cd},l[i]? = some q→l[j]? = some r→i<j→q.same r=false
  | [],_,i,j,q,r,h1,_,_=>by simp at h1
  | x::l,hn,i,j,q,r,h1,h2,hlt=>by
    simp only [za,Bool.and_eq_true,List.all_eq_true,Bool.not_eq_true'] at hn
    cases j with
    | zero=>omega
    | succ j =>
      cases i with
      | zero =>
        simp at h1 h2;subst h1
        exact hn.1 r (List.mem_of_getElem? h2)
      | succ i=>exact tm hn.2 (i:=i) (j:=j) (by simpa using h1) (by simpa using h2) (by omega)
theorem zb{P:Program}{w:World}{t kt et:TypeId}{d:TypeDesc}(ht:P.underlying t=some (.map kt et))(hd:P.underlying kt=some d){bl cl:Nat}{es:Array MapEntry}(hh:w.heap[bl]? = some (.map es cl)){key:cd}(hf:key.fits d=true) 
    {r:Option (Nat×Value)} (hr:Instr.findNow d key.val es.toList 0=some r) {z:Value} (hz:(zeroValue et).run P w=.ok z w) (cok:Bool) :
    (Instr.lookup t (.map (some bl)) key.val cok).run P w=.ok (if cok then .tuple #[(r.map Prod.snd).getD z,.bool r.isSome] else (r.map Prod.snd).getD z) w:=by
  unfold Instr.lookup
  simp only [Sem.run_bind,run_underlying ht,Result.andThen_ok]
  have hg:(getObj bl).run P w=.ok (.map es cl) w:=by simp [getObj,Sem.run,hh]
  simp only [Sem.run_bind,hg,Result.andThen_ok,Sem.run_pure,wj hd hf]
  have hfk:(Instr.findKey kt key.val es.toList).run P w=.ok r w:=by
    unfold Instr.findKey
    simp only [Sem.run_bind,run_underlying hd,Result.andThen_ok,hr]
    rfl
  simp only [hfk,Result.andThen_ok]
  cases r with
  | none=>simp only [Sem.run_bind,hz,Result.andThen_ok,Sem.run_pure];cases cok<;>rfl
  | some p=>obtain ⟨j,v⟩:=p;simp only [Sem.run_bind,Result.andThen_ok,Sem.run_pure];cases cok<;>rfl
theorem AY{P:Program}{ρ:ae}{w:World}{t:TypeId}{x k:AV}{x' k':Value}{cok:Bool}{r:ma}(hx:VR ρ w x x')(hk:VR ρ w k k')(h:r∈Cy P t x k cok)(ho:ak r.obs) :
    dK P ρ w (Instr.lookup t x' k' cok) r.v:=by
  unfold Cy at h
  split at h
  case h_2=>cases h
  rename_i kt et ks vs key ht hkey
  split at h
  case h_2=>cases h
  rename_i d z hd hz
  cases hb:key.fits d&&uI key ks&&za ks with
  | false=>rw [hb] at h;cases h
  | true =>
  rw [hb] at h
  simp only [cond_true,List.mem_append,List.mem_singleton] at h
  simp only [Bool.and_eq_true] at hb
  obtain ⟨⟨hf,hl⟩,hn⟩:=hb
  have hkv:=HP hk hkey
  subst hkv
  cases hx with | gmap _ _ bl es cl u ha hb' hh hin hex hv hlen hkept =>
  simp only [Option.bind_eq_some_iff] at hz
  obtain ⟨inf,hi,hz⟩:=hz
  have hzv:(zeroValue et).run P w=.ok z w:=by simp [zeroValue,typeInfo,hi,hz]
  have hes:∀ e∈es.toList,∃ q:cd,key.like q=true∧e.key=q.val:=fun e he=>by
    obtain ⟨i,q,h1,h2,_⟩:=hin e he
    exact ⟨q,jF hl q (List.mem_of_getElem? h1),h2⟩
  rcases oM hf es.toList 0 hes with ⟨q1,q2⟩ | ⟨j,e,q1,q2,q3⟩
  · have run:=zb ht hd hh hf q1 hzv cok
    rcases h with h | rfl
    · obtain ⟨i,q,v,h1,h2,rfl⟩:=oO h
      obtain ⟨e,he,h3,_⟩:=hex i q h1
      exact absurd (h3.trans ((ol (jF hl q (List.mem_of_getElem? h1))).1 ho.1)) (q2 e he)
    · refine .plain run ?_
      cases cok
      · exact DT ρ w z
      · exact .tup _ #[_,_] (.cons _ _ _ _ (DT ρ w z) (.cons _ _ _ _ (.bool _ _) .nil))
  · have run:=zb ht hd hh hf q3 hzv cok
    obtain ⟨i,q,h1,h2,h3⟩:=hin e q1
    have hsame:key.same q=true:=(ol (jF hl q (List.mem_of_getElem? h1))).2 (h2.symm.trans q2)
    rcases h with h | rfl
    · obtain ⟨i',q',v,k1,k2,rfl⟩:=oO h
      have hij:i=i':=by
        have l1:=jF hl q (List.mem_of_getElem? h1)
        have l2:=jF hl q' (List.mem_of_getElem? k1)
        have e1:=(ol l1).1 hsame
        have e2:=(ol l2).1 ho.1
        have lk:∀ {a b:cd},key.like a=true→key.like b=true→a.val=b.val→a.same b=true:=by
          intro a b ha hb e
          cases key<;>cases a<;>cases b<;>simp_all [cd.like,cd.same,cd.val]
        rcases Nat.lt_trichotomy i i' with c | c | c
        · have:=tm hn h1 k1 c
          rw [lk l1 l2 (e1.trans e2.symm)] at this;cases this
        · exact c
        · have:=tm hn k1 h1 c
          rw [lk l2 l1 (e2.trans e1.symm)] at this;cases this
      subst hij
      refine .plain run ?_
      have hvr:VR ρ w v e.val:=by rw [h3];exact hv i v k2
      cases cok
      · exact hvr
      · exact .tup _ #[_,_] (.cons _ _ _ _ hvr (.cons _ _ _ _ (.bool _ _) .nil))
    · exfalso
      have:∀ (l:List cd),ak (l.map fun q=>!key.same q)→∀ q∈l,key.same q=false:=by
        intro l
        induction l with
        | nil=>intro _ q hq;cases hq
        | cons a l ih =>
          intro h q hq
          simp only [List.map_cons,ak,Bool.not_eq_true'] at h
          rcases List.mem_cons.1 hq with rfl | hq
          · exact h.1
          · exact ih h.2 q hq
      have:=this ks ho q (List.mem_of_getElem? h1)
      rw [hsame] at this;cases this
inductive xT where
  | sqrt | bits | frombits | add64 | sub64 | idxb | cntb
def I7(s:ByteArray)(c:Int) :Int:=match (List.range s.size).find? fun i=>s[i]! == c.toNat.toUInt8 with
  | some i=>(i:Int)
  | none=>-1
def I8(s:ByteArray)(c:Int) :Int:=s.foldl (fun n x=>if x==c.toNat.toUInt8 then n+1 else n) (0:Int)
def qs:xT→Array Value→Sem Value
  | .sqrt=>Extern.MathSqrt.sqrt
  | .bits=>Extern.MathFloatBits.float64bits
  | .frombits=>Extern.MathFloatBits.float64frombits
  | .add64=>fun args=>do
    let (x, y, c) ← Extern.MathBitsCarry.three "Add64" args
    pure (Extern.MathBitsCarry.pair ((x+y+c)%Extern.MathBitsCarry.m64) ((x+y+c)/Extern.MathBitsCarry.m64))
  | .sub64=>fun args=>do
    let (x, y, b) ← Extern.MathBitsCarry.three "Sub64" args
    pure (Extern.MathBitsCarry.pair ((x+Extern.MathBitsCarry.m64-y-b)%Extern.MathBitsCarry.m64) (if x<y+b then 1 else 0))
  | .idxb=>Extern.BytealgIndexByte.indexByte
  | .cntb=>Extern.BytealgCount.count
def J6(k:xT)(args:List AV) :List ma :=
  match k,args with
  | .sqrt,[.flt _ x]=>[⟨.flt false (Hy x),[],[]⟩]
  | .bits,[.flt true x]=>[⟨.int .u64 x,[],[]⟩]
  | .bits,[.flt false x]=>[⟨.int .u64 x,[],[!isNaN x]⟩,⟨.nan,[],[isNaN x]⟩]
  | .frombits,[.int .u64 n]=>[⟨.flt true n.toNat,[],[]⟩]
  | .add64,[.int _ x,.int _ y,.int _ c]=>[⟨.tup [.int .u64 (((x.toNat+y.toNat+c.toNat)%18446744073709551616:Nat):Int),.int .u64 (((x.toNat+y.toNat+c.toNat)/18446744073709551616:Nat):Int)],[],[gK c.toNat 1]⟩]
  | .sub64,[.int _ x,.int _ y,.int _ c]=>[⟨.tup [.int .u64 (((x.toNat+18446744073709551616-y.toNat-c.toNat)%18446744073709551616:Nat):Int),.int .u64 (bif Nat.blt x.toNat (y.toNat+c.toNat) then 1 else 0)],[],[gK c.toNat 1]⟩]
  | .idxb,[.str s,.int .u8 c]=>[⟨.int .i64 (I7 s c),[],[]⟩]
  | .cntb,[.str s,.int .u8 c]=>[⟨.int .i64 (I8 s c),[],[]⟩]
  | _,_=>[]
abbrev cZ:=Option (List Nat)
structure HQ where
  mask:List Bool
  keep:Bool
abbrev cO:=FuncId→List aj→List AV→cZ→Option (mb×List Bool×cZ)
structure tn where
  P:Program
  ext:FuncId→Option xT
  mode:FuncId→HQ
  wrap:Bool
structure tn.Ok (C:tn):Prop where
  mixed:C.P.follows .mixedOrders=true
  enter:∀ (f:FuncId) (fn:Func) (args:Array Value) (w:World),C.P.funcs[f]? = some fn→fn.body.isSome=true→(callFunc f args).run C.P w=.ok (.enter f args) w
  ext:∀ (f:FuncId) (k:xT) (args:Array Value) (w:World),C.ext f=some k→(callFunc f args).run C.P w=(do pure (Next.value (←qs k args)):Sem Next).run C.P w
def zc(P:Program)(run:cO) :Prop :=
  ∀ f lent args p r obs p',run f lent args p=some (r,obs,p')→ak obs→∀ (ρ:ae) (w:World) (us:List Value),cy ρ w lent→bG ρ w args us →
    (∃ fn,P.funcs[f]? = some fn∧fn.body.isSome=true)∧Calls P f us.toArray w fun e w'=>∃ u,e=.returned u∧dU ρ.live w w'∧r.Holds ρ w w' lent.length u
structure KA where
  v:AV
  sets:List (Nat×Option aj)
  reads:List Nat
  obs:List Bool
  path:cZ
def GU:List Bool→Bool
  | []=>true
  | b::l=>b&&GU l
theorem BJ:∀ {l:List Bool},GU l=true→ak l
  | [],_=>trivial
  | b::l,h=>by simp only [GU,Bool.and_eq_true] at h;exact ⟨h.1,BJ h.2⟩
def rv(alts:List ma)(p:cZ) :Option (ma×cZ) :=
  match alts,p with
  | [a],p=>some (a,p)
  | alts,none=>(alts.find? fun a=>GU a.obs).map fun a=>(a,none)
  | alts,some (k::r)=>(alts[k]?).map fun a=>(a,some r)
  | _,_=>none
theorem nf{alts:List ma}{p p':cZ}{a:ma}(h:rv alts p=some (a,p')) :a∈alts:=by
  unfold rv at h
  split at h
  · simp only [Option.some.injEq,Prod.mk.injEq] at h;rw [←h.1];simp
  · simp only [Option.map_eq_some_iff,Prod.mk.injEq] at h;obtain ⟨b,h1,rfl,_⟩:=h;exact List.mem_of_find?_eq_some h1
  · simp only [Option.map_eq_some_iff,Prod.mk.injEq] at h;obtain ⟨b,h1,rfl,_⟩:=h;exact List.mem_of_getElem? h1
  · cases h
def dj:Nat:=100000
mutual
def Cz:AV→List Nat
  | .ptr b ..=>[b]
  | .sl b ..=>[b]
  | .fn _ l1 l2=>dw l1++dw l2
  | .agg l | .tup l=>dw l
  | .iface _ v=>Cz v
  | _=>[]
def dw:List AV→List Nat
  | []=>[]
  | v::l=>Cz v++dw l
end
def I9:aj→List Nat
  | .vs l=>dw l
  | _=>[]
def oP:List Nat→Nat→Bool
  | [],_=>false
  | k::l,b=>bif Nat.beq k b then true else oP l b
def jj(g:Nat→Option aj) :Nat→List Nat→List Nat→List Nat
  | 0,_,acc=>acc
  | _+1,[],acc=>acc
  | n+1,b::t,acc=>match oP acc b with
    | true=>jj g n t acc
    | false=>jj g n ((match g b with | some d=>I9 d | none=>[])++t) (acc++[b])
def jN:List Bool→List AV→List AV
  | true::m,v::l=>v::jN m l
  | false::m,_::l=>jN m l
  | _,_=>[]
def eA(σ:Nat→Option Nat)(g:Nat→Option aj) :List Bool→List AV→List AV×List Nat
  | _,[]=>([],[])
  | true::m,v::l=>let s:=eA σ g m l;(yv σ v::s.1,s.2)
  | false::m,v::l=>let r:=wg σ g dj v;let s:=eA σ g m l;(r.1::s.1,r.2++s.2)
  | [],v::l=>let r:=wg σ g dj v;let s:=eA σ g [] l;(r.1::s.1,r.2++s.2)
theorem ng{ρ τ:ae}{w:World}{h:aK}{m:Nat}{σ:Nat→Option Nat}(hh:HR ρ w h m)(L:DQ ρ τ w h σ) :∀ (k:List Bool) {l:List AV} {c:List Value},bG ρ w l c→bG τ w (eA σ (aw h) k l).1 c
  | k,[],c,hv=>by cases hv;cases k<;>exact .nil
  | true::k,v::l,c,hv=>by cases hv with | cons _ u _ c' h1 h2=>exact .cons _ _ _ _ (eV L h1) (ng hh L k h2)
  | false::k,v::l,c,hv=>by cases hv with | cons _ u _ c' h1 h2=>exact .cons _ _ _ _ (Cu hh L _ h1) (ng hh L k h2)
  | [],v::l,c,hv=>by cases hv with | cons _ u _ c' h1 h2=>exact .cons _ _ _ _ (Cu hh L _ h1) (ng hh L [] h2)
def oQ:List Nat→Bool
  | []=>true
  | k::l=>bif oP l k then false else oQ l
def jO(g:Nat→Option aj)(nid:Nat) :List Nat→Bool
  | []=>true
  | b::l=>(match g b with | some _=>Nat.blt b nid||Nat.ble (nid+lh) b | none=>false)&&jO g nid l
theorem tp:∀ {l:List Nat} {i b:Nat},l[i]? = some b→oP l b=true
  | [],i,b,h=>by simp at h
  | k::l,0,b,h=>by simp at h;subst h;simp [oP,jJ]
  | k::l,i+1,b,h=>by
    simp only [oP]
    cases Nat.beq k b with
    | true=>rfl
    | false=>simp only [cond_false];exact tp (i:=i) (by simpa using h)
theorem oR:∀ {l:List Nat},oQ l=true→∀ {i j b:Nat},l[i]? = some b→l[j]? = some b→i=j
  | [],_,i,j,b,h1,_=>by simp at h1
  | k::l,hn,i,j,b,h1,h2=>by
    simp only [oQ] at hn
    cases e:oP l k with
    | true=>rw [e] at hn;cases hn
    | false =>
      rw [e] at hn;simp only [cond_false] at hn
      cases i with
      | zero =>
        cases j with
        | zero=>rfl
        | succ j=>simp at h1 h2;subst h1;rw [tp h2] at e;cases e
      | succ i =>
        cases j with
        | zero=>simp at h1 h2;subst h2;rw [tp h1] at e;cases e
        | succ j=>have:=oR hn (i:=i) (j:=j) (b:=b) (by simpa using h1) (by simpa using h2);omega
theorem nH{g:Nat→Option aj}{nid:Nat} :∀ {l:List Nat},jO g nid l=true→∀ b,b∈l→(∃ d,g b=some d)∧(b<nid∨nid+lh≤b)
  | [],_,b,hb=>by cases hb
  | k::l,h,b,hb=>by
    simp only [jO,Bool.and_eq_true] at h
    rcases List.mem_cons.1 hb with rfl | q
    · have:=h.1
      cases e:g b with
      | none=>rw [e] at this;cases this
      | some d =>
        rw [e] at this
        simp only [Bool.or_eq_true] at this
        refine ⟨⟨d,rfl⟩,this.imp (fun q=>by simpa [Nat.blt_eq] using q) (fun q=>Nat.le_of_ble_eq_true q)⟩
    · exact nH h.2 b q
def uK(e:Operand→AV)(f:Operand)(args:Array Operand) :Option (FuncId×List AV) :=
  match e f with
  | .fn (.func fid) first caps=>some (fid,first++args.toList.map e++caps)
  | _=>none
def BL(C:tn)(run:cO)(g:Nat→Option aj)(nid:Nat)(p:cZ)(fid:FuncId)(vals:List AV) :Option KA :=
  let bs:=jj g dj (dw (jN (C.mode fid).mask vals)) []
  let la:=eA (gX bs 0) g (C.mode fid).mask vals
  bif oQ bs&&jO g nid bs then
    match run fid (lE (gX bs 0) g bs) la.1 p with
    | some (r,obs,p') =>
      bif Nat.ble r.own.length (bs.length+lh) then
        some { v:=ji (bY bs nid) r.v,sets:=ez (bY bs nid) 0 r.own,reads:=bs++la.2,obs,path:=p' }
      else none
    | none=>none
  else none
def J7(C:tn)(run:cO)(e:Operand→AV)(g:Nat→Option aj)(nid:Nat)(p:cZ)(op:Op) :Option KA :=
  match vW C.wrap C.P e op with
  | some (v,obs)=>some { v,sets:=[],reads:=[],obs,path:=p }
  | none =>
    match op with
    | .load t x=>(ux C.P g t (e x)).map fun r=>{ v:=r.1,sets:=[],reads:=r.2.2,obs:=r.2.1,path:=p }
    | .convert t d x=>(GT C.P g t d (e x)).map fun r=>{ v:=.str r.1,sets:=[],reads:=r.2.2,obs:=r.2.1,path:=p }
    | .slice t x lo hi none=>(wi C.P g t (e x) (lo.map e) (hi.map e)).map fun r=>{ v:=r.1,sets:=[],reads:=r.2.2,obs:=r.2.1,path:=p }
    | .store t x v=>(vZ C.P g t (e x) (e v)).map fun r=>{ v:=.any,sets:=[(r.1,some r.2.1)],reads:=[r.1],obs:=r.2.2,path:=p }
    | .lookup t x k cok=>(rv (Cy C.P t (e x) (e k) cok) p).map fun r=>{ v:=r.1.v,sets:=[],reads:=[],obs:=r.1.obs,path:=r.2 }
    | .alloc t=>(EW C.P nid t).map fun r=>{ v:=r.1,sets:=[(nid,some r.2)],reads:=[],obs:=[],path:=p }
    | .box t x=>(J2 C.P nid t (e x)).map fun r=>{ v:=r.1,sets:=[(nid,some r.2)],reads:=[],obs:=[],path:=p }
    | .makeSlice t l c=>(HH C.P nid t (e l) (e c)).map fun r=>{ v:=r.1,sets:=[(nid,some r.2.1)],reads:=[],obs:=r.2.2,path:=p }
    | .build t parts=>(EZ C.P t (parts.toList.map fun x=>(x.1,e x.2))).map fun v=>{ v,sets:=[],reads:=[],obs:=[],path:=p }
    | .buildSlice t len parts=>(qo C.P nid t len (parts.toList.map fun x=>(x.1,e x.2))).map fun r=>{ v:=r.1,sets:=[(nid,some r.2)],reads:=[],obs:=[],path:=p }
    | .call { callee:=.builtin .append,args,argTypes } =>
      match args.toList,argTypes.toList with
      | [s,x],[t,t']=>bif Nat.beq t t' then
          match rr C.P g nid t (e s) (e x) with
          | some (alts,rs)=>(rv alts p).map fun r=>{ v:=r.1.v,sets:=r.1.sets,reads:=rs,obs:=r.1.obs,path:=r.2 }
          | none=>none
        else match rt C.P g nid t t' (e s) (e x) with
          | some (alts,rs)=>(rv alts p).map fun r=>{ v:=r.1.v,sets:=r.1.sets,reads:=rs,obs:=r.1.obs,path:=r.2 }
          | none=>none
      | _,_=>none
    | .call { callee:=.builtin .copy,args,argTypes } =>
      match args.toList,argTypes.toList with
      | [s,x],[t,_]=>(BI C.P g t (e s) (e x)).map fun r=>{ v:=.int .i64 (r.1:Int),sets:=[(r.2.1,some r.2.2.1)],reads:=r.2.2.2.2,obs:=r.2.2.2.1,path:=p }
      | _,_=>none
    | .call { callee:=.value f,args,.. } =>
      match uK e f args with
      | some (fid,l) =>
        match C.ext fid with
        | some k=>(rv (J6 k l) p).map fun r=>{ v:=r.1.v,sets:=[],reads:=[],obs:=r.1.obs,path:=r.2 }
        | none=>BL C run g nid p fid l
      | none=>none
    | _=>none
theorem DU{x:Nat}(h:isNaN x=true) :FloatKind.f64.format.sqrt x=none:=by
  obtain ⟨s,t,e⟩:=ql h
  simp [Ieee.Format.sqrt,e,Ieee.Datum.root]
theorem zd{ρ:ae}{w:World}{k1 k2 k3:IntKind}{x y z:Int}{c:Array Value}(hl:bG ρ w [.int k1 x,.int k2 y,.int k3 z] c.toList) :c = #[.int k1 x,.int k2 y,.int k3 z]:=by
  have h:c.toList=[.int k1 x,.int k2 y,.int k3 z]:=by
    generalize c.toList=l at hl
    cases hl with | cons _ u1 _ _ h1 t1 =>
    cases t1 with | cons _ u2 _ _ h2 t2 =>
    cases t2 with | cons _ u3 _ _ h3 t3 =>
    cases t3;cases h1;cases h2;cases h3;rfl
  rw [←c.toArray_toList,h]
theorem BM{P:Program}{w:World}(name:String){k1 k2 k3:IntKind}{x y z:Int}(hz:z.toNat≤1) :(Extern.MathBitsCarry.three name #[.int k1 x,.int k2 y,.int k3 z]).run P w=.ok (x.toNat,y.toNat,z.toNat) w:=by
  have e:Extern.MathBitsCarry.three name #[.int k1 x,.int k2 y,.int k3 z]=(do
      if z.toNat > 1 then unsupported (.noEntry ("extern/math/bits." ++ name ++ ": a carry that is neither 0 nor 1"))
      pure (x.toNat,y.toNat,z.toNat):Sem (Nat×Nat×Nat)):=rfl
  rw [e,if_neg (by omega)]
  rfl
theorem E8{P:Program}{ρ:ae}{w:World}{k:xT}{l:List AV}{c:Array Value}{r:ma}(hl:bG ρ w l c.toList)(h:r∈J6 k l)(ho:ak r.obs) :dK P ρ w (qs k c) r.v:=by
  have one:∀ {a:AV},bG ρ w [a] c.toList→∃ u,c = #[u]∧VR ρ w a u:=by
    intro a h
    generalize hc:c.toList=l at h
    cases h with | cons _ u _ _ h1 h2=>cases h2;exact ⟨u,by rw [←hc],h1⟩
  unfold J6 at h
  split at h
  · simp only [List.mem_singleton] at h;subst h
    obtain ⟨u,rfl,hu⟩:=one hl
    cases hu with | flt _ _ y hf =>
    rename_i ex x
    have es:qs .sqrt #[.float .f64 y]=(match FloatKind.f64.format.sqrt y with
      | some r=>pure (.float .f64 r)
      | none=>do pure (.float .f64 (←choose (.nanBits .f64 y y)))):=rfl
    rw [es]
    have e:FloatKind.f64.format.sqrt y=FloatKind.f64.format.sqrt x:=by
      rcases hf with rfl | ⟨_,h2,h3⟩
      · rfl
      · rw [DU h2,DU h3]
    cases hr:FloatKind.f64.format.sqrt y with
    | some r=>exact ⟨.float .f64 r,w.drawn,rfl,.flt _ _ _ (.inl (by rw [e] at hr;simp [Hy,hr]))⟩
    | none=>exact ⟨_,w.drawn+1,rfl,.flt _ _ _ (.inr ⟨rfl,by rw [e] at hr;simp [Hy,hr,yG],FV y y _⟩)⟩
  · simp only [List.mem_singleton] at h;subst h
    obtain ⟨u,rfl,hu⟩:=one hl
    cases hu with | flt _ _ y hf =>
    rcases hf with rfl | ⟨h1,_⟩
    · exact ⟨_,w.drawn,rfl,.int _ _⟩
    · cases h1
  · simp only [List.mem_cons,List.not_mem_nil,or_false] at h
    obtain ⟨u,rfl,hu⟩:=one hl
    cases hu with | flt _ _ y hf =>
    rcases h with rfl | rfl
    · rcases hf with rfl | ⟨_,h2,_⟩
      · exact ⟨_,w.drawn,rfl,.int _ _⟩
      · have:=ho.1;rw [h2] at this;cases this
    · have hy:isNaN y=true:=by
        rcases hf with rfl | ⟨_,_,h3⟩
        · exact ho.1
        · exact h3
      exact ⟨_,w.drawn,rfl,.nan _ hy⟩
  · simp only [List.mem_singleton] at h;subst h
    obtain ⟨u,rfl,hu⟩:=one hl
    cases hu
    exact ⟨_,w.drawn,rfl,.flt _ _ _ (.inl rfl)⟩
  · simp only [List.mem_singleton] at h;subst h
    have hz:=ho.1
    replace hz:=of_decide_eq_true hz
    cases zd hl
    refine ⟨_,w.drawn,?_,.tup _ #[_,_] (.cons _ _ _ _ (.int _ _) (.cons _ _ _ _ (.int _ _) .nil))⟩
    simp only [qs, Sem.run_bind, BM "Add64" hz, Result.andThen_ok]
    rfl
  · simp only [List.mem_singleton] at h;subst h
    have hz:=ho.1
    replace hz:=of_decide_eq_true hz
    cases zd hl
    refine ⟨_,w.drawn,?_,.tup _ #[_,_] (.cons _ _ _ _ (.int _ _) (.cons _ _ _ _ (.int _ _) .nil))⟩
    simp only [qs, Sem.run_bind, BM "Sub64" hz, Result.andThen_ok]
    rename_i x _ y _ z
    have e:(bif Nat.blt x.toNat (y.toNat+z.toNat) then (1:Int) else 0)=Int.ofNat (if x.toNat<y.toNat+z.toNat then 1 else 0):=by
      by_cases q:x.toNat<y.toNat+z.toNat
      · rw [if_pos q,show Nat.blt x.toNat (y.toNat+z.toNat)=true by rw [Nat.blt_eq];exact q];rfl
      · rw [if_neg q]
        have:Nat.blt x.toNat (y.toNat+z.toNat)=false:=by
          cases h:Nat.blt x.toNat (y.toNat+z.toNat) with
          | false=>rfl
          | true=>rw [Nat.blt_eq] at h;exact absurd h q
        rw [this];rfl
    rw [e]
    rfl
  · simp only [List.mem_singleton] at h;subst h
    rename_i s b
    obtain ⟨u,rfl⟩:∃ u,c=u:=⟨c,rfl⟩
    have hc:c = #[.string s,.int .u8 b]:=by
      have h:c.toList=[.string s,.int .u8 b]:=by
        generalize c.toList=l at hl
        cases hl with | cons _ u1 _ _ h1 t1 =>
        cases t1 with | cons _ u2 _ _ h2 t2 =>
        cases t2;cases h1;cases h2;rfl
      rw [←c.toArray_toList,h]
    subst hc
    refine ⟨.int .i64 (I7 s b),w.drawn,?_,.int _ _⟩
    have e:qs .idxb #[.string s,.int .u8 b]=(match (List.range s.size).find? fun i=>s[i]! == b.toNat.toUInt8 with
      | some i=>pure (goInt i)
      | none=>pure (goInt (-1))):=rfl
    rw [e]
    unfold I7
    cases (List.range s.size).find? fun i=>s[i]! == b.toNat.toUInt8<;>rfl
  · simp only [List.mem_singleton] at h;subst h
    rename_i s b
    have hc:c = #[.string s,.int .u8 b]:=by
      have h:c.toList=[.string s,.int .u8 b]:=by
        generalize c.toList=l at hl
        cases hl with | cons _ u1 _ _ h1 t1 =>
        cases t1 with | cons _ u2 _ _ h2 t2 =>
        cases t2;cases h1;cases h2;rfl
      rw [←c.toArray_toList,h]
    subst hc
    refine ⟨.int .i64 (I8 s b),w.drawn,?_,.int _ _⟩
    have e:qs .cntb #[.string s,.int .u8 b]=(do
      let b' ← Extern.Bytes.bytesOf (.string s)
      let c ← Extern.Bytes.asByte (.int .u8 b)
      pure (goInt (b'.foldl (fun n x=>if x==c then n+1 else n) (0:Nat)))):=rfl
    rw [e]
    simp [Extern.Bytes.bytesOf,Extern.Bytes.asByte,Sem.run_bind,Sem.run_pure,goInt,I8]
  · simp at h
theorem GV{C:tn}(hC:C.Ok){run:cO}(hrun:zc C.P run){e:Operand→AV}{h:aK}{nid:Nat}{p:cZ}{o:Oper}{r:KA}(hr:J7 C run e (aw h) nid p o.op=some r)(ho:ak r.obs) 
    {ρ:ae} {w:World} {n:Nat} (hh:HR ρ w h n) (hid:∀ x,nid≤x→x<nid+lh→¬ ρ.ok x) (hn0:nid+lh≤n) {a:Act} (hops:∀ x,VR ρ w (e x) (a.eval x)) {next:Act→World→Prop} {Q:Exit→Act→World→Prop}
    (hK:∀ ρ' w' u,gZ ρ ρ' w→dU ρ.live w w'→HR ρ' w' (bo r.sets h) n→VR ρ' w' r.v u→(∀ b,ρ'.ok b→ρ.ok b∨(nid≤b∧b<nid+lh))→next (a.put o.dst u) w'):o.wp C.P a w next Q:=by
  have hS:0<lh:=by decide
  have hb : ¬ ρ.ok nid:=hid nid (Nat.le_refl _) (by omega)
  have hn:nid<n:=by omega
  have one:∀ {b:Nat},b=nid→nid≤b∧b<nid+lh:=fun e=>by omega
  have plain:∀ {v:AV},(∃ u k,(execOp a.eval o).run C.P w=.ok (.value u) { w with drawn:=k }∧VR ρ w v u)→r.v=v→r.sets=[]→o.wp C.P a w next Q:=by
    intro v ⟨u,k,h1,h2⟩ hv hs
    unfold Oper.wp
    rw [h1]
    have E:=gZ.refl ρ w
    have W:=dU.drawn ρ.live w k
    exact hK ρ _ u E W (by rw [hs];exact hh.drawn k) (by rw [hv];exact h2.mono E W) (fun b q=>.inl q)
  have made:∀ {s:Sem Value} {v:AV} {h':aK},(execOp a.eval o).run C.P w=(do pure (Next.value (←s)):Sem Next).run C.P w→px C.P ρ w h n nid s v h'→r.v=v→bo r.sets h=h'→o.wp C.P a w next Q:=by
    intro s v h' he ⟨u,w',ρ',h1,h2,h3,h4,h5,h6⟩ hv hs
    unfold Oper.wp
    rw [he,aY h1]
    exact hK ρ' w' u h2 h3 (by rw [hs];exact h4) (by rw [hv];exact h5) (fun b q=>(h6 b q).imp id one)
  unfold J7 at hr
  split at hr
  · rename_i v obs hp
    simp only [Option.some.injEq] at hr;subst hr
    exact plain (Cf hops hp ho) rfl rfl
  · rename_i hpo
    clear hpo
    generalize hop:o.op=op at hr
    split at hr
    · rename_i t x
      simp only [Option.map_eq_some_iff] at hr
      obtain ⟨⟨v,obs,rs⟩,hl,rfl⟩:=hr
      obtain ⟨u,k,h1,h2⟩:=DD (P:=C.P) hh (hops x) hl ho
      exact plain ⟨u,k,by simp only [execOp,hop];exact aY h1,h2⟩ rfl rfl
    · rename_i t d x
      simp only [Option.map_eq_some_iff] at hr
      obtain ⟨⟨z,obs,rs⟩,hc,rfl⟩:=hr
      exact plain ⟨.string z,w.drawn,by simp only [execOp,hop];exact aY (E7 hh (hops x) hc ho),.str _⟩ rfl rfl
    · rename_i t x lo hi
      simp only [Option.map_eq_some_iff] at hr
      obtain ⟨⟨v,obs,rs⟩,hc,rfl⟩:=hr
      obtain ⟨u,k,q1,q2⟩:=Cw (P:=C.P) hh hops (hops x) hc ho
      exact plain ⟨u,k,by simp only [execOp,hop];exact aY q1,q2⟩ rfl rfl
    · rename_i t x v
      simp only [Option.map_eq_some_iff] at hr
      obtain ⟨⟨b,d,obs⟩,hl,rfl⟩:=hr
      obtain ⟨w',h1,h2,h3⟩:=Cg (P:=C.P) hh (hops x) (hops v) hl ho
      unfold Oper.wp
      have:(execOp a.eval o).run C.P w=.ok .skip w':=by
        simp only [execOp,hop];rw [Sem.run_bind,h1];rfl
      rw [this]
      exact hK ρ w' undef (gZ.refl _ _) h3 h2 (.any _) (fun b q=>.inl q)
    · rename_i t x k cok
      simp only [Option.map_eq_some_iff] at hr
      obtain ⟨⟨a,_⟩,hl,rfl⟩:=hr
      obtain ⟨u,kk,q1,q2⟩:=AY (P:=C.P) (hops x) (hops k) (nf hl) ho
      exact plain ⟨u,kk,by simp only [execOp,hop];exact aY q1,q2⟩ rfl rfl
    · rename_i t
      simp only [Option.map_eq_some_iff] at hr
      obtain ⟨⟨v,d⟩,hl,rfl⟩:=hr
      exact made (by simp only [execOp,hop]) (Cj hh hb hn hl true) rfl rfl
    · rename_i t x
      simp only [Option.map_eq_some_iff] at hr
      obtain ⟨⟨v,d⟩,hl,rfl⟩:=hr
      exact made (by simp only [execOp,hop]) (EX hh hb hn (hops x) hl) rfl rfl
    · rename_i t l c
      simp only [Option.map_eq_some_iff] at hr
      obtain ⟨⟨v,d,obs⟩,hl,rfl⟩:=hr
      exact made (by simp only [execOp,hop]) (DF hh hb hn (hops l) (hops c) hl ho) rfl rfl
    · rename_i t parts
      simp only [Option.map_eq_some_iff] at hr
      obtain ⟨v,hl,rfl⟩:=hr
      have h1:(parts.toList.map fun x=>(x.1,e x.2)).map Prod.fst=(parts.map fun (x:Nat×Operand)=>(x.1,a.eval x.2)).toList.map Prod.fst:=by simp
      have h2:bG ρ w ((parts.toList.map fun x=>(x.1,e x.2)).map Prod.snd) ((parts.map fun (x:Nat×Operand)=>(x.1,a.eval x.2)).toList.map Prod.snd):=by
        have:=bG.map hops (parts.toList.map Prod.snd)
        simpa [Function.comp_def] using this
      obtain ⟨u,k,q1,q2⟩:=Co (P:=C.P) h1 h2 hl
      exact plain ⟨u,k,by simp only [execOp,hop];exact aY q1,q2⟩ rfl rfl
    · rename_i t len parts
      simp only [Option.map_eq_some_iff] at hr
      obtain ⟨⟨v,d⟩,hl,rfl⟩:=hr
      have h1:(parts.toList.map fun x=>(x.1,e x.2)).map Prod.fst=(parts.map fun (x:Nat×Operand)=>(x.1,a.eval x.2)).toList.map Prod.fst:=by simp
      have h2:bG ρ w ((parts.toList.map fun x=>(x.1,e x.2)).map Prod.snd) ((parts.map fun (x:Nat×Operand)=>(x.1,a.eval x.2)).toList.map Prod.snd):=by
        have:=bG.map hops (parts.toList.map Prod.snd)
        simpa [Function.comp_def] using this
      exact made (by simp only [execOp,hop]) (uC hh hb hn h1 h2 hl) rfl rfl
    · rename_i args argTypes
      split at hr
      case h_2=>cases hr
      rename_i s x t t' e1 e2
      cases ht:Nat.beq t t' with
      | false =>
        rw [ht] at hr
        simp only [cond_false] at hr
        split at hr
        case h_2=>cases hr
        rename_i alts rs ha
        simp only [Option.map_eq_some_iff] at hr
        obtain ⟨⟨alt,p'⟩,hp,rfl⟩:=hr
        have ea:args = #[s,x]:=by rw [←e1]
        have et:argTypes = #[t,t']:=by rw [←e2]
        subst ea;subst et
        have hm:=AW hh hb hn (hops s) (hops x) ha (nf hp) ho o.type
        refine made (s:=Builtin.append_ #[t,t'] o.type #[a.eval s,a.eval x]) ?_ hm rfl rfl
        simp only [execOp,hop]
        rw [dp a.eval .append #[s,x] #[t,t'] o.type _ rfl]
        simp [invoke,builtin]
      | true =>
      rw [ht] at hr
      have:=Nat.eq_of_beq_eq_true ht
      subst this
      simp only [cond_true] at hr
      split at hr
      case h_2=>cases hr
      rename_i alts rs ha
      simp only [Option.map_eq_some_iff] at hr
      obtain ⟨⟨alt,p'⟩,hp,rfl⟩:=hr
      have ea:args = #[s,x]:=by rw [←e1]
      have et:argTypes = #[t,t]:=by rw [←e2]
      subst ea;subst et
      have hm:=AU hh hb hn (hops s) (hops x) ha (nf hp) ho o.type
      refine made (s:=Builtin.append_ #[t,t] o.type #[a.eval s,a.eval x]) ?_ hm rfl rfl
      simp only [execOp,hop]
      rw [dp a.eval .append #[s,x] #[t,t] o.type _ rfl]
      simp [invoke,builtin]
    · rename_i args argTypes
      split at hr
      case h_2=>cases hr
      rename_i s x t t' e1 e2
      simp only [Option.map_eq_some_iff] at hr
      obtain ⟨⟨k,b,d,obs,rs⟩,hc,rfl⟩:=hr
      have ea:args = #[s,x]:=by rw [←e1]
      have et:argTypes = #[t,t']:=by rw [←e2]
      subst ea;subst et
      obtain ⟨w',h1,h2,h3⟩:=DS (P:=C.P) (T:=o.type) (t':=t') hh (hops s) (hops x) hc ho
      refine made (s:=Builtin.copy_ #[t,t'] o.type #[a.eval s,a.eval x]) ?_ ⟨_,w',ρ,h1,gZ.refl _ _,h3,h2,.int _ _,fun b q=>.inl q⟩ rfl rfl
      simp only [execOp,hop]
      rw [dp a.eval .copy #[s,x] #[t,t'] o.type _ rfl]
      simp [invoke,builtin]
    · rename_i f args ats
      split at hr
      case h_2=>cases hr
      rename_i fid l hca
      unfold uK at hca
      split at hca
      case h_2=>cases hca
      rename_i fid' first caps hef
      simp only [Option.some.injEq,Prod.mk.injEq] at hca
      obtain ⟨rfl,rfl⟩:=hca
      have hf:=hops f
      rw [hef] at hf
      generalize hgf:a.eval f=gf at hf
      cases hf with | fn _ _ _ c1 c2 v1 v2 =>
      have hargs:bG ρ w (first++args.toList.map e++caps) (c1++args.map a.eval++c2).toList:=by
        simp only [Array.toList_append,Array.toList_map]
        exact bG.append v2 (bG.append (bG.map hops args.toList) v1)
      have hex:∀ w0,(execOp a.eval o).run C.P w0=(callFunc fid' (c1++args.map a.eval++c2)).run C.P w0:=by
        intro w0
        simp only [execOp,hop,resolve,hgf,Deferred.ofValue]
        rfl
      split at hr
      · rename_i k hk
        simp only [Option.map_eq_some_iff] at hr
        obtain ⟨⟨a,_⟩,hl,rfl⟩:=hr
        obtain ⟨u,kk,q1,q2⟩:=E8 (P:=C.P) hargs (nf hl) ho
        refine plain ⟨u,kk,?_,q2⟩ rfl rfl
        rw [hex,hC.ext fid' k _ w hk]
        exact aY q1
      · unfold BL at hr
        simp only at hr
        generalize hbs:jj (aw h) dj (dw (jN (C.mode fid').mask (first++args.toList.map e++caps))) []=bs at hr
        cases hlen:(oQ bs&&jO (aw h) nid bs) with
        | false=>rw [hlen] at hr;cases hr
        | true =>
        rw [hlen] at hr
        simp only [cond_true] at hr
        rw [Bool.and_eq_true] at hlen
        split at hr
        case h_2=>cases hr
        rename_i r' obs p' hl
        cases hle:Nat.ble r'.own.length (bs.length+lh) with
        | false=>rw [hle] at hr;cases hr
        | true =>
        rw [hle] at hr
        simp only [cond_true,Option.some.injEq] at hr;subst hr
        have hLs:DR h bs:=⟨fun q1 q2=>oR hlen.1 q1 q2,fun b q=>(nH hlen.2 b q).1⟩
        have L:=F6 hh hLs
        have hcall:=hrun fid' _ _ p r' obs p' hl ho
        obtain ⟨⟨fn,hfn,hbody⟩,hcalls⟩:=hcall (ρ.lend bs) w _ (E6 hh hLs) (ng hh L _ hargs)
        unfold Oper.wp
        rw [hex,hC.enter fid' fn _ w hfn hbody]
        simp only [Oper.upon]
        have hl2:(c1++args.map a.eval++c2).toList.toArray=c1++args.map a.eval++c2:=by simp
        rw [hl2] at hcalls
        refine hcalls.mono ?_
        rintro e' w' ⟨u,rfl,W,ρ',E,hbk,H,hv⟩
        rw [kP] at hbk
        obtain ⟨q1,q2,q3,q4,q5⟩:=HN hh hLs hid (fun b q=>(nH hlen.2 b q).2) hn0 (Nat.le_of_ble_eq_true hle) W E hbk H hv
        exact hK _ w' u q1 q2 q3 q4 q5
    · cases hr
structure rx where
  v:AV
  sets:List (Nat×Option aj)
  reads:List Nat
def ry(ops:Array Oper)(j:Nat) :Option Nat:=(ops[j]?).bind (·.dst)
def rz(ops:Array Oper)(o:Oper)(T:List AV) :Option Bool :=
  match o.guard with
  | none=>some true
  | some (j,want) =>
    match ry ops j with
    | none=>some false
    | some d =>
      match T[d]? with
      | some (.bool true b)=>some (b==want)
      | some (.tup _) | none=>some false
      | _=>none
def F9(ops:Array Oper)(i:Nat) :Bool:=ops.toList.any fun o=>match o.guard with | some (j,_)=>Nat.beq j i | none=>false
def yw(v:AV)(p:cZ) :Option (Bool×List Bool×cZ) :=
  match v,p with
  | .bool true b,p=>some (b,[],p)
  | .bool false b,none=>some (b,[],none)
  | .bool false b,some (k::r)=>some (Nat.beq k 1,[b==Nat.beq k 1],some r)
  | _,_=>none
theorem ze{ρ:ae}{w:World}{v:AV}{u:Value}{p p':cZ}{b:Bool}{obs:List Bool}(hv:VR ρ w v u)(h:yw v p=some (b,obs,p'))(ho:ak obs) :u=.bool b:=by
  unfold yw at h
  split at h
  · simp only [Option.some.injEq,Prod.mk.injEq] at h;obtain ⟨rfl,rfl,rfl⟩:=h;cases hv;rfl
  · simp only [Option.some.injEq,Prod.mk.injEq] at h;obtain ⟨rfl,rfl,rfl⟩:=h;cases hv;rfl
  · simp only [Option.some.injEq,Prod.mk.injEq] at h;obtain ⟨rfl,rfl,rfl⟩:=h;cases hv
    have:=ho.1
    simp only [beq_iff_eq] at this
    rw [this]
  · cases h
def xz(ops:Array Oper)(i:Nat)(v:AV)(p:cZ) :Option (AV×List Bool×cZ) :=
  bif F9 ops i then (yw v p).map fun r=>(.bool true r.1,r.2.1,r.2.2) else some (v,[],p)
def uL(C:tn)(run:cO)(ops:Array Oper)(n0 i:Nat)(o:Oper)(T:List AV)(h:aK)(p:cZ) :Option (rx×List Bool×cZ) :=
  match rz ops o T with
  | none=>none
  | some false=>some ({ v:=.tup [],sets:=[],reads:=[] },[],p)
  | some true =>
    match J7 C run (I1 T) (aw h) (n0+i*lh) p o.op with
    | none=>none
    | some r =>
      match xz ops i r.v r.path with
      | none=>none
      | some (v,obs,p')=>some ({ v,sets:=r.sets,reads:=r.reads },r.obs++obs,p')
def uM(T:List AV)(d:Option Nat)(v:AV) :List AV :=
  match d with
  | some d=>T.set d v
  | none=>T
theorem Ga{ρ:ae}{w:World}{T:List AV}{a:Act}{v:AV}{u:Value}(h:bG ρ w T a.tmps.toList)(hv:VR ρ w v u)(d:Option Nat) :bG ρ w (uM T d v) (a.put d u).tmps.toList:=by
  cases d with
  | none=>exact h
  | some d=>simp only [uM,Act.put,Array.toList_setIfInBounds];exact h.set hv d
theorem uN{ρ:ae}{w:World}{ops:Array Oper}{o:Oper}{T:List AV}{a:Act}(h:bG ρ w T a.tmps.toList){b:Bool}(hw:rz ops o T=some b) :Region.wanted o (yielded ops a.tmps)=b:=by
  unfold rz at hw
  unfold Region.wanted
  split at hw
  · rename_i hg;cases hw;simp [hg]
  · rename_i j want hg
    simp only [hg]
    unfold ry at hw
    split at hw
    · rename_i hs;cases hw;simp [yielded,hs]
    · rename_i d hs
      split at hw
      · rename_i b' hT
        cases hw
        obtain ⟨u,h1,h2⟩:=h.get d _ hT
        rw [Array.getElem?_toList] at h1
        cases h2
        simp only [yielded,hs,Option.bind_some,h1]
        cases b'<;>cases want<;>rfl
      · rename_i l hT
        cases hw
        obtain ⟨u,h1,h2⟩:=h.get d _ hT
        rw [Array.getElem?_toList] at h1
        cases h2
        simp [yielded,hs,h1]
      · rename_i hT
        cases hw
        have : a.tmps[d]? = none := by
          have hl:=h.length
          rw [Array.getElem?_eq_none]
          have : T.length ≤ d := by rcases Nat.lt_or_ge d T.length with q | q; · rw [List.getElem?_eq_getElem q] at hT; cases hT
                                    · exact q
          simp at hl;omega
        simp [yielded,hs,this]
      · cases hw
theorem HR.congr{ρ:ae}{w:World}{h h':aK}{n:Nat}(hh:HR ρ w h n)(e:∀ b,aw h' b=aw h b) :HR ρ w h' n :=
  ⟨fun b d q=>hh.cell b d (by rw [←e];exact q),fun b c d f q r=>hh.inj b c d f (by rw [←e];exact q) (by rw [←e];exact r),hh.fresh,hh.liveLt,hh.outLt,hh.lt,hh.rom⟩
theorem xA{C:tn}(hC:C.Ok){run:cO}(hrun:zc C.P run){ops:Array Oper}{n0 i:Nat}{o:Oper}(hi:ops[i]? = some o){T:List AV}{h:aK}{p p':cZ}{r:rx}{obs:List Bool} 
    (hr:uL C run ops n0 i o T h p=some (r,obs,p')) (ho:ak obs) {ρ:ae} {w:World} {n:Nat} (hh:HR ρ w h n) (hid:∀ x,n0+i*lh≤x→x<n0+i*lh+lh→¬ ρ.ok x) (hn:n0+i*lh+lh≤n) {a:Act} (hd:a.defers=[]) (hT:bG ρ w T a.tmps.toList)
    {K:Act→World→Prop} {Q:Exit→Act→World→Prop}
    (hK:∀ ρ' w' a',gZ ρ ρ' w→dU ρ.live w w'→HR ρ' w' (bo r.sets h) n→a'.defers=[]→bG ρ' w' (uM T o.dst r.v) a'.tmps.toList→(∀ b,ρ'.ok b→ρ.ok b∨(n0+i*lh≤b∧b<n0+i*lh+lh))→K a' w'):wpOp C.P ops Q i K a w:=by
  have dput:∀ u,(a.put o.dst u).defers=[]:=by intro u;cases hdst:o.dst<;>simp [Act.put,hd]
  unfold uL at hr
  unfold wpOp
  simp only [hi]
  split at hr
  · cases hr
  · rename_i hw
    simp only [Option.some.injEq,Prod.mk.injEq] at hr;obtain ⟨rfl,rfl,rfl⟩:=hr
    rw [uN hT hw]
    simp only [Bool.false_eq_true,if_false]
    exact hK ρ w _ (gZ.refl _ _) (dU.refl _ _) hh (dput _) (Ga hT (.tup _ _ .nil) o.dst) (fun b q=>.inl q)
  · rename_i hw
    rw [uN hT hw]
    simp only [if_true]
    split at hr
    · cases hr
    · rename_i r' hop
      split at hr
      · cases hr
      · rename_i v obs' p'' hg
        simp only [Option.some.injEq,Prod.mk.injEq] at hr;obtain ⟨rfl,rfl,rfl⟩:=hr
        rw [aB] at ho
        refine .inl (GV hC hrun hop ho.1 hh hid hn (fun x=>yJ hh.rom hT x) ?_)
        intro ρ' w' u E W hh' hv hok
        refine hK ρ' w' _ E W hh' (dput _) (Ga (hT.mono E W) ?_ o.dst) hok
        unfold xz at hg
        cases hgd:F9 ops i with
        | false=>rw [hgd] at hg;simp only [cond_false,Option.some.injEq,Prod.mk.injEq] at hg;rw [←hg.1];exact hv
        | true =>
          rw [hgd] at hg
          simp only [cond_true,Option.map_eq_some_iff,Prod.mk.injEq] at hg
          obtain ⟨⟨b,ob,pp⟩,hd',rfl,rfl,rfl⟩:=hg
          rw [ze hv hd' ho.2]
          exact .bool _ _
def zf(C:tn)(run:cO)(ops:Array Oper)(n0:Nat) :Nat→List Oper→List AV→aK→cZ→Option (List AV×aK×List Bool×cZ)
  | _,[],T,h,p=>some (T,h,[],p)
  | i,o::l,T,h,p =>
    match uL C run ops n0 i o T h p with
    | none=>none
    | some (r,obs,p') =>
      match zf C run ops n0 (i+1) l (uM T o.dst r.v) (bo r.sets h) p' with
      | none=>none
      | some (T',h',obs',p'')=>some (T',h',obs++obs',p'')
structure qt (ρ:ae) (w:World) (n:Nat) (st:aA) (ρ':ae) (a':Act) (w':World):Prop where
  ext:gZ ρ ρ' w
  wle:dU ρ.live w w'
  sr:SR ρ' st a' w'
  le:n≤st.next
  back:∀ b,ρ'.ok b→ρ.ok b∨n≤b
theorem uO{C:tn}(hC:C.Ok){run:cO}(hrun:zc C.P run){ops:Array Oper}{n0:Nat}{Q:Exit→Act→World→Prop} :∀ (l:List Oper) (i:Nat) {T T':List AV} {h h':aK} {p p':cZ} {obs:List Bool},
    (∀ j,l[j]? = ops[i+j]?)→zf C run ops n0 i l T h p=some (T',h',obs,p')→ak obs→∀ {ρ:ae} {w:World},HR ρ w h (n0+ops.size*lh)→(∀ b,ρ.ok b→b<n0+i*lh)→∀ {a:Act},a.defers=[]→bG ρ w T a.tmps.toList →
    (∀ ρ' w' a',gZ ρ ρ' w→dU ρ.live w w'→HR ρ' w' h' (n0+ops.size*lh)→a'.defers=[]→bG ρ' w' T' a'.tmps.toList→(∀ b,ρ'.ok b→ρ.ok b∨n0≤b)→Q .normal a' w')→wpOps C.P ops Q (List.range' i l.length) a w
  | [],i,T,T',h,h',p,p',obs,hl,hr,ho,ρ,w,hh,hok,a,hd,hT,hQ=>by
    simp only [zf,Option.some.injEq,Prod.mk.injEq] at hr;obtain ⟨rfl,rfl,rfl,rfl⟩:=hr
    simp only [List.length_nil,List.range'_zero,wpOps]
    exact hQ ρ w a (gZ.refl _ _) (dU.refl _ _) hh hd hT (fun b q=>.inl q)
  | o::l,i,T,T',h,h',p,p',obs,hl,hr,ho,ρ,w,hh,hok,a,hd,hT,hQ=>by
    simp only [zf] at hr
    split at hr
    case h_1=>cases hr
    rename_i r obs1 p1 h1
    split at hr
    case h_1=>cases hr
    rename_i T2 h2 obs2 p2 h3
    simp only [Option.some.injEq,Prod.mk.injEq] at hr;obtain ⟨rfl,rfl,rfl,rfl⟩:=hr
    rw [aB] at ho
    have hi:ops[i]? = some o:=by have:=hl 0;simpa using this.symm
    have hlt:i<ops.size:=(Array.getElem?_eq_some_iff.1 hi).1
    simp only [List.length_cons,List.range'_succ]
    rw [wpOps_cons]
    have hS:i*lh+lh≤ops.size*lh:=by rw [←Nat.succ_mul];exact Nat.mul_le_mul_right _ hlt
    have hi1:(i+1)*lh=i*lh+lh:=Nat.succ_mul _ _
    refine xA hC hrun hi h1 ho.1 hh (fun x h1 h2 q=>by have:=hok _ q;omega) (by omega) hd hT ?_
    intro ρ' w' a' E W hh' hd' hT' hok'
    refine uO hC hrun l (i+1) (fun j=>by have:=hl (j+1);rw [show i+1+j=i+(j+1) from by omega];simpa using this) h3 ho.2 hh' (fun b q=>by
      rcases hok' b q with q | q
      · have:=hok b q;omega
      · omega) hd' hT' ?_
    intro ρ'' w'' a'' E' W' hh'' hd'' hT'' hb''
    exact hQ ρ'' w'' a'' (E.trans E' W.size) (W.trans W' (fun x hx q=>E.new x hx q)) hh'' hd'' hT'' (fun b q=>by
      rcases hb'' b q with q | q
      · rcases hok' b q with q | q
        · exact .inl q
        · exact .inr (by omega)
      · exact .inr q)
theorem rA{e e':Operand→AV}{l:List Operand}(h:∀ x∈l,e x=e' x) :l.map e=l.map e':=List.map_congr_left h
theorem CA{wr:Bool}{P:Program}{e e':Operand→AV}{op:Op}(h:∀ x∈op.operands,e x=e' x) :vW wr P e op=vW wr P e' op:=by
  unfold vW
  split
  all_goals simp only [Op.operands,Call.operands] at h
  case h_1=>rw [h _ (by simp)]
  case h_2=>rw [h _ (by simp)]
  case h_3=>rw [h _ (by simp),h _ (by simp),h _ (by simp)]
  case h_4=>rw [h _ (by simp)]
  case h_5=>rw [h _ (by simp),h _ (by simp)]
  case h_6=>rw [h _ (by simp)]
  case h_7=>rw [h _ (by simp)]
  case h_8=>rw [h _ (by simp)]
  case h_9 =>
    rename_i fn first caps
    rw [rA (l:=first.toList) (fun x hx=>h x (by simp at hx;simp [hx])),rA (l:=caps.toList) (fun x hx=>h x (by simp at hx;simp [hx]))]
  case h_10 =>
    rename_i t x lo hi
    rw [h x (by simp)]
    cases lo<;>cases hi<;>simp only [Option.map_none,Option.map_some]<;>first | rfl | (rw [h _ (by simp),h _ (by simp)]) | (rw [h _ (by simp)])
  case h_11 =>
    rename_i t x lo hi mx
    rw [h x (by simp),h mx (by simp)]
    cases lo<;>cases hi<;>simp only [Option.map_none,Option.map_some]<;>first | rfl | (rw [h _ (by simp),h _ (by simp)]) | (rw [h _ (by simp)])
  case h_12=>rw [h _ (by simp)]
  case h_13=>rw [h _ (by simp)]
  case h_14=>rw [h _ (by simp),h _ (by simp)]
  case h_15=>rw [h _ (by simp),h _ (by simp)]
  case h_16=>rw [h _ (by simp)]
  case h_17 =>
    rename_i xs ts
    split
    · rename_i x t hx ht
      have:xs = #[x]:=by rw [←hx]
      subst this
      rw [h x (by simp)]
    · rfl
  case h_18 =>
    rename_i xs ts
    split
    · rename_i x l hx
      have:xs=(x::l).toArray:=by rw [←hx]
      subst this
      rw [h x (by simp),rA (l:=l) (fun y hy=>h y (by simp [hy]))]
    · rfl
  case h_19 =>
    rename_i xs ts
    split
    · rename_i x l hx
      have:xs=(x::l).toArray:=by rw [←hx]
      subst this
      rw [h x (by simp),rA (l:=l) (fun y hy=>h y (by simp [hy]))]
    · rfl
  case h_20=>rfl
theorem DV{P:Program}{g g':Nat→Option aj}{t:TypeId}{x:AV}{r:AV×List Bool×List Nat}(h:ux P g t x=some r)(hg:∀ b∈r.2.2,g' b=g b) :ux P g' t x=some r:=by
  unfold ux at h ⊢
  simp only at h ⊢
  split at h
  · rename_i b w i j
    split at h
    · rename_i d hd
      simp only [Option.map_eq_some_iff] at h
      obtain ⟨r',h1,rfl⟩:=h
      have:g' b=some d:=by rw [hg b (by simp)];exact hd
      simp only [this,h1];rfl
    · cases h
  · exact h
  · cases h
theorem CB{P:Program}{g g':Nat→Option aj}{t:TypeId}{x v:AV}{r:Nat×aj×List Bool}(h:vZ P g t x v=some r)(hg:g' r.1=g r.1) :vZ P g' t x v=some r:=by
  unfold vZ at h ⊢
  split at h
  · rename_i b w i j l inf h1 h2
    split at h
    · rename_i d hd
      cases e:Nat.beq l.length inf.size with
      | false=>rw [e] at h;cases h
      | true =>
        rw [e] at h
        simp only [cond_true,Option.map_eq_some_iff] at h
        obtain ⟨r',h3,rfl⟩:=h
        have:g' b=some d:=by rw [hg];exact hd
        simp only [h1,this,e,cond_true,h3];rfl
    · cases h
  · cases h
theorem tq{g g':Nat→Option aj}{x:AV}{r:Nat×Nat×aj×List Bool×List Nat}(h:DM g x=some r)(hg:∀ b∈r.2.2.2.2,g' b=g b) :DM g' x=some r:=by
  unfold DM at h ⊢
  split at h
  · rename_i b w es i len cap
    split at h
    · rename_i d hd
      simp only [Option.map_eq_some_iff] at h
      obtain ⟨r',h1,rfl⟩:=h
      have:g' b=some d:=by rw [hg b (by simp)];exact hd
      simp only [this,h1];rfl
    · cases h
  · exact h
  · cases h
theorem nI{P:Program}{g g':Nat→Option aj}{nid:Nat}{e:TypeId}{inf:TypeInfo}{s:AV}{m es':Nat}{nb:aj}{obs:List Bool}{rs:List Nat}{r:List ma×List Nat}(h:oH P g nid e inf s m es' nb obs rs=some r)(hg:∀ b∈r.2,g' b=g b) :
    oH P g' nid e inf s m es' nb obs rs=some r∧∀ b∈rs,b∈r.2:=by
  unfold oH at h ⊢
  split at h
  · refine ⟨h,?_⟩
    cases hes:Nat.beq es' inf.size with
    | false=>rw [hes] at h;cases h
    | true =>
      rw [hes] at h
      simp only [cond_true,Option.some.injEq] at h;subst h
      exact fun b hb=>hb
  · refine ⟨h,?_⟩
    cases hes:Nat.beq es' inf.size with
    | false=>rw [hes] at h;cases h
    | true =>
      rw [hes] at h
      simp only [cond_true,Option.some.injEq] at h;subst h
      exact fun b hb=>hb
  · rename_i b w es len cap
    split at h
    case h_2=>cases h
    rename_i d hd
    cases hes:(Nat.beq es inf.size&&Nat.beq es' es) with
    | false=>rw [hes] at h;cases h
    | true =>
    rw [hes] at h
    simp only [cond_true] at h
    split at h
    case h_2=>cases h
    rename_i old obs' hsub
    simp only [Option.map_eq_some_iff] at h
    obtain ⟨d',happ,rfl⟩:=h
    have h2:g' b=some d:=by rw [hg b (by simp)];exact hd
    refine ⟨?_,fun b hb=>by simp [hb]⟩
    simp only [h2,cond_true,hsub,happ,hes];rfl
  · cases h
theorem AZ{P:Program}{g g':Nat→Option aj}{nid:Nat}{t t':TypeId}{s x:AV}{r:List ma×List Nat}(h:rt P g nid t t' s x=some r)(hg:∀ b∈r.2,g' b=g b) :rt P g' nid t t' s x=some r:=by
  unfold rt at h ⊢
  split at h
  case h_2=>cases h
  rename_i e y ht ht'
  split at h
  case h_2=>cases h
  rename_i inf he hi
  split at h
  case h_2=>cases h
  rename_i z hz
  cases hzs:(Nat.beq z.cells.size inf.size&&Nat.beq inf.size 1) with
  | false=>rw [hzs] at h;cases h
  | true =>
  rw [hzs] at h
  simp only [cond_true] at h ⊢
  exact (nI h hg).1
theorem A0{P:Program}{g g':Nat→Option aj}{nid:Nat}{t:TypeId}{s x:AV}{r:List ma×List Nat}(h:rr P g nid t s x=some r)(hg:∀ b∈r.2,g' b=g b) :rr P g' nid t s x=some r:=by
  unfold rr at h ⊢
  split at h
  case h_2=>cases h
  rename_i e ht
  split at h
  case h_2=>cases h
  rename_i inf hi
  split at h
  case h_2=>cases h
  rename_i z hz
  cases hzs:Nat.beq z.cells.size inf.size with
  | false=>rw [hzs] at h;cases h
  | true =>
  rw [hzs] at h
  simp only [cond_true] at h ⊢
  split at h
  · exact h
  · exact h
  · exact h
  · exact h
  · split at h
    case h_2=>cases h
    rename_i m es nb obs rs hs
    have q:∀ b∈rs,b∈r.2:=(nI (g':=g) h (fun _ _=>rfl)).2
    have:=tq (g':=g') hs (fun b hb=>hg b (q b hb))
    simp only [this]
    exact (nI h hg).1
mutual
theorem oS {σ:Nat→Option Nat} {g g':Nat→Option aj}:∀ (n:Nat) (v:AV),(∀ b∈(wg σ g n v).2,g' b=g b)→wg σ g' n v=wg σ g n v
  | 0,_,_=>rfl
  | n + 1, v, h => by
    cases v<;>simp only [wg] at h ⊢
    · rename_i b w i j
      cases hs:σ b with
      | some c=>rfl
      | none =>
      rw [hs] at h
      simp only at h ⊢
      have hb:g' b=g b:=by
        cases q:g b with
        | none=>rw [q] at h;have:=h b (by simp);rw [this,q]
        | some d=>rw [q] at h;have:=h b (by simp);rw [this,q]
      rw [hb]
      cases q:g b with
      | none=>rfl
      | some d =>
        rw [q] at h
        have:=zg (σ:=σ) (g:=g) (g':=g') n d (fun b' hb'=>h b' (by simp only [List.mem_cons];exact .inr hb'))
        simp only [this]
    · rename_i b w es i len cap
      cases hs:σ b with
      | some c=>rfl
      | none =>
      rw [hs] at h
      simp only at h ⊢
      have hb:g' b=g b:=by
        cases q:g b with
        | none=>rw [q] at h;have:=h b (by simp);rw [this,q]
        | some d=>rw [q] at h;have:=h b (by simp);rw [this,q]
      rw [hb]
      cases q:g b with
      | none=>rfl
      | some d =>
        rw [q] at h
        have:=zg (σ:=σ) (g:=g) (g':=g') n d (fun b' hb'=>h b' (by simp only [List.mem_cons];exact .inr hb'))
        simp only [this]
    · rename_i f l1 l2
      rw [kB n l1 (fun b hb=>h b (by simp [hb])),kB n l2 (fun b hb=>h b (by simp [hb]))]
    · rename_i l;rw [kB n l h]
    · rename_i l;rw [kB n l h]
    · rename_i t v;rw [oS n v h]
theorem kB {σ:Nat→Option Nat} {g g':Nat→Option aj}:∀ (n:Nat) (l:List AV),(∀ b∈(uH σ g n l).2,g' b=g b)→uH σ g' n l=uH σ g n l
  | 0,_,_=>rfl
  | n+1,[],_=>rfl
  | n+1,v::l,h=>by
    simp only [uH] at h ⊢
    rw [oS n v (fun b hb=>h b (by simp [hb])),kB n l (fun b hb=>h b (by simp [hb]))]
theorem zg {σ:Nat→Option Nat} {g g':Nat→Option aj}:∀ (n:Nat) (d:aj),(∀ b∈(tk σ g n d).2,g' b=g b)→tk σ g' n d=tk σ g n d
  | 0,_,_=>rfl
  | n+1,d,h=>by
    cases d<;>simp only [tk] at h ⊢
    rename_i l;rw [kB n l h]
end
theorem jP{σ:Nat→Option Nat}{g g':Nat→Option aj} :∀ (m:List Bool) (l:List AV),(∀ b∈(eA σ g m l).2,g' b=g b)→eA σ g' m l=eA σ g m l
  | m,[],_=>by cases m<;>rfl
  | true::m,v::l,h=>by
    simp only [eA] at h ⊢
    rw [jP m l h]
  | false::m,v::l,h=>by
    simp only [eA] at h ⊢
    rw [oS _ v (fun b hb=>h b (by simp [hb])),jP m l (fun b hb=>h b (by simp [hb]))]
  | [],v::l,h=>by
    simp only [eA] at h ⊢
    rw [oS _ v (fun b hb=>h b (by simp [hb])),jP [] l (fun b hb=>h b (by simp [hb]))]
theorem wk{g:Nat→Option aj} :∀ (n:Nat) (t acc:List Nat),∀ b∈acc,b∈jj g n t acc
  | 0,t,acc,b,h=>h
  | n+1,[],acc,b,h=>h
  | n+1,x::t,acc,b,h=>by
    simp only [jj]
    split
    · exact wk n _ _ b h
    · exact wk n _ _ b (by simp [h])
theorem qu{g g':Nat→Option aj} :∀ (n:Nat) (t acc:List Nat),(∀ b∈jj g n t acc,g' b=g b)→jj g' n t acc=jj g n t acc
  | 0,t,acc,_=>rfl
  | n+1,[],acc,_=>rfl
  | n+1,x::t,acc,h=>by
    simp only [jj] at h ⊢
    split
    · rename_i e;rw [e] at h;exact qu n _ _ h
    · rename_i e
      rw [e] at h
      simp only at h
      have hx:g' x=g x:=h x (wk n _ _ x (by simp))
      rw [hx]
      exact qu n _ _ h
theorem uP{σ:Nat→Option Nat}{g g':Nat→Option aj} :∀ (l:List Nat),(∀ b∈l,g' b=g b)→lE σ g' l=lE σ g l
  | [],_=>rfl
  | b::l,h=>by simp only [lE];rw [h b (by simp),uP l (fun x hx=>h x (by simp [hx]))]
theorem qv{g g':Nat→Option aj}{nid:Nat} :∀ (l:List Nat),(∀ b∈l,g' b=g b)→jO g' nid l=jO g nid l
  | [],_=>rfl
  | b::l,h=>by simp only [jO];rw [h b (by simp),qv l (fun x hx=>h x (by simp [hx]))]
theorem DW{C:tn}{run:cO}{g g':Nat→Option aj}{nid:Nat}{p:cZ}{fid:FuncId}{vals:List AV}{r:KA}(h:BL C run g nid p fid vals=some r)(hg:∀ b∈r.reads,g' b=g b) :BL C run g' nid p fid vals=some r:=by
  have hreads:r.reads=jj g dj (dw (jN (C.mode fid).mask vals)) []++(eA (gX (jj g dj (dw (jN (C.mode fid).mask vals)) []) 0) g (C.mode fid).mask vals).2:=by
    unfold BL at h
    simp only at h
    generalize (oQ (jj g dj (dw (jN (C.mode fid).mask vals)) [])&&jO g nid (jj g dj (dw (jN (C.mode fid).mask vals)) []))=c at h
    cases c with
    | false=>cases h
    | true =>
      simp only [cond_true] at h
      split at h
      case h_2=>cases h
      rename_i r' obs p' hl
      cases hle:Nat.ble r'.own.length ((jj g dj (dw (jN (C.mode fid).mask vals)) []).length+lh) with
      | false=>rw [hle] at h;cases h
      | true=>rw [hle] at h;simp only [cond_true,Option.some.injEq] at h;rw [←h]
  rw [hreads] at hg
  have e1:=qu (g:=g) (g':=g') dj (dw (jN (C.mode fid).mask vals)) [] (fun b hb=>hg b (by simp [hb]))
  have e2:=jP (σ:=gX (jj g dj (dw (jN (C.mode fid).mask vals)) []) 0) (g:=g) (g':=g') (C.mode fid).mask vals (fun b hb=>hg b (by simp [hb]))
  have e3:=uP (σ:=gX (jj g dj (dw (jN (C.mode fid).mask vals)) []) 0) (g:=g) (g':=g') (jj g dj (dw (jN (C.mode fid).mask vals)) []) (fun b hb=>hg b (by simp [hb]))
  have e4:=qv (nid:=nid) (g:=g) (g':=g') (jj g dj (dw (jN (C.mode fid).mask vals)) []) (fun b hb=>hg b (by simp [hb]))
  unfold BL at h ⊢
  simp only at h ⊢
  rw [e1,e2,e3,e4]
  exact h
theorem DX{P:Program}{g g':Nat→Option aj}{t:TypeId}{s x:AV}{r:Nat×Nat×aj×List Bool×List Nat}(h:BI P g t s x=some r)(hg:∀ b∈r.2.2.2.2,g' b=g b) :BI P g' t s x=some r:=by
  unfold BI at h ⊢
  split at h
  case h_2=>cases h
  rename_i e b w es i len cap ht
  split at h
  case h_2=>cases h
  rename_i inf blk m es' nb obs rs hi hb hsrc
  have hr:r.2.2.2.2=b::rs:=by
    cases h1:Nat.beq inf.size 1&&Nat.beq es' 1 with
    | false=>rw [h1] at h;cases h
    | true =>
      rw [h1] at h
      simp only [cond_true,Option.map_eq_some_iff] at h
      obtain ⟨_,_,rfl⟩:=h
      rfl
  have q1:g' b=some blk:=by rw [hg b (by rw [hr];simp)];exact hb
  have q2:=tq hsrc (g':=g') (fun c hc=>hg c (by rw [hr];exact List.mem_cons_of_mem _ hc))
  rw [hi,q1,q2]
  exact h
theorem E9{P:Program}{g g':Nat→Option aj}{s d:TypeId}{x:AV}{r:ByteArray×List Bool×List Nat}(h:GT P g s d x=some r)(hg:∀ b∈r.2.2,g' b=g b) :GT P g' s d x=some r:=by
  unfold GT at h ⊢
  split at h
  case h_2=>cases h
  rename_i e hs hd
  split at h
  case h_2=>cases h
  rename_i m es k ys obs rs he hsrc
  have hr:r.2.2=rs:=by
    cases h1:Nat.beq es 1&&bu k .u8 with
    | false=>rw [h1] at h;cases h
    | true =>
      rw [h1] at h
      simp only [cond_true,Option.some.injEq] at h
      rw [←h]
  have q2:=tq hsrc (g':=g') (fun c hc=>hg c (by rw [hr];exact hc))
  rw [he,q2]
  exact h
theorem GW{C:tn}{run:cO}{e e':Operand→AV}{g g':Nat→Option aj}{nid:Nat}{p:cZ}{op:Op}{r:KA}(h:J7 C run e g nid p op=some r)(he:∀ x∈op.operands,e' x=e x)(hg:∀ b∈r.reads,g' b=g b) :
    J7 C run e' g' nid p op=some r:=by
  unfold J7 at h ⊢
  rw [CA he]
  split at h
  · exact h
  · rename_i hp
    clear hp
    split at h
    all_goals simp only [Op.operands,Call.operands] at he
    · rename_i t x
      simp only [Option.map_eq_some_iff] at h ⊢
      obtain ⟨r',h1,rfl⟩:=h
      exact ⟨r',by rw [he x (by simp)];exact DV h1 hg,rfl⟩
    · rename_i t d x
      simp only [Option.map_eq_some_iff] at h ⊢
      obtain ⟨r',h1,rfl⟩:=h
      exact ⟨r',by rw [he x (by simp)];exact E9 h1 hg,rfl⟩
    · rename_i t x lo hi
      have h1:lo.map e'=lo.map e:=by
        cases lo with
        | none=>rfl
        | some y=>simp only [Option.map_some];rw [he y (by simp)]
      have h2:hi.map e'=hi.map e:=by
        cases hi with
        | none=>rfl
        | some y=>simp only [Option.map_some];rw [he y (by simp)]
      simp only [Option.map_eq_some_iff] at h ⊢
      obtain ⟨r',q,rfl⟩:=h
      exact ⟨r',by rw [he x (by simp),h1,h2];exact Cx q hg,rfl⟩
    · rename_i t x v
      simp only [Option.map_eq_some_iff] at h ⊢
      obtain ⟨r',h1,rfl⟩:=h
      exact ⟨r',by rw [he x (by simp),he v (by simp)];exact CB h1 (hg _ (by simp)),rfl⟩
    · rename_i t x k cok;rw [he x (by simp),he k (by simp)];exact h
    · exact h
    · rename_i t x;rw [he x (by simp)];exact h
    · rename_i t l c;rw [he l (by simp),he c (by simp)];exact h
    · rename_i t parts
      have:(parts.toList.map fun x=>(x.1,e' x.2))=(parts.toList.map fun x=>(x.1,e x.2)):=List.map_congr_left fun x hx=>by rw [he x.2 (by simp;exact ⟨x.1,by simpa using hx⟩)]
      rw [this];exact h
    · rename_i t len parts
      have:(parts.toList.map fun x=>(x.1,e' x.2))=(parts.toList.map fun x=>(x.1,e x.2)):=List.map_congr_left fun x hx=>by rw [he x.2 (by simp;exact ⟨x.1,by simpa using hx⟩)]
      rw [this];exact h
    · rename_i args ats
      split at h
      case h_2=>cases h
      rename_i s x t t' e1 e2
      have ea:args = #[s,x]:=by rw [←e1]
      subst ea
      cases ht:Nat.beq t t' with
      | false =>
        rw [ht] at h
        simp only [cond_false] at h ⊢
        rw [he s (by simp),he x (by simp)]
        split at h
        case h_2=>cases h
        rename_i alts rs ha
        simp only [Option.map_eq_some_iff] at h ⊢
        obtain ⟨r',h1,rfl⟩:=h
        have:=AZ (g':=g') ha hg
        simp only [this,Option.map_eq_some_iff]
        exact ⟨r',h1,rfl⟩
      | true =>
      rw [ht] at h
      simp only [cond_true] at h ⊢
      rw [he s (by simp),he x (by simp)]
      split at h
      case h_2=>cases h
      rename_i alts rs ha
      simp only [Option.map_eq_some_iff] at h ⊢
      obtain ⟨r',h1,rfl⟩:=h
      have:=A0 (g':=g') ha hg
      simp only [this,Option.map_eq_some_iff]
      exact ⟨r',h1,rfl⟩
    · rename_i args ats
      split at h
      case h_2=>cases h
      rename_i s x t t' e1 e2
      have ea:args = #[s,x]:=by rw [←e1]
      subst ea
      rw [he s (by simp),he x (by simp)]
      simp only [Option.map_eq_some_iff] at h ⊢
      obtain ⟨r',h1,rfl⟩:=h
      exact ⟨r',DX h1 hg,rfl⟩
    · rename_i f args ats
      have hf:e' f=e f:=he f (by simp)
      have hargs:args.toList.map e'=args.toList.map e:=List.map_congr_left fun x hx=>he x (by simp at hx;simp [hx])
      split at h
      case h_2=>cases h
      rename_i fid l hca
      have:uK e' f args=some (fid,l):=by
        unfold uK at hca ⊢
        rw [hf,hargs];exact hca
      simp only [this]
      split at h
      · exact h
      · exact DW h hg
    · cases h
def Fa(l:List Operand) :List Nat:=l.filterMap fun | .tmp t=>some t | _=>none
def md(ops:Array Oper)(o:Oper) :List Nat :=
  (match o.dst with | some d=>[d] | none=>[])++(Fa o.op.operands.toList++(match o.guard with | some (j,_)=>(match ry ops j with | some d=>[d] | none=>[]) | none=>[]))
def kC(s:List (Nat×Option aj)) :List Nat:=s.map Prod.fst
def rB(ms:List Nat)(o:Oper) :Nat:=o.after.toList.foldl (fun m e=>bif Region.binds .any e then m ||| (2^e.on ||| ms.getD e.on 0) else m) 0
def HT(x:Nat) :List Nat→Bool
  | []=>false
  | y::l=>Nat.beq x y||HT x l
def Fb:List Nat→List Nat→Bool
  | [],_=>true
  | x::l,m=>!HT x m&&Fb l m
theorem DY{x:Nat} :∀ {l:List Nat},HT x l=true↔x∈l
  | []=>by simp [HT]
  | y::l=>by simp [HT,DY (l:=l)]
theorem rC{l m:List Nat}(h:Fb l m=true) :∀ x,x∈l→x∈m→False:=by
  induction l with
  | nil=>intro x hx;cases hx
  | cons y l ih =>
    simp only [Fb,Bool.and_eq_true,Bool.not_eq_true'] at h
    intro x hx hm
    rcases List.mem_cons.1 hx with rfl | hx
    · have:=DY.2 hm;rw [this] at h;cases h.1
    · exact ih h.2 x hx hm
def ku(ops:Array Oper)(o:Oper)(r:rx)(o':Oper)(r':rx) :Bool :=
  Fb o.dst.toList (md ops o')&&(Fb o'.dst.toList (md ops o)&&(Fb (kC r.sets) (r'.reads++kC r'.sets)&&Fb (kC r'.sets) (r.reads++kC r.sets)))
def qw(ops:Array Oper)(mask:Nat)(o':Oper)(r':rx) :Nat→List (Oper×rx)→Bool
  | _,[]=>true
  | i,x::l=>(mask.testBit i||ku ops x.1 x.2 o' r')&&qw ops mask o' r' (i+1) l
def zh(ops:Array Oper) :List (Oper×rx)→List Nat→List (Oper×rx)→Bool
  | _,_,[]=>true
  | pre,ms,x::l =>
    x.1.after.toList.all (fun e=>!Region.binds .any e||Nat.blt e.on pre.length) &&
    (qw ops (rB ms x.1) x.1 x.2 0 pre&&zh ops (pre++[x]) (ms++[rB ms x.1]) l)
def jI(L:Nat→Bool) :Nat→List (Oper×rx)→List AV×aK→List AV×aK
  | _,[],s=>s
  | i,x::l,s=>jI L (i+1) l (bif L i then (uM s.1 x.1.dst x.2.v,bo x.2.sets s.2) else s)
theorem uQ(T:List AV)(d:Option Nat)(v:AV)(t:Nat) :(uM T d v)[t]? = if d=some t then (T[t]?).map (fun _=>v) else T[t]?:=by
  cases d with
  | none=>simp [uM]
  | some d =>
    simp only [uM,Option.some.injEq]
    rw [List.getElem?_set]
    by_cases h:d=t
    · subst h
      simp only [if_true]
      by_cases hl:d<T.length
      · simp [hl]
      · simp [hl]
    · simp [h]
theorem kQ{h h':aK}{b:Nat} :∀ (s:List (Nat×Option aj)) {h h':aK},aw h b=aw h' b→aw (bo s h) b=aw (bo s h') b
  | [],_,_,e=>e
  | (c,some d)::s,h,h',e=>by
    simp only [bo]
    exact kQ (h:=h) (h':=h') s (by rw [bv,bv,e])
  | (c,none)::s,h,h',e=>by
    simp only [bo]
    exact kQ (h:=h) (h':=h') s (by rw [eO,eO,e])
theorem kR{b:Nat} :∀ (s:List (Nat×Option aj)) {h:aK},b ∉ kC s→aw (bo s h) b=aw h b
  | [],_,_=>rfl
  | (c,some d)::s,h,hb=>by
    simp only [kC,List.map_cons,List.mem_cons,not_or] at hb
    simp only [bo]
    rw [kR s hb.2,bv,if_neg (fun e=>hb.1 e.symm)]
  | (c,none)::s,h,hb=>by
    simp only [kC,List.map_cons,List.mem_cons,not_or] at hb
    simp only [bo]
    rw [kR s hb.2,eO,if_neg (fun e=>hb.1 e.symm)]
theorem CC{L L':Nat→Bool}{t:Nat} :∀ (l:List (Oper×rx)) (i:Nat) {s s':List AV×aK},(∀ k x,l[k]? = some x→x.1.dst=some t→L (i+k)=L' (i+k))→s.1[t]? = s'.1[t]?→(jI L i l s).1[t]? = (jI L' i l s').1[t]?
  | [],_,_,_,_,e=>e
  | x::l,i,s,s',h,e=>by
    simp only [jI]
    refine CC l (i+1) (fun k y hy hd=>by have:=h (k+1) y (by simpa using hy) hd;rw [show i+1+k=i+(k+1) from by omega];exact this) ?_
    by_cases hd:x.1.dst=some t
    · have:=h 0 x (by simp) hd
      simp only [Nat.add_zero] at this
      rw [this]
      cases L' i with
      | true=>simp only [cond_true,uQ,hd,if_true,e]
      | false=>exact e
    · cases L i<;>cases L' i<;>simp only [cond_true,cond_false,uQ,if_neg hd,e]
theorem CD{L L':Nat→Bool}{b:Nat} :∀ (l:List (Oper×rx)) (i:Nat) {s s':List AV×aK},(∀ k x,l[k]? = some x→b∈kC x.2.sets→L (i+k)=L' (i+k))→aw s.2 b=aw s'.2 b→aw (jI L i l s).2 b=aw (jI L' i l s').2 b
  | [],_,_,_,_,e=>e
  | x::l,i,s,s',h,e=>by
    simp only [jI]
    refine CD l (i+1) (fun k y hy hd=>by have:=h (k+1) y (by simpa using hy) hd;rw [show i+1+k=i+(k+1) from by omega];exact this) ?_
    by_cases hd:b∈kC x.2.sets
    · have:=h 0 x (by simp) hd
      simp only [Nat.add_zero] at this
      rw [this]
      cases L' i with
      | true=>simp only [cond_true];exact kQ (h:=s.2) (h':=s'.2) _ e
      | false=>exact e
    · cases L i<;>cases L' i<;>simp only [cond_true,cond_false,kR _ hd,e]
def bp:List (Oper×rx)→List AV×aK→List AV×aK
  | [],s=>s
  | x::l,s=>bp l (uM s.1 x.1.dst x.2.v,bo x.2.sets s.2)
theorem zi(l m:List (Oper×rx))(s:List AV×aK) :bp (l++m) s=bp m (bp l s):=by
  induction l generalizing s with
  | nil=>rfl
  | cons x l ih=>simp only [List.cons_append,bp,ih]
theorem yx:∀ (l:List (Oper×rx)) (i j:Nat) (s:List AV×aK),jI (fun k=>decide (k<i+j)) i l s=bp (l.take j) s
  | [],i,j,s=>by simp [jI,bp]
  | x::l,i,0,s=>by
    have:∀ (l:List (Oper×rx)) (i':Nat),i≤i'→∀ s,jI (fun k=>decide (k<i+0)) i' l s=s:=by
      intro l
      induction l with
      | nil=>intro _ _ s;rfl
      | cons y l ih =>
        intro i' hi s
        simp only [jI]
        have:decide (i'<i+0)=false:=by simp;omega
        rw [this];exact ih (i'+1) (by omega) s
    simp only [List.take_zero,bp]
    exact this _ i (Nat.le_refl _) s
  | x::l,i,j+1,s=>by
    simp only [jI,List.take_succ_cons,bp]
    have h1:decide (i<i+(j+1))=true:=by simp
    rw [h1]
    simp only [cond_true]
    have:=yx l (i+1) j (uM s.1 x.1.dst x.2.v,bo x.2.sets s.2)
    rw [show i+1+j=i+(j+1) from by omega] at this
    exact this
structure HU (ops:Array Oper) (l:List (Oper×rx)) (ms:List Nat):Prop where
  edge:∀ (j:Nat) (x:Oper×rx),l[j]? = some x→∀ e∈x.1.after,Region.binds .any e=true→e.on<j
  mask:∀ (j:Nat) (x:Oper×rx),l[j]? = some x→∃ m:Nat,ms[j]? = some m∧∀ i:Nat,m.testBit i=true→∃ e∈x.1.after,Region.binds .any e=true∧(e.on=i∨∃ m':Nat,ms[e.on]? = some m'∧m'.testBit i=true)
  pair:∀ (i j:Nat) (x y:Oper×rx),l[i]? = some x→l[j]? = some y→i<j→(∃ m:Nat,ms[j]? = some m∧m.testBit i=true)∨ku ops x.1 x.2 y.1 y.2=true
theorem zj(ms:List Nat) :∀ (es:List Edge) (m0 i:Nat),(es.foldl (fun m e=>bif Region.binds .any e then m ||| (2^e.on ||| ms.getD e.on 0) else m) m0).testBit i=true →
    m0.testBit i=true∨∃ e∈es,Region.binds .any e=true∧(e.on=i∨(ms.getD e.on 0).testBit i=true)
  | [],m0,i,h=>.inl h
  | e::es,m0,i,h=>by
    simp only [List.foldl_cons] at h
    rcases zj ms es _ i h with h | ⟨e',h1,h2,h3⟩
    · cases hb:Region.binds .any e with
      | false=>rw [hb] at h;exact .inl h
      | true =>
        rw [hb] at h
        simp only [cond_true,Nat.testBit_or,Bool.or_eq_true,Nat.testBit_two_pow,decide_eq_true_eq] at h
        rcases h with h | h | h
        · exact .inl h
        · exact .inr ⟨e,by simp,hb,.inl h⟩
        · exact .inr ⟨e,by simp,hb,.inr h⟩
    · exact .inr ⟨e',by simp [h1],h2,h3⟩
theorem sv{ops:Array Oper}{mask:Nat}{o':Oper}{r':rx} :∀ {l:List (Oper×rx)} {i:Nat},qw ops mask o' r' i l=true→∀ k x,l[k]? = some x→mask.testBit (i+k)=true∨ku ops x.1 x.2 o' r'=true
  | [],_,_,k,x,h=>by simp at h
  | y::l,i,h,0,x,hx=>by
    simp only [qw,Bool.and_eq_true,Bool.or_eq_true] at h
    simp at hx;subst hx;simpa using h.1
  | y::l,i,h,k+1,x,hx=>by
    simp only [qw,Bool.and_eq_true,Bool.or_eq_true] at h
    have:=sv h.2 k x (by simpa using hx)
    rw [show i+1+k=i+(k+1) from by omega] at this;exact this
theorem xB{ops:Array Oper} :∀ (l pre:List (Oper×rx)) (ms:List Nat),ms.length=pre.length→zh ops pre ms l=true→HU ops pre ms→∃ ms',HU ops (pre++l) ms'
  | [],pre,ms,_,_,D=>⟨ms,by simpa using D⟩
  | x::l,pre,ms,hl,h,D=>by
    simp only [zh,Bool.and_eq_true] at h
    obtain ⟨h1,h2,h3⟩:=h
    have:=xB l (pre++[x]) (ms++[rB ms x.1]) (by simp [hl]) h3 ?_
    · simpa using this
    have old:∀ (j:Nat) (y:Oper×rx),(pre++[x])[j]? = some y→(j<pre.length∧pre[j]? = some y)∨(j=pre.length∧y=x):=by
      intro j y hy
      rw [List.getElem?_append] at hy
      split at hy
      · rename_i q;exact .inl ⟨q,hy⟩
      · rename_i q
        have:j-pre.length=0:=by
          rcases Nat.eq_zero_or_pos (j-pre.length) with r | r
          · exact r
          · rw [List.getElem?_eq_none (by simp;omega)] at hy;cases hy
        rw [this] at hy;simp at hy;exact .inr ⟨by omega,hy.symm⟩
    have msl:∀ (j m:Nat),ms[j]? = some m→(ms++[rB ms x.1])[j]? = some m:=by
      intro j m hm
      rw [List.getElem?_append_left (List.getElem?_eq_some_iff.1 hm).1];exact hm
    have msn:(ms++[rB ms x.1])[pre.length]? = some (rB ms x.1):=by
      rw [←hl,List.getElem?_append_right (Nat.le_refl _)];simp
    have hedge:∀ e∈x.1.after,Region.binds .any e=true→e.on<pre.length:=by
      intro e he hb
      have:=List.all_eq_true.1 h1 e (by simpa using he)
      rw [hb] at this
      simpa [Nat.blt_eq] using this
    refine ⟨fun j y hy=>?_,fun j y hy=>?_,fun i j a b ha hb hij=>?_⟩
    · rcases old j y hy with ⟨q,hy⟩ | ⟨rfl,rfl⟩
      · exact D.edge j y hy
      · exact hedge
    · rcases old j y hy with ⟨q,hy⟩ | ⟨rfl,rfl⟩
      · obtain ⟨m,k1,k2⟩:=D.mask j y hy
        refine ⟨m,msl j m k1,fun i hi=>?_⟩
        obtain ⟨e,e1,e2,e3⟩:=k2 i hi
        exact ⟨e,e1,e2,e3.imp id fun ⟨m',q1,q2⟩=>⟨m',msl _ m' q1,q2⟩⟩
      · refine ⟨_,msn,fun i hi=>?_⟩
        rcases zj ms y.1.after.toList 0 i hi with q | ⟨e,e1,e2,e3⟩
        · simp at q
        · refine ⟨e,by simpa using e1,e2,e3.imp id fun q=>?_⟩
          rw [List.getD_eq_getElem?_getD] at q
          cases hm:ms[e.on]? with
          | none=>rw [hm] at q;simp at q
          | some m'=>rw [hm] at q;exact ⟨m',msl _ m' hm,q⟩
    · rcases old j b hb with ⟨q,hb⟩ | ⟨rfl,rfl⟩
      · rcases old i a ha with ⟨q',ha⟩ | ⟨rfl,rfl⟩
        · exact (D.pair i j a b ha hb hij).imp (fun ⟨m,k1,k2⟩=>⟨m,msl j m k1,k2⟩) id
        · omega
      · rcases old i a ha with ⟨q',ha⟩ | ⟨rfl,rfl⟩
        · have:=sv h2 i a ha
          rw [Nat.zero_add] at this
          exact this.imp (fun k=>⟨_,msn,k⟩) id
        · omega
theorem Fc{l:List Operand}{t:Nat}(h:Operand.tmp t∈l) :t∈Fa l:=by
  simp only [Fa,List.mem_filterMap];exact ⟨_,h,rfl⟩
theorem DZ{C:tn}{run:cO}{ops:Array Oper}{n0 i:Nat}{o:Oper}{T T':List AV}{h h':aK}{p p':cZ}{r:rx}{obs:List Bool}(hr:uL C run ops n0 i o T h p=some (r,obs,p')) 
    (hT:∀ t∈md ops o,T'[t]? = T[t]?) (hh:∀ b∈r.reads,aw h' b=aw h b):uL C run ops n0 i o T' h' p=some (r,obs,p'):=by
  have hw:rz ops o T'=rz ops o T:=by
    unfold rz
    cases hg:o.guard with
    | none=>rfl
    | some x =>
      obtain ⟨j,want⟩:=x
      simp only
      cases hs:ry ops j with
      | none=>rfl
      | some d=>simp only;rw [hT d (by simp [md,hg,hs])]
  unfold uL at hr ⊢
  rw [hw]
  split at hr
  · cases hr
  · exact hr
  · split at hr
    · cases hr
    · rename_i r' hop
      have:J7 C run (I1 T') (aw h') (n0+i*lh) p o.op=some r':=by
        refine GW hop (fun x hx=>?_) (fun b hb=>?_)
        · cases x with
          | tmp t=>simp only [I1];rw [hT t (by simp only [md,List.mem_append];exact .inr (.inl (Fc (by simpa using hx))))]
          | _=>rfl
        · apply hh
          split at hr
          · cases hr
          · simp only [Option.some.injEq,Prod.mk.injEq] at hr;rw [←hr.1];exact hb
      simp only [this]
      exact hr
def zk(C:tn)(run:cO)(ops:Array Oper)(n0:Nat) :Nat→List Oper→List AV→aK→cZ→Option (List rx×List AV×aK×List Bool×cZ)
  | _,[],T,h,p=>some ([],T,h,[],p)
  | i,o::l,T,h,p =>
    match uL C run ops n0 i o T h p with
    | none=>none
    | some (r,obs,p') =>
      match zk C run ops n0 (i+1) l (uM T o.dst r.v) (bo r.sets h) p' with
      | none=>none
      | some (rs,T',h',obs',p'')=>some (r::rs,T',h',obs++obs',p'')
theorem xC{C:tn}{run:cO}{ops:Array Oper}{n0:Nat} :∀ (l:List Oper) (i:Nat) {T T':List AV} {h h':aK} {p p':cZ} {obs:List Bool} {rs:List rx},zk C run ops n0 i l T h p=some (rs,T',h',obs,p')→ak obs →
    rs.length=l.length∧bp (l.zip rs) (T,h)=(T',h')∧∀ (j:Nat) (o:Oper),l[j]? = some o→∃ r obs' q q',rs[j]? = some r∧ak obs' ∧
      uL C run ops n0 (i+j) o (bp ((l.zip rs).take j) (T,h)).1 (bp ((l.zip rs).take j) (T,h)).2 q=some (r,obs',q')
  | [],i,T,T',h,h',p,p',obs,rs,hr,_=>by
    simp only [zk,Option.some.injEq,Prod.mk.injEq] at hr;obtain ⟨rfl,rfl,rfl,rfl,rfl⟩:=hr
    exact ⟨rfl,rfl,fun j o h=>by simp at h⟩
  | o::l,i,T,T',h,h',p,p',obs,rs,hr,ho=>by
    simp only [zk] at hr
    split at hr
    case h_1=>cases hr
    rename_i r obs1 p1 h1
    split at hr
    case h_1=>cases hr
    rename_i rs2 T2 h2 obs2 p2 h3
    simp only [Option.some.injEq,Prod.mk.injEq] at hr;obtain ⟨rfl,rfl,rfl,rfl,rfl⟩:=hr
    rw [aB] at ho
    obtain ⟨a1,a2,a3⟩:=xC l (i+1) h3 ho.2
    refine ⟨by simp [a1],by simpa [bp] using a2,fun j o' hj=>?_⟩
    cases j with
    | zero=>simp at hj;subst hj;exact ⟨r,obs1,p,p1,by simp,ho.1,by simpa [bp] using h1⟩
    | succ j =>
      obtain ⟨r',ob,q,q',b1,b2,b3⟩:=a3 j o' (by simpa using hj)
      refine ⟨r',ob,q,q',by simpa using b1,b2,?_⟩
      rw [show i+(j+1)=i+1+j from by omega]
      simpa [bp] using b3
theorem BN{p q:Nat→Bool} :∀ {l:List Nat} {j:Nat},j∈l→p j=true→q j=false→(∀ i,q i=true→p i=true)→l.countP q<l.countP p
  | [],_,h,_,_,_=>by cases h
  | x::l,j,h,hp,hq,hi=>by
    have mono:∀ l:List Nat,l.countP q≤l.countP p:=fun l=>List.countP_mono_left fun x _=>hi x
    simp only [List.countP_cons]
    rcases List.mem_cons.1 h with rfl | h
    · rw [hp,hq];have:=mono l;simp;omega
    · have:=BN h hp hq hi
      by_cases hx:q x=true
      · rw [hx,hi x hx];omega
      · have hq':q x=false:=by simpa using hx
        rw [hq'];simp only [Bool.false_eq_true,if_false];split<;>omega
theorem Ja{i j y:Nat}(h1:i*lh≤y)(h2:y<i*lh+lh)(h3:j*lh≤y)(h4:y<j*lh+lh) :i=j:=by
  have hS:0<lh:=by decide
  have a:y/lh=i:=by rw [Nat.div_eq_iff hS];omega
  have b:y/lh=j:=by rw [Nat.div_eq_iff hS];omega
  omega
theorem HV{C:tn}(hC:C.Ok){run:cO}(hrun:zc C.P run){ops:Array Oper}{n0:Nat}{T0:List AV}{h0:aK}{rs:List rx}{ms:List Nat}(D:HU ops (ops.toList.zip rs) ms)(hlen:rs.length=ops.size) 
    (each:∀ (j:Nat) (o:Oper),ops.toList[j]? = some o→∃ r obs' q q',rs[j]? = some r∧ak obs' ∧
      uL C run ops n0 j o (bp ((ops.toList.zip rs).take j) (T0,h0)).1 (bp ((ops.toList.zip rs).take j) (T0,h0)).2 q=some (r,obs',q'))
    {Q:Exit→Act→World→Prop}:∀ (fuel:Nat) (listed:Array Bool),listed.size=ops.size→(∀ (j:Nat) (o:Oper),ops[j]? = some o→listed.getD j false=true→∀ e∈o.after,Region.binds .any e=true→listed.getD e.on false=true) →
      (List.range ops.size).countP (fun i=>!listed.getD i false)≤fuel→∀ {ρ:ae} {w:World} {a:Act},HR ρ w (jI (fun i=>listed.getD i false) 0 (ops.toList.zip rs) (T0,h0)).2 (n0+ops.size*lh) →
      (∀ b,ρ.ok b→b<n0∨∃ i,listed.getD i false=true∧n0+i*lh≤b∧b<n0+i*lh+lh)→a.defers=[]→bG ρ w (jI (fun i=>listed.getD i false) 0 (ops.toList.zip rs) (T0,h0)).1 a.tmps.toList →
      (∀ ρ' w' a',gZ ρ ρ' w→dU ρ.live w w'→HR ρ' w' (bp (ops.toList.zip rs) (T0,h0)).2 (n0+ops.size*lh)→a'.defers=[]→bG ρ' w' (bp (ops.toList.zip rs) (T0,h0)).1 a'.tmps.toList→(∀ b,ρ'.ok b→ρ.ok b∨n0≤b)→Q .normal a' w') →
      wpAny C.P .any ops Q fuel listed a w:=by
  have hzl:(ops.toList.zip rs).length=ops.size:=by simp [hlen]
  have zget:∀ (j:Nat) (o:Oper) (r:rx),ops[j]? = some o→rs[j]? = some r→(ops.toList.zip rs)[j]? = some (o,r):=by
    intro j o r h1 h2
    rw [List.getElem?_zip_eq_some];exact ⟨by simpa using h1,h2⟩
  have zinv:∀ (j:Nat) (x:Oper×rx),(ops.toList.zip rs)[j]? = some x→ops[j]? = some x.1∧rs[j]? = some x.2:=by
    intro j x hx
    have:=List.getElem?_zip_eq_some.1 (show (ops.toList.zip rs)[j]? = some (x.1,x.2) from hx)
    exact ⟨by simpa using this.1,this.2⟩

  have allL:∀ (listed:Array Bool),listed.size=ops.size→(∀ i,i<ops.size→listed.getD i false=true)→jI (fun i=>listed.getD i false) 0 (ops.toList.zip rs) (T0,h0)=bp (ops.toList.zip rs) (T0,h0):=by
    intro listed hs hall
    have:∀ (l:List (Oper×rx)) (i:Nat) (s:List AV×aK),i+l.length≤ops.size→jI (fun i=>listed.getD i false) i l s=bp l s:=by
      intro l
      induction l with
      | nil=>intro _ _ _;rfl
      | cons x l ih =>
        intro i s hi
        simp only [List.length_cons] at hi
        simp only [jI,bp]
        rw [hall i (by omega)]
        exact ih (i+1) _ (by omega)
    exact this _ 0 _ (by rw [hzl];omega)

  have down:∀ (listed:Array Bool),(∀ (j:Nat) (o:Oper),ops[j]? = some o→listed.getD j false=true→∀ e∈o.after,Region.binds .any e=true→listed.getD e.on false=true) →
      ∀ (j:Nat) (o:Oper),ops[j]? = some o→(∀ e∈o.after,Region.binds .any e=true→listed.getD e.on false=true)→∀ (i m:Nat),ms[j]? = some m→m.testBit i=true→listed.getD i false=true:=by
    intro listed hcl j
    induction j using Nat.strongRecOn with
    | _ j ih =>
      intro o ho hpre i m hm hbit
      have hlt:j<ops.size:=(Array.getElem?_eq_some_iff.1 ho).1
      obtain ⟨r,hr⟩:∃ r,rs[j]? = some r:=⟨rs[j]'(by omega),List.getElem?_eq_getElem (by omega)⟩
      have hz:=zget j o r ho hr
      obtain ⟨m',k1,k2⟩:=D.mask j _ hz
      rw [hm] at k1;cases k1
      obtain ⟨e,e1,e2,e3⟩:=k2 i hbit
      have hL:=hpre e e1 e2
      rcases e3 with rfl | ⟨m'',q1,q2⟩
      · exact hL
      · have hej:=D.edge j _ hz e e1 e2
        have hon:e.on<ops.size:=by omega
        exact ih e.on hej _ (Array.getElem?_eq_getElem hon) (hcl e.on _ (Array.getElem?_eq_getElem hon) hL) i m'' q1 q2
  intro fuel
  induction fuel with
  | zero =>
    intro listed hs hcl hcnt ρ w a hh hok hd hT hQ
    have hall:∀ i,i<ops.size→listed.getD i false=true:=by
      intro i hi
      have h0:=List.countP_eq_zero.1 (Nat.le_zero.1 hcnt) i (List.mem_range.2 hi)
      simpa using h0
    simp only [wpAny]
    refine ⟨?_,?_⟩
    · cases hr:Region.ready .any ops listed with
      | nil=>rfl
      | cons x xs =>
        have hx:x∈Region.ready .any ops listed:=by rw [hr];simp
        obtain ⟨k1,o,k2,_⟩:=mem_ready.1 hx
        have hlt:x<ops.size:=(Array.getElem?_eq_some_iff.1 k2).1
        have:=hall x hlt
        rw [Array.getD_eq_getD_getElem?,Array.getElem?_eq_getElem (by omega)] at this k1
        simp only [Option.getD_some] at this k1
        rw [this] at k1;cases k1
    · rw [allL listed hs hall] at hh hT
      exact hQ ρ w a (gZ.refl _ _) (dU.refl _ _) hh hd hT (fun b q=>.inl q)
  | succ fuel ih =>
    intro listed hs hcl hcnt ρ w a hh hok hd hT hQ
    simp only [wpAny]
    have sameD:∀ j,j<ops.size→listed.getD j true=listed.getD j false:=by
      intro j hj
      rw [Array.getD_eq_getD_getElem?,Array.getD_eq_getD_getElem?,Array.getElem?_eq_getElem (by omega)];rfl
    refine ⟨fun hr=>?_,fun j hj=>?_⟩
    · have hall:∀ i,i<ops.size→listed.getD i false=true:=by
        intro i
        induction i using Nat.strongRecOn with
        | _ i ihi =>
          intro hi
          cases hl:listed.getD i false with
          | true=>rfl
          | false =>
            have ho:=Array.getElem?_eq_getElem hi
            obtain ⟨r,hrr⟩:∃ r,rs[i]? = some r:=⟨rs[i]'(by omega),List.getElem?_eq_getElem (by omega)⟩
            have hz:=zget i _ r ho hrr
            have:i∈Region.ready .any ops listed:=mem_ready.2 ⟨by rw [sameD i hi];exact hl,_,ho,fun e he hb=>ihi e.on (D.edge i _ hz e he hb) (by have:=D.edge i _ hz e he hb;omega)⟩
            rw [hr] at this;cases this
      rw [allL listed hs hall] at hh hT
      exact hQ ρ w a (gZ.refl _ _) (dU.refl _ _) hh hd hT (fun b q=>.inl q)
    · obtain ⟨k1,o,ho,hpre⟩:=mem_ready.1 hj
      have hlt:j<ops.size:=(Array.getElem?_eq_some_iff.1 ho).1
      rw [sameD j hlt] at k1
      obtain ⟨r,obs',q,q',hr,hob,hone⟩:=each j o (by simpa using ho)
      have hz:=zget j o r ho hr

      have agree:∀ (i:Nat) (x:Oper×rx),(ops.toList.zip rs)[i]? = some x→i≠j→ku ops x.1 x.2 o r=false→ku ops o r x.1 x.2=false→listed.getD i false=decide (i<j):=by
        intro i x hx hne n1 n2
        have hxi:=zinv i x hx
        rcases Nat.lt_or_gt_of_ne hne with hij | hij
        · rcases D.pair i j x (o,r) hx hz hij with ⟨m,hm,hb⟩ | hap
          · rw [down listed hcl j o ho hpre i m hm hb];simp [hij]
          · simp only at hap;rw [n1] at hap;cases hap
        · rcases D.pair j i (o,r) x hz hx hij with ⟨m,hm,hb⟩ | hap
          · have : ¬ i<j:=by omega
            simp only [this,decide_false]
            cases hl:listed.getD i false with
            | false=>rfl
            | true =>
              have:=down listed hcl i x.1 hxi.1 (hcl i x.1 hxi.1 hl) j m hm hb
              rw [k1] at this;cases this
          · simp only at hap;rw [n2] at hap;cases hap
      have napT:∀ (x:Oper×rx) (t:Nat),x.1.dst=some t→t∈md ops o→ku ops x.1 x.2 o r=false∧ku ops o r x.1 x.2=false:=by
        intro x t hdst ht
        constructor
        · cases hap:ku ops x.1 x.2 o r with
          | false=>rfl
          | true=>simp only [ku,Bool.and_eq_true] at hap;exact (rC hap.1 t (by simp [hdst]) ht).elim
        · cases hap:ku ops o r x.1 x.2 with
          | false=>rfl
          | true=>simp only [ku,Bool.and_eq_true] at hap;exact (rC hap.2.1 t (by simp [hdst]) ht).elim
      have napH:∀ (x:Oper×rx) (b:Nat),b∈kC x.2.sets→b∈r.reads++kC r.sets→ku ops x.1 x.2 o r=false∧ku ops o r x.1 x.2=false:=by
        intro x b hx hb
        constructor
        · cases hap:ku ops x.1 x.2 o r with
          | false=>rfl
          | true=>simp only [ku,Bool.and_eq_true] at hap;exact (rC hap.2.2.1 b hx hb).elim
        · cases hap:ku ops o r x.1 x.2 with
          | false=>rfl
          | true=>simp only [ku,Bool.and_eq_true] at hap;exact (rC hap.2.2.2 b hx hb).elim
      have eqT:∀ t∈md ops o,(jI (fun i=>listed.getD i false) 0 (ops.toList.zip rs) (T0,h0)).1[t]? = (bp ((ops.toList.zip rs).take j) (T0,h0)).1[t]?:=by
        intro t ht
        have:=yx (ops.toList.zip rs) 0 j (T0,h0)
        rw [←this]
        refine CC _ 0 (fun k x hx hdst=>?_) rfl
        rw [Nat.zero_add,Nat.zero_add]
        by_cases hkj:k=j
        · subst hkj;rw [k1];simp
        · obtain ⟨n1,n2⟩:=napT x t hdst ht;exact agree k x hx hkj n1 n2
      have eqH:∀ b∈r.reads++kC r.sets,aw (jI (fun i=>listed.getD i false) 0 (ops.toList.zip rs) (T0,h0)).2 b=aw (bp ((ops.toList.zip rs).take j) (T0,h0)).2 b:=by
        intro b hb
        have:=yx (ops.toList.zip rs) 0 j (T0,h0)
        rw [←this]
        refine CD _ 0 (fun k x hx cu=>?_) rfl
        rw [Nat.zero_add,Nat.zero_add]
        by_cases hkj:k=j
        · subst hkj;rw [k1];simp
        · obtain ⟨n1,n2⟩:=napH x b cu hb;exact agree k x hx hkj n1 n2
      have hloc:=DZ hone eqT (fun b hb=>eqH b (by simp [hb]))

      have L'eq:∀ i,(listed.setIfInBounds j true).getD i false=if i=j then true else listed.getD i false:=by
        intro i
        by_cases hij:i=j
        · subst hij;rw [if_pos rfl,Array.getD_eq_getD_getElem?];simp [hs,hlt]
        · rw [if_neg hij];exact getD_set_ne false (fun e=>hij e.symm)
      have step1:=yx (ops.toList.zip rs) 0 (j+1) (T0,h0)
      have hsplit:bp ((ops.toList.zip rs).take (j+1)) (T0,h0)=(uM (bp ((ops.toList.zip rs).take j) (T0,h0)).1 o.dst r.v,bo r.sets (bp ((ops.toList.zip rs).take j) (T0,h0)).2):=by
        have hjl:j<(ops.toList.zip rs).length:=by rw [hzl];exact hlt
        have:(ops.toList.zip rs).take (j+1)=(ops.toList.zip rs).take j++[(o,r)]:=by
          rw [List.take_succ_eq_append_getElem hjl]
          have:=List.getElem?_eq_getElem hjl
          rw [hz] at this
          rw [←Option.some.inj this]
        rw [this,zi];rfl
      have newT:∀ t:Nat,(uM (jI (fun i=>listed.getD i false) 0 (ops.toList.zip rs) (T0,h0)).1 o.dst r.v)[t]? = (jI (fun i=>(listed.setIfInBounds j true).getD i false) 0 (ops.toList.zip rs) (T0,h0)).1[t]?:=by
        intro t
        rw [uQ]
        by_cases hdst:o.dst=some t
        · rw [if_pos hdst]
          have e1:=eqT t (by simp [md,hdst])
          rw [e1]
          have e2:(jI (fun i=>(listed.setIfInBounds j true).getD i false) 0 (ops.toList.zip rs) (T0,h0)).1[t]? = (bp ((ops.toList.zip rs).take (j+1)) (T0,h0)).1[t]?:=by
            rw [←step1]
            refine CC _ 0 (fun k x hx hd2=>?_) rfl
            rw [Nat.zero_add,Nat.zero_add,L'eq]
            by_cases hkj:k=j
            · subst hkj;simp
            · rw [if_neg hkj]
              obtain ⟨n1,n2⟩:=napT x t hd2 (by simp [md,hdst])
              rw [agree k x hx hkj n1 n2]
              by_cases q:k<j<;>simp [q]<;>omega
          rw [e2,hsplit,uQ,if_pos hdst]
        · rw [if_neg hdst]
          refine CC _ 0 (fun k x hx hd2=>?_) rfl
          rw [Nat.zero_add,L'eq]
          by_cases hkj:k=j
          · subst hkj;rw [hz] at hx;cases hx;exact absurd hd2 hdst
          · rw [if_neg hkj]
      have newH:∀ b:Nat,aw (jI (fun i=>(listed.setIfInBounds j true).getD i false) 0 (ops.toList.zip rs) (T0,h0)).2 b=aw (bo r.sets (jI (fun i=>listed.getD i false) 0 (ops.toList.zip rs) (T0,h0)).2) b:=by
        intro b
        by_cases hb:b∈kC r.sets
        · rw [kQ (h:=(jI (fun i=>listed.getD i false) 0 (ops.toList.zip rs) (T0,h0)).2) (h':=(bp ((ops.toList.zip rs).take j) (T0,h0)).2) r.sets (eqH b (by simp [hb]))]
          have e2:aw (jI (fun i=>(listed.setIfInBounds j true).getD i false) 0 (ops.toList.zip rs) (T0,h0)).2 b=aw (bp ((ops.toList.zip rs).take (j+1)) (T0,h0)).2 b:=by
            rw [←step1]
            refine CD _ 0 (fun k x hx hd2=>?_) rfl
            rw [Nat.zero_add,Nat.zero_add,L'eq]
            by_cases hkj:k=j
            · subst hkj;simp
            · rw [if_neg hkj]
              obtain ⟨n1,n2⟩:=napH x b hd2 (by simp [hb])
              rw [agree k x hx hkj n1 n2]
              by_cases q:k<j<;>simp [q]<;>omega
          rw [e2,hsplit]
        · rw [kR _ hb]
          refine CD _ 0 (fun k x hx hd2=>?_) rfl
          rw [Nat.zero_add,L'eq]
          by_cases hkj:k=j
          · subst hkj;rw [hz] at hx;cases hx;exact absurd hd2 hb
          · rw [if_neg hkj]
      have hS:j*lh+lh≤ops.size*lh:=by rw [←Nat.succ_mul];exact Nat.mul_le_mul_right _ hlt
      refine xA hC hrun ho hloc hob hh (fun x h1 h2 hbad=>?_) (by omega) hd hT ?_
      · rcases hok _ hbad with q | ⟨i,q1,q2,q3⟩
        · omega
        · have:i=j:=Ja (y:=x-n0) (by omega) (by omega) (by omega) (by omega)
          subst this;rw [k1] at q1;cases q1
      intro ρ' w' a' E W hh' hd' hT' hok'
      have hlist:uM (jI (fun i=>listed.getD i false) 0 (ops.toList.zip rs) (T0,h0)).1 o.dst r.v=(jI (fun i=>(listed.setIfInBounds j true).getD i false) 0 (ops.toList.zip rs) (T0,h0)).1:=List.ext_getElem? newT
      rw [hlist] at hT'
      refine ih (listed.setIfInBounds j true) (by simpa using hs) (fun i x hx hl e he hb=>?_) ?_ (hh'.congr newH) (fun b hb=>?_) hd' hT' ?_
      · rw [L'eq] at hl ⊢
        by_cases hij:i=j
        · subst hij
          rw [ho] at hx;cases hx
          split
          · rfl
          · exact hpre e he hb
        · rw [if_neg hij] at hl
          split
          · rfl
          · exact hcl i x hx hl e he hb
      · have:=BN (l:=List.range ops.size) (j:=j) (p:=fun i=>!listed.getD i false) (q:=fun i=>!(listed.setIfInBounds j true).getD i false) (List.mem_range.2 hlt) (by simp only [k1];rfl) (by simp only [L'eq,if_true];rfl)
          (fun i hi=>by
            simp only [L'eq] at hi ⊢
            split at hi
            · cases hi
            · exact hi)
        omega
      · rcases hok' b hb with q | q
        · rcases hok b q with q | ⟨i,q1,q2⟩
          · exact .inl q
          · refine .inr ⟨i,?_,q2⟩
            rw [L'eq];split
            · rfl
            · exact q1
        · exact .inr ⟨j,by rw [L'eq,if_pos rfl],q⟩
      · intro ρ'' w'' a'' E' W' hh'' hd'' hT'' hb''
        exact hQ ρ'' w'' a'' (E.trans E' W.size) (W.trans W' (fun x hx q=>E.new x hx q)) hh'' hd'' hT'' (fun b q=>by
          rcases hb'' b q with q | q
          · rcases hok' b q with q | q
            · exact .inl q
            · exact .inr (by omega)
          · exact .inr q)
theorem jk{d:aj}(h:d.kept=true) :d.foreign=true:=by
  cases d<;>first | rfl | exact cC h
mutual
def BO (g:Nat→Option aj):Nat→AV→AV
  | 0,_=>.any
  | n+1,v =>
    match v with
    | .ptr b w i j=>match g b with
      | some d=>let d':=qx g n d;bif d'.kept then .iptr .free d' w i j else .any
      | none=>.any
    | .sl b w es i len _=>match g b with
      | some d=>let d':=qx g n d;bif d'.kept then .imm .free d' w es i len else .any
      | none=>.any
    | .fn f l1 l2=>.fn f (zl g n l1) (zl g n l2)
    | .agg l=>.agg (zl g n l)
    | .tup l=>.tup (zl g n l)
    | .iface t v=>.iface t (BO g n v)
    | v=>v
def zl (g:Nat→Option aj):Nat→List AV→List AV
  | 0,l=>l.map fun _=>.any
  | n+1,l =>
    match l with
    | []=>[]
    | v::l=>BO g n v::zl g n l
def qx (g:Nat→Option aj):Nat→aj→aj
  | 0,_=>.vs []
  | n+1,d =>
    match d with
    | .vs l=>.vs (zl g n l)
    | d=>d
end
theorem zm(g:Nat→Option aj)(n:Nat)(d:aj)(h:d.recKept) :(qx g n d).recKept:=by
  cases n with
  | zero=>trivial
  | succ n=>cases d<;>first | exact h | trivial
structure Fd (ρ τ:ae):Prop where
  out:τ.out=ρ.out
  live:∀ bl,τ.live bl→ρ.live bl
theorem Fd.avoid{ρ τ:ae}(L:Fd ρ τ){l:Lv}{bl:Nat}(h:ρ.avoid l bl) :τ.avoid l bl:=by
  refine oC (d:=0) (fun j _ q=>?_) h
  cases j with
  | zero=>exact L.live bl q
  | succ j=>simp only [Nat.add_zero,ae.own] at q ⊢;rw [L.out] at q;exact q
theorem bP{ρ τ:ae}(L:Fd ρ τ){w:World}{v:AV}{u:Value}(h:VR ρ w v u) :v.foreign=true→VR τ w v u:=by
  induction h using VR.rec (motive_2:=fun l c _=>aG l=true→bG τ w l c) with
  | int k n=>exact fun _=>.int k n
  | bool kn b=>exact fun _=>.bool kn b
  | flt ex x y h=>exact fun _=>.flt ex x y h
  | str s=>exact fun _=>.str s
  | nptr=>exact fun _=>.nptr
  | ptr b k i j hb=>intro hk;simp [AV.foreign] at hk
  | iptr bw d k i j bl o u ha hb hc hv hr hk hg ih=>exact fun _=>.iptr bw d k i j bl o u (L.avoid ha) hb hc (fun x v hx=>ih x v hx (az hr hg x v hx)) hr hk hg
  | nsl=>exact fun _=>.nsl
  | esl a=>exact fun _=>.esl a
  | zsl a c=>exact fun _=>.zsl a c
  | nan n h=>exact fun _=>.nan n h
  | sl b k es i len cap cap' hb hcap hl c t hh hs=>intro hk;simp [AV.foreign] at hk
  | slEnd b k es i a=>intro hk;simp [AV.foreign] at hk
  | imm bw d k es i len cap bl o u ha hb hc hv hl hr hk hg ih=>exact fun _=>.imm bw d k es i len cap bl o u (L.avoid ha) hb hc (fun x v hx=>ih x v hx (az hr hg x v hx)) hl hr hk hg
  | immEnd bw d k es i cap a hr hk hg=>exact fun _=>.immEnd bw d k es i cap a hr hk hg
  | fn f l1 l2 c1 c2 h1 h2 i1 i2=>intro hk;simp only [AV.foreign,Bool.and_eq_true] at hk;exact .fn f l1 l2 c1 c2 (i1 hk.1) (i2 hk.2)
  | nfn=>exact fun _=>.nfn
  | gmap ks vs bl es cl u ha hb hh hin hex hv hl hk ih=>exact fun _=>.gmap ks vs bl es cl u (L.avoid ha) hb hh hin hex (fun x v hx=>ih x v hx (dY (lg hk x v hx))) hl hk
  | gvar c bl t fr ha hb hh=>exact fun _=>.gvar c bl t fr (L.avoid ha) hb hh
  | agg l c h ih=>intro hk;exact .agg l c (ih hk)
  | tup l c h ih=>intro hk;exact .tup l c (ih hk)
  | iface t v u h ih=>intro hk;exact .iface t v u (ih hk)
  | niface=>exact fun _=>.niface
  | any u=>exact fun _=>.any u
  | nil=>exact bG.nil
  | cons v u l c h t i1 i2=>rename_i hk;simp only [aG,Bool.and_eq_true] at hk;exact bG.cons v u l c (i1 hk.1) (i2 hk.2)
mutual
theorem CE {ρ τ:ae} (L:Fd ρ τ) {w:World} {h:aK} {m:Nat} (hh:HR ρ w h m) (off:∀ b d,aw h b=some d→ρ.ok b→¬ τ.live (ρ.at_ b)):∀ (n:Nat) {v:AV} {u:Value},VR ρ w v u→VR τ w (BO (aw h) n v) u
  | 0,v,u,hv=>.any u
  | n + 1, v, u, hv => by
    have free:∀ (b:Nat) (d:aj),aw h b=some d→ρ.ok b→τ.avoid .free (ρ.at_ b):=by
      intro b d hd hok j _
      cases j with
      | zero=>exact off b d hd hok
      | succ j=>simp only [ae.own];rw [L.out];exact hh.fresh _ (hh.real hd hok).1 j
    have content:∀ (b:Nat) (d:aj),aw h b=some d→ρ.ok b→∀ x v,(qx (aw h) n d).cell? x=some v→w.cell? ⟨ρ.at_ b,0+x,none⟩=some ((w.cell? ⟨ρ.at_ b,x,none⟩).getD undef)∧VR τ w v ((w.cell? ⟨ρ.at_ b,x,none⟩).getD undef):=by
      intro b d hd hok x v hx
      obtain ⟨_,hrk,c,t,hc,hcv⟩:=hh.real hd hok
      obtain ⟨u,q1,q2⟩:=D0 L hh off n (ρ.at_ b) (fun x v hx=>by
        obtain ⟨u,k1,k2⟩:=hcv x v hx
        exact ⟨u,by simp [World.cell?,hc,k1],k2⟩) hrk x v hx
      rw [Nat.zero_add,q1];exact ⟨rfl,q2⟩
    cases v with
    | ptr b k i j =>
      simp only [BO]
      split
      · rename_i d hd
        have hrk:=hh.rk hd
        cases hk:(qx (aw h) n d).kept with
        | false=>exact .any _
        | true =>
          simp only [cond_true]
          cases hv with | ptr _ _ _ _ hb =>
          have:=VR.iptr (ρ:=τ) (w:=w) .free (qx (aw h) n d) k i j (ρ.at_ b) 0 (fun x=>(w.cell? ⟨ρ.at_ b,x,none⟩).getD undef) (free b d hd hb) (hh.liveLt _ (hh.real hd hb).1)
            (fun x v hx=>(content b d hd hb x v hx).1) (fun x v hx=>(content b d hd hb x v hx).2) (zm _ _ _ hrk) (fun _=>hk) (jk hk)
          simpa using this
      · exact .any _
    | sl b k es i len cap =>
      simp only [BO]
      split
      · rename_i d hd
        have hrk:=hh.rk hd
        cases hk:(qx (aw h) n d).kept with
        | false=>exact .any _
        | true =>
          simp only [cond_true]
          cases hv with
          | sl _ _ _ _ _ _ cap' hb hcap hl' c t hh' hs =>
            have:=VR.imm (ρ:=τ) (w:=w) .free (qx (aw h) n d) k es i len cap' (ρ.at_ b) 0 (fun x=>(w.cell? ⟨ρ.at_ b,x,none⟩).getD undef) (free b d hd hb) (hh.liveLt _ (hh.real hd hb).1)
              (fun x v hx=>(content b d hd hb x v hx).1) (fun x v hx=>(content b d hd hb x v hx).2) (by omega) (zm _ _ _ hrk) (fun _=>hk) (jk hk)
            simpa using this
          | slEnd=>exact .immEnd _ _ _ _ _ _ _ (zm _ _ _ hrk) (fun _=>hk) (jk hk)
      · exact .any _
    | fn f l1 l2=>cases hv with | fn _ _ _ _ _ h1 h2=>exact .fn _ _ _ _ _ (mE L hh off n h1) (mE L hh off n h2)
    | agg l=>cases hv with | agg _ _ h1=>exact .agg _ _ (mE L hh off n h1)
    | tup l=>cases hv with | tup _ _ h1=>exact .tup _ _ (mE L hh off n h1)
    | iface t v=>cases hv with | iface _ _ _ h1=>exact .iface _ _ _ (CE L hh off n h1)
    | int=>exact bP L hv rfl
    | bool=>exact bP L hv rfl
    | flt=>exact bP L hv rfl
    | str=>exact bP L hv rfl
    | nptr=>exact bP L hv rfl
    | iptr=>exact bP L hv rfl
    | nsl=>exact bP L hv rfl
    | esl=>exact bP L hv rfl
    | zsl=>exact bP L hv rfl
    | nan=>exact bP L hv rfl
    | imm=>exact bP L hv rfl
    | nfn=>exact bP L hv rfl
    | gmap=>exact bP L hv rfl
    | gvar=>exact bP L hv rfl
    | niface=>exact bP L hv rfl
    | any=>exact .any _
theorem mE {ρ τ:ae} (L:Fd ρ τ) {w:World} {h:aK} {m:Nat} (hh:HR ρ w h m) (off:∀ b d,aw h b=some d→ρ.ok b→¬ τ.live (ρ.at_ b)):∀ (n:Nat) {l:List AV} {c:List Value},bG ρ w l c→bG τ w (zl (aw h) n l) c
  | 0,[],c,hv=>by cases hv;exact .nil
  | 0,v::l,c,hv=>by
    cases hv with | cons _ u _ c' h1 h2 =>
    have:=mE L hh off 0 h2
    exact .cons _ _ _ _ (.any u) this
  | n+1,[],c,hv=>by cases hv;exact .nil
  | n+1,v::l,c,hv=>by
    cases hv with | cons _ u _ c' h1 h2=>exact .cons _ _ _ _ (CE L hh off n h1) (mE L hh off n h2)
theorem D0 {ρ τ:ae} (L:Fd ρ τ) {w:World} {h:aK} {m:Nat} (hh:HR ρ w h m) (off:∀ b d,aw h b=some d→ρ.ok b→¬ τ.live (ρ.at_ b)):∀ (n:Nat) (bl:Nat) {d:aj},(∀ x v,d.cell? x=some v→∃ u,w.cell? ⟨bl,x,none⟩=some u∧VR ρ w v u)→d.recKept →
    ∀ x v,(qx (aw h) n d).cell? x=some v→∃ u,w.cell? ⟨bl,x,none⟩=some u∧VR τ w v u
  | 0,bl,d,hc,hr,x,v,hx=>by simp [qx,aj.cell?] at hx
  | n + 1, bl, d, hc, hr, x, v, hx => by
    cases d with
    | vs l =>
      simp only [qx,aj.cell?] at hx
      have hus:bG ρ w l ((List.range l.length).map fun x=>(w.cell? ⟨bl,x,none⟩).getD undef):=by
        refine mB (by simp) fun y v u q1 q2=>?_
        obtain ⟨u',k1,k2⟩:=hc y v q1
        have hlt:y<l.length:=(List.getElem?_eq_some_iff.1 q1).1
        rw [List.getElem?_map,List.getElem?_range hlt] at q2
        simp [k1] at q2;subst q2;exact k2
      have hr2:=mE L hh off n hus
      obtain ⟨u,q1,q2⟩:=hr2.get x v hx
      rw [List.getElem?_map] at q1
      have hlt:x<l.length:=by
        rcases Nat.lt_or_ge x l.length with q | q
        · exact q
        · rw [List.getElem?_eq_none (by simpa using q)] at q1;cases q1
      rw [List.getElem?_range hlt] at q1
      obtain ⟨u',k1,_⟩:=hc x (l[x]) (List.getElem?_eq_getElem hlt)
      simp [k1] at q1;subst q1
      exact ⟨u',k1,q2⟩
    | fl xs=>obtain ⟨u,q1,q2⟩:=hc x v hx;exact ⟨u,q1,bP L q2 (az (d:=.fl xs) hr rfl x v hx)⟩
    | ns k xs=>obtain ⟨u,q1,q2⟩:=hc x v hx;exact ⟨u,q1,bP L q2 (az (d:=.ns k xs) hr rfl x v hx)⟩
    | bs xs=>obtain ⟨u,q1,q2⟩:=hc x v hx;exact ⟨u,q1,bP L q2 (az (d:=.bs xs) hr rfl x v hx)⟩
    | ss xs=>obtain ⟨u,q1,q2⟩:=hc x v hx;exact ⟨u,q1,bP L q2 (az (d:=.ss xs) hr rfl x v hx)⟩
    | rows k m get=>obtain ⟨u,q1,q2⟩:=hc x v hx;exact ⟨u,q1,bP L q2 (az (d:=.rows k m get) hr rfl x v hx)⟩
    | cols k cs=>obtain ⟨u,q1,q2⟩:=hc x v hx;exact ⟨u,q1,bP L q2 (az (d:=.cols k cs) hr rfl x v hx)⟩
end
mutual
def I2 (σ:Nat→Option Nat):AV→AV
  | .ptr b w i j=>match σ b with | some c=>.ptr c w i j | none=>.any
  | .sl b w es i len cap=>match σ b with | some c=>.sl c w es i len cap | none=>.any
  | .fn f l1 l2=>.fn f (GX σ l1) (GX σ l2)
  | .agg l=>.agg (GX σ l)
  | .tup l=>.tup (GX σ l)
  | .iface t v=>.iface t (I2 σ v)
  | v=>v
def GX (σ:Nat→Option Nat):List AV→List AV
  | []=>[]
  | v::l=>I2 σ v::GX σ l
end
def ae.renamed(ρ:ae)(keep:List Nat) :ae :=
  { at_:=fun i=>ρ.at_ ((keep[i]?).getD 0),live:=ρ.live,out:=ρ.out,ok:=fun i=>∃ b,keep[i]? = some b∧ρ.ok b }
mutual
theorem BP {ρ:ae} {keep:List Nat} {w:World}:∀ (v:AV) {u:Value},VR ρ w v u→VR (ρ.renamed keep) w (I2 (gX keep 0) v) u
  | .ptr b k i j,u,h=>by
    simp only [I2]
    split
    · rename_i c hc
      cases h with | ptr _ _ _ _ hb =>
      obtain ⟨_,hg⟩:=ru hc
      rw [Nat.sub_zero] at hg
      have:(ρ.renamed keep).at_ c=ρ.at_ b:=by simp [ae.renamed,hg]
      rw [←this];exact .ptr _ _ _ _ ⟨b,hg,hb⟩
    · exact .any u
  | .sl b k es i len cap,u,h=>by
    simp only [I2]
    split
    · rename_i c hc
      obtain ⟨_,hg⟩:=ru hc
      rw [Nat.sub_zero] at hg
      have e:(ρ.renamed keep).at_ c=ρ.at_ b:=by simp [ae.renamed,hg]
      cases h with
      | sl _ _ _ _ _ _ cap' hb hcap hl ce t hh hs=>rw [←e] at hh ⊢;exact .sl _ _ _ _ _ _ _ ⟨b,hg,hb⟩ hcap hl ce t hh hs
      | slEnd=>exact .slEnd _ _ _ _ _
    · exact .any u
  | .fn f l1 l2,u,h=>by cases h with | fn _ _ _ _ _ h1 h2=>exact .fn _ _ _ _ _ (zn l1 h1) (zn l2 h2)
  | .agg l,u,h=>by cases h with | agg _ _ h1=>exact .agg _ _ (zn l h1)
  | .tup l,u,h=>by cases h with | tup _ _ h1=>exact .tup _ _ (zn l h1)
  | .iface t v,u,h=>by cases h with | iface _ _ _ h1=>exact .iface _ _ _ (BP v h1)
  | .int ..,u,h=>bQ h rfl
  | .bool ..,u,h=>bQ h rfl
  | .flt ..,u,h=>bQ h rfl
  | .str ..,u,h=>bQ h rfl
  | .nptr,u,h=>bQ h rfl
  | .iptr ..,u,h=>bQ h rfl
  | .nsl,u,h=>bQ h rfl
  | .esl,u,h=>bQ h rfl
  | .zsl _,u,h=>bQ h rfl
  | .nan,u,h=>bQ h rfl
  | .imm ..,u,h=>bQ h rfl
  | .nfn,u,h=>bQ h rfl
  | .gmap ..,u,h=>bQ h rfl
  | .gvar _,u,h=>bQ h rfl
  | .niface,u,h=>bQ h rfl
  | .any,u,h=>.any u
theorem zn {ρ:ae} {keep:List Nat} {w:World}:∀ (l:List AV) {c:List Value},bG ρ w l c→bG (ρ.renamed keep) w (GX (gX keep 0) l) c
  | [],c,h=>by cases h;exact .nil
  | v::l,c,h=>by cases h with | cons _ u _ c' h1 h2=>exact .cons _ _ _ _ (BP v h1) (zn l h2)
theorem bQ {ρ:ae} {keep:List Nat} {w:World} {v:AV} {u:Value} (h:VR ρ w v u) (hf:v.foreign=true):VR (ρ.renamed keep) w v u :=
  bP (ρ:=ρ) (τ:=ρ.renamed keep) ⟨rfl,fun _ q=>q⟩ h hf
end
def Ku(σ:Nat→Option Nat) :aj→aj
  | .vs l=>.vs (GX σ l)
  | d=>d
theorem CF(σ:Nat→Option Nat) :∀ (l:List AV) (x:Nat),(GX σ l)[x]? = (l[x]?).map (I2 σ)
  | [],x=>by simp [GX]
  | v::l,0=>by simp [GX]
  | v::l,x+1=>by simp [GX,CF σ l x]
theorem HW{σ:Nat→Option Nat}{d:aj}(h:d.recKept) :(Ku σ d).recKept:=by
  cases d<;>first | exact h | trivial
theorem D1{σ:Nat→Option Nat}{d:aj}{x:Nat}{v:AV}(h:(Ku σ d).cell? x=some v)(hr:d.recKept) :∃ v',d.cell? x=some v'∧(v=I2 σ v'∨(v=v'∧v.foreign=true)):=by
  cases d with
  | vs l =>
    simp only [Ku,aj.cell?,CF,Option.map_eq_some_iff] at h
    obtain ⟨v',h1,rfl⟩:=h
    exact ⟨v',h1,.inl rfl⟩
  | fl xs=>exact ⟨v,h,.inr ⟨rfl,az (d:=.fl xs) hr rfl x v h⟩⟩
  | ns k xs=>exact ⟨v,h,.inr ⟨rfl,az (d:=.ns k xs) hr rfl x v h⟩⟩
  | bs xs=>exact ⟨v,h,.inr ⟨rfl,az (d:=.bs xs) hr rfl x v h⟩⟩
  | ss xs=>exact ⟨v,h,.inr ⟨rfl,az (d:=.ss xs) hr rfl x v h⟩⟩
  | rows k m get=>exact ⟨v,h,.inr ⟨rfl,az (d:=.rows k m get) hr rfl x v h⟩⟩
  | cols m cs=>exact ⟨v,h,.inr ⟨rfl,az (d:=.cols m cs) hr rfl x v h⟩⟩
def Gb(k:Nat)(R:List Nat) :List Nat:=List.range k++R.filter fun b=>Nat.ble k b
theorem GY{k i:Nat}{R:List Nat}(h:i<k) :(Gb k R)[i]? = some i:=by
  unfold Gb
  rw [List.getElem?_append_left (by simpa using h),List.getElem?_range h]
def lm(σ:Nat→Option Nat)(h:aK) :List Nat→List (Option aj)
  | []=>[]
  | b::l=>(aw h b).map (Ku σ)::lm σ h l
theorem me(σ:Nat→Option Nat)(h:aK) :∀ (l:List Nat) (i:Nat),(lm σ h l)[i]? = (l[i]?).map fun b=>(aw h b).map (Ku σ)
  | [],i=>by simp [lm]
  | b::l,0=>by simp [lm]
  | b::l,i+1=>by simp [lm,me σ h l i]
theorem lF(σ:Nat→Option Nat)(h:aK) :∀ (l:List Nat),(lm σ h l).length=l.length
  | []=>rfl
  | b::l=>by simp [lm,lF σ h l]
def zo(k:Nat)(keep:Bool)(h:aK)(v:AV) :Option mb :=
  match keep,k with
  | true,0=>some ⟨BO (aw h) dj v,[]⟩
  | _,_ =>
    let L:=Gb k (jj (aw h) dj (List.range k++Cz v) [])
    bif oQ L then some ⟨I2 (gX L 0) v,lm (gX L 0) h L⟩ else none
theorem D2{ρ ρ0:ae}{w0 w:World}{h:aK}{m:Nat}{lent:List aj}{keep:Bool}(hh:HR ρ w h m)(hN:cy ρ0 w0 lent)(E:gZ ρ0 ρ w0)(hbk:∀ i,i<lent.length→ρ.ok i→ρ0.ok i)(W:w0.heap.size≤w.heap.size){v:AV}{u:Value}(hv:VR ρ w v u){r:mb} 
    (hr:zo lent.length keep h v=some r):r.Holds ρ0 w0 w lent.length u:=by
  unfold zo at hr
  split at hr
  · rename_i k hk
    cases hr
    have none_ok:∀ b,¬ ρ0.ok b:=fun b q=>by have:=hN.heap.lt b q;omega
    have none_live:∀ bl,¬ ρ0.live bl:=fun bl q=>by obtain ⟨i,h1,_⟩:=hN.only bl q;exact none_ok i h1
    refine ⟨ρ0,gZ.refl _ _,fun i h=>by omega,⟨fun b d q=>?_,fun b c d e q=>?_,fun bl q=>(none_live bl q).elim,fun bl q=>(none_live bl q).elim,fun j bl q=>?_,fun b q=>(none_ok b q).elim,fun x hx=>bP (τ:=ρ0) ⟨E.out.symm,fun bl q=>(none_live bl q).elim⟩ (hh.rom x hx) (dY (Rom.kept x hx))⟩,?_⟩
    · simp [bL,aw] at q
    · simp [bL,aw] at q
    · exact Nat.lt_of_lt_of_le (hN.heap.outLt j bl q) W
    · exact CE (τ:=ρ0) ⟨E.out.symm,fun bl q=>(none_live bl q).elim⟩ hh (fun _ _ _ _ q=>none_live _ q) dj hv
  · simp only at hr
    generalize hL:Gb lent.length (jj (aw h) dj (List.range lent.length++Cz v) [])=L at hr
    cases hn:oQ L with
    | false=>rw [hn] at hr;cases hr
    | true =>
    rw [hn] at hr
    simp only [cond_true,Option.some.injEq] at hr;subst hr
    have idL:∀ {i:Nat},i<lent.length→L[i]? = some i:=fun q=>by rw [←hL];exact GY q
    have atL:∀ {i b:Nat},L[i]? = some b→(ρ.renamed L).at_ i=ρ.at_ b:=fun q=>by simp [ae.renamed,q]
    refine ⟨ρ.renamed L,⟨fun b q=>?_,fun b q=>?_,E.live,E.new,E.out⟩,fun i hi q=>?_,⟨fun i d q=>?_,fun i j d e q1 q2 ok1 ok2 he=>?_,hh.fresh,hh.liveLt,hh.outLt,fun i q=>?_,fun x hx=>bQ (hh.rom x hx) (dY (Rom.kept x hx))⟩,BP v hv⟩
    · rw [atL (idL (hN.heap.lt b q))];exact E.at_ b q
    · exact ⟨b,idL (hN.heap.lt b q),E.ok b q⟩
    · obtain ⟨b,h1,h2⟩:=q
      rw [idL hi] at h1;cases h1
      exact hbk i hi h2
    · have q:=eQ q
      simp only at q
      rw [me,Option.map_eq_some_iff] at q
      obtain ⟨b,h1,h2⟩:=q
      rw [Option.map_eq_some_iff] at h2
      obtain ⟨d0,h3,rfl⟩:=h2
      rcases hh.cell b d0 h3 with ⟨k1,k2,hr,c,t,r1,r2⟩ | ⟨k1,k2,k3,k4⟩
      · refine .inl ⟨⟨b,h1,k1⟩,by rw [atL h1];exact k2,HW hr,c,t,by rw [atL h1];exact r1,fun x v hx=>?_⟩
        obtain ⟨v',s1,s2⟩:=D1 hx hr
        obtain ⟨u,t1,t2⟩:=r2 x v' s1
        refine ⟨u,t1,?_⟩
        rcases s2 with rfl | ⟨rfl,hf⟩
        · exact BP v' t2
        · exact bQ t2 hf
      · refine .inr ⟨?_,?_,HW k3,fun x=>?_⟩
        · rintro ⟨b',q1,q2⟩
          rw [h1] at q1;cases q1
          exact k1 q2
        · rw [lF];exact (List.getElem?_eq_some_iff.1 h1).1
        · cases hc:(Ku (gX L 0) d0).cell? x with
          | none=>rfl
          | some v=>obtain ⟨v',s1,_⟩:=D1 hc k3;rw [k4 x] at s1;cases s1
    · obtain ⟨b,r1,r2⟩:=ok1
      obtain ⟨c,r3,r4⟩:=ok2
      have q1:=eQ q1
      have q2:=eQ q2
      simp only at q1 q2
      rw [me,r1] at q1
      rw [me,r3] at q2
      simp only [Option.map_some,Option.some.injEq,Option.map_eq_some_iff] at q1 q2
      obtain ⟨d1,s1,_⟩:=q1
      obtain ⟨d2,s2,_⟩:=q2
      rw [atL r1,atL r3] at he
      have:=hh.inj b c d1 d2 s1 s2 r2 r4 he
      subst this
      exact oR hn r1 r3
    · obtain ⟨b,r1,_⟩:=q
      simp only [lF]
      exact (List.getElem?_eq_some_iff.1 r1).1
inductive AE where
  | normal
  | ret
  | exit (id:Nat)
def AE.real:AE→Exit
  | .normal=>.normal
  | .ret=>.ret
  | .exit id=>.exit id
abbrev JA:=Option (AE×aA×List Bool×cZ)
abbrev nh:=Code→aA→cZ→JA
def wl(C:tn)(run:cO)(ops:Array Oper)(draw:Bool)(st:aA)(p:cZ) :JA :=
  match draw with
  | false =>
    match zf C run ops st.next 0 ops.toList st.tmps st.heap p with
    | some (T,h,obs,p')=>some (.normal,⟨T,h,st.next+ops.size*lh⟩,obs,p')
    | none=>none
  | true =>
    match zk C run ops st.next 0 ops.toList st.tmps st.heap p with
    | some (rs,T,h,obs,p')=>bif zh ops [] [] (ops.toList.zip rs) then some (.normal,⟨T,h,st.next+ops.size*lh⟩,obs,p') else none
    | none=>none
def jQ(T:List AV)(c:Operand)(b:Bool) :List AV :=
  match c with
  | .tmp t=>T.set t (.bool true b)
  | _=>T
def yy(body:aA→cZ→JA) :Nat→aA→cZ→JA
  | 0,_,_=>none
  | n+1,st,p =>
    match body st p with
    | some (.normal,st1,o1,p1) =>
      match yy body n st1 p1 with
      | some (e,st2,o2,p2)=>some (e,st2,o1++o2,p2)
      | none=>none
    | r=>r
def zp(C:tn)(run:cO)(N:Nat)(self:nh)(c:Code)(st:aA)(p:cZ) :JA :=
  match c with
  | .skip | .label _=>some (.normal,st,[],p)
  | .region _ ops draw=>wl C run ops draw st p
  | .seq a b =>
    match self a st p with
    | some (.normal,st1,o1,p1) =>
      match self b st1 p1 with
      | some (e,st2,o2,p2)=>some (e,st2,o1++o2,p2)
      | none=>none
    | r=>r
  | .cond c a b =>
    match yw (I1 st.tmps c) p with
    | some (x,o1,p1) =>
      match self (match x with | true=>a | false=>b) { st with tmps:=jQ st.tmps c x } p1 with
      | some (e,st2,o2,p2)=>some (e,st2,o1++o2,p2)
      | none=>none
    | none=>none
  | .block id b =>
    match self b st p with
    | some (.exit id',st1,o1,p1)=>bif Nat.beq id' id then some (.normal,st1,o1,p1) else some (.exit id',st1,o1,p1)
    | r=>r
  | .loop b=>yy (self b) N st p
  | .exit id=>some (.exit id,st,[],p)
  | .ret=>some (.ret,st,[],p)
  | .scope b=>self b st p
  | _=>none
structure oU where
  out:mb
  obs:List Bool
def HX(alts:List oU)(p:cZ) :Option (oU×cZ) :=
  match alts,p with
  | [a],p=>some (a,p)
  | alts,none=>(alts.find? fun a=>GU a.obs).map fun a=>(a,none)
  | alts,some (k::r)=>(alts[k]?).map fun a=>(a,some r)
  | _,_=>none
theorem GZ{alts:List oU}{p p':cZ}{a:oU}(h:HX alts p=some (a,p')) :a∈alts:=by
  unfold HX at h
  split at h
  · simp only [Option.some.injEq,Prod.mk.injEq] at h;rw [←h.1];simp
  · simp only [Option.map_eq_some_iff,Prod.mk.injEq] at h;obtain ⟨b,h1,rfl,_⟩:=h;exact List.mem_of_find?_eq_some h1
  · simp only [Option.map_eq_some_iff,Prod.mk.injEq] at h;obtain ⟨b,h1,rfl,_⟩:=h;exact List.mem_of_getElem? h1
  · cases h
abbrev uR:=FuncId→List aj→List AV→Option (List oU)
def eB(P:Program)(fn:Func)(st:aA) :List ResultVar→Option (List AV×List Bool)
  | []=>some ([],[])
  | .tmp t::l =>
    match eB P fn st l with
    | some (vs,o)=>some ((st.tmps[t]?).getD .any::vs,o)
    | none=>none
  | .cell a t::l =>
    match ux P (aw st.heap) t ((st.tmps[a]?).getD .any),eB P fn st l with
    | some (v,o,_),some (vs,o')=>some (v::vs,o++o')
    | _,_=>none
def wm:List AV→AV
  | [v]=>v
  | vs=>.tup vs
def ni(fn:Func)(lent:List aj)(args:List AV) :aA:=⟨args++List.replicate (fn.ntmps-args.length) (.tup []),bL 0 (lent.map some),lent.length⟩
def BQ(C : tn)(S : uR)(self : nh) : cO := fun f lent args p =>
  match S f lent args with
  | some alts=>(HX alts p).map fun r=>(r.1.out,r.1.obs,r.2)
  | none =>
    match C.P.funcs[f]? with
    | some fn =>
      match fn.body with
      | some c =>
        match self c (ni fn lent args) p with
        | some (e,st,o1,p1) =>
          match e,eB C.P fn st fn.results.toList with
          | .exit _,_=>none
          | _,some (vs,o2) =>
            match zo lent.length (C.mode f).keep st.heap (wm vs) with
            | some r=>some (r,o1++o2,p1)
            | none=>none
          | _,none=>none
        | none=>none
      | none=>none
    | none=>none
def nj(C:tn)(S:uR)(N:Nat) :Nat→nh
  | 0=>fun _ _ _=>none
  | n+1=>zp C (BQ C S (nj C S N n)) N (nj C S N n)
def am(P:Program)(f:FuncId)(lent:List aj)(args:List AV)(r:mb) :Prop :=
  ∀ (ρ:ae) (w:World) (us:List Value),cy ρ w lent→bG ρ w args us →
    (∃ fn,P.funcs[f]? = some fn∧fn.body.isSome=true)∧Calls P f us.toArray w fun e w'=>∃ u,e=.returned u∧dU ρ.live w w'∧r.Holds ρ w w' lent.length u
def aZ(P:Program)(S:uR) :Prop:=∀ f lent args alts a,S f lent args=some alts→a∈alts→ak a.obs→am P f lent args a.out
def zq(P:Program)(self:nh) :Prop :=
  ∀ c st p e st' obs p',self c st p=some (e,st',obs,p')→ak obs→∀ (ρ:ae) (a:Act) (w:World) (Q:Exit→Act→World→Prop),SR ρ st a w →
    (∀ ρ' a' w',qt ρ w st.next st' ρ' a' w'→Q e.real a' w')→c.wp P Q a w
theorem qt.trans{ρ ρ1 ρ2:ae}{w w1 w2:World}{n:Nat}{st1 st2:aA}{a1 a2:Act}(h:qt ρ w n st1 ρ1 a1 w1)(k:qt ρ1 w1 st1.next st2 ρ2 a2 w2) :qt ρ w n st2 ρ2 a2 w2 :=
  ⟨h.ext.trans k.ext h.wle.size,h.wle.trans k.wle (fun x hx q=>h.ext.new x hx q),k.sr,Nat.le_trans h.le k.le,fun b q=>by
    rcases k.back b q with q | q
    · exact h.back b q
    · exact .inr (Nat.le_trans h.le q)⟩
theorem qt.refl{ρ:ae}{w:World}{st:aA}{a:Act}(h:SR ρ st a w) :qt ρ w st.next st ρ a w:=⟨gZ.refl _ _,dU.refl _ _,h,Nat.le_refl _,fun b q=>.inl q⟩
theorem G0(n:Nat) :List.range n=List.range' 0 n:=List.range_eq_range'
theorem CG{C:tn}(hC:C.Ok){run:cO}(hrun:zc C.P run){id:Nat}{ops:Array Oper}{draw:Bool}{st st':aA}{p p':cZ}{e:AE}{obs:List Bool}(h:wl C run ops draw st p=some (e,st',obs,p')) 
    (ho:ak obs) {ρ:ae} {a:Act} {w:World} {Q:Exit→Act→World→Prop} (hs:SR ρ st a w) (hQ:∀ ρ' a' w',qt ρ w st.next st' ρ' a' w'→Q e.real a' w'):(Code.region id ops draw).wp C.P Q a w:=by
  unfold wl at h
  cases draw with
  | false =>
    simp only at h
    split at h
    case h_2=>cases h
    rename_i T hp obs' p1 hr
    simp only [Option.some.injEq,Prod.mk.injEq] at h;obtain ⟨rfl,rfl,rfl,rfl⟩:=h
    refine wp_region ?_
    rw [G0,←Array.length_toList]
    refine uO hC hrun ops.toList 0 (fun j=>by simp) hr ho (hs.heap.le (by omega)) (fun b hb=>by have:=hs.heap.lt b hb;omega) hs.defers hs.tmps ?_
    intro ρ' w' a' E W hh hd hT hb
    exact hQ ρ' a' w' ⟨E,W,⟨hd,hT,hh⟩,Nat.le_add_right _ _,hb⟩
  | true =>
    simp only at h
    split at h
    case h_2=>cases h
    rename_i rs T hp obs' p1 hr
    cases hd:zh ops [] [] (ops.toList.zip rs) with
    | false=>rw [hd] at h;cases h
    | true =>
      rw [hd] at h
      simp only [cond_true,Option.some.injEq,Prod.mk.injEq] at h;obtain ⟨rfl,rfl,rfl,rfl⟩:=h
      obtain ⟨s1,s2,s3⟩:=xC _ _ hr ho
      obtain ⟨ms,D⟩:=xB (ops.toList.zip rs) [] [] rfl hd ⟨fun j x hx=>by simp at hx,fun j x hx=>by simp at hx,fun i j x y hx=>by simp at hx⟩
      rw [List.nil_append] at D
      refine wp_region_any hC.mixed ?_
      have W0:=dU.drawn ρ.live w (w.drawn+1)
      have E0:=gZ.refl ρ w
      have notL:∀ i,(Array.replicate ops.size false).getD i false=false:=by
        intro i;rw [Array.getD_eq_getD_getElem?]
        cases hq:(Array.replicate ops.size false)[i]? with
        | none=>rfl
        | some b=>rw [Array.getElem?_replicate] at hq;split at hq<;>simp_all
      have a0:∀ (l:List (Oper×rx)) (i:Nat) (s:List AV×aK),jI (fun i=>(Array.replicate ops.size false).getD i false) i l s=s:=by
        intro l
        induction l with
        | nil=>intro _ _;rfl
        | cons x l ih=>intro i s;simp only [jI];rw [notL i];exact ih _ _
      refine HV hC hrun D (by rw [s1];simp) (fun j o hj=>by have:=s3 j o hj;rw [Nat.zero_add] at this;exact this) ops.size (Array.replicate ops.size false) (by simp) (fun j o _ hl=>by rw [notL] at hl;cases hl)
        (by have:=List.countP_le_length (p:=fun i=>!(Array.replicate ops.size false).getD i false) (l:=List.range ops.size);simpa using this) (ρ:=ρ) (a:=a) ?_ ?_ hs.defers ?_ ?_
      · rw [a0];exact (hs.heap.le (by omega)).drawn _
      · intro b hb;have:=hs.heap.lt b hb;exact .inl this
      · rw [a0];exact hs.tmps.mono E0 W0
      · intro ρ' w' a' E W hh hd' hT hb
        rw [s2] at hh hT
        exact hQ ρ' a' w' ⟨⟨E.at_,E.ok,E.live,fun b hb=>E.new b hb,E.out⟩,W0.trans W (fun _ _ q=>q),⟨hd',hT,hh⟩,Nat.le_add_right _ _,hb⟩
theorem zr{C:tn}{body:aA→cZ→JA}{b:Code}(hb:∀ st p e st' obs p',body st p=some (e,st',obs,p')→ak obs→∀ (ρ:ae) (a:Act) (w:World) (Q:Exit→Act→World→Prop),SR ρ st a w →
    (∀ ρ' a' w',qt ρ w st.next st' ρ' a' w'→Q e.real a' w')→b.wp C.P Q a w) :∀ (n:Nat) (st:aA) (p:cZ) (e:AE) (st':aA) (obs:List Bool) (p':cZ),yy body n st p=some (e,st',obs,p')→ak obs →
    ∀ (ρ:ae) (a:Act) (w:World) (Q:Exit→Act→World→Prop),SR ρ st a w→(∀ ρ' a' w',qt ρ w st.next st' ρ' a' w'→Q e.real a' w')→Code.rounds C.P b Q n a w
  | 0,st,p,e,st',obs,p',h,_,_,_,_,_,_,_=>by cases h
  | n+1,st,p,e,st',obs,p',h,ho,ρ,a,w,Q,hs,hQ=>by
    simp only [yy] at h
    rw [rounds_succ]
    split at h
    · rename_i st1 o1 p1 h1
      split at h
      case h_2=>cases h
      rename_i e2 st2 o2 p2 h2
      simp only [Option.some.injEq,Prod.mk.injEq] at h;obtain ⟨rfl,rfl,rfl,rfl⟩:=h
      rw [aB] at ho
      refine hb st p _ _ _ _ h1 ho.1 ρ a w _ hs fun ρ1 a1 w1 P1=>?_
      exact zr hb n st1 p1 _ _ _ _ h2 ho.2 ρ1 a1 w1 Q P1.sr fun ρ2 a2 w2 P2=>hQ ρ2 a2 w2 (P1.trans P2)
    · rename_i hne
      refine hb st p _ _ _ _ h ho ρ a w _ hs fun ρ1 a1 w1 P1=>?_
      have:=hQ ρ1 a1 w1 P1
      cases e with
      | normal=>exact (hne _ _ _ h).elim
      | ret=>exact this
      | exit id=>exact this
theorem D3{C:tn}(hC:C.Ok){run:cO}(hrun:zc C.P run){N:Nat}{self:nh}(hself:zq C.P self) :zq C.P (zp C run N self):=by
  intro c st p e st' obs p' h ho ρ a w Q hs hQ
  unfold zp at h
  split at h
  · simp only [Option.some.injEq,Prod.mk.injEq] at h;obtain ⟨rfl,rfl,rfl,rfl⟩:=h
    exact wp_skip (hQ ρ a w (qt.refl hs))
  · simp only [Option.some.injEq,Prod.mk.injEq] at h;obtain ⟨rfl,rfl,rfl,rfl⟩:=h
    exact wp_label (hQ ρ a w (qt.refl hs))
  · exact CG hC hrun h ho hs hQ
  · rename_i x y
    refine wp_seq ?_
    split at h
    · rename_i st1 o1 p1 h1
      split at h
      case h_2=>cases h
      rename_i e2 st2 o2 p2 h2
      simp only [Option.some.injEq,Prod.mk.injEq] at h;obtain ⟨rfl,rfl,rfl,rfl⟩:=h
      rw [aB] at ho
      refine hself x st p _ _ _ _ h1 ho.1 ρ a w _ hs fun ρ1 a1 w1 P1=>?_
      exact hself y st1 p1 _ _ _ _ h2 ho.2 ρ1 a1 w1 Q P1.sr fun ρ2 a2 w2 P2=>hQ ρ2 a2 w2 (P1.trans P2)
    · rename_i hne
      refine hself x st p _ _ _ _ h ho ρ a w _ hs fun ρ1 a1 w1 P1=>?_
      have:=hQ ρ1 a1 w1 P1
      cases e with
      | normal=>exact (hne _ _ _ h).elim
      | ret=>exact this
      | exit id=>exact this
  · rename_i cc x y
    split at h
    case h_2=>cases h
    rename_i b o1 p1 h1
    split at h
    case h_2=>cases h
    rename_i e2 st2 o2 p2 h2
    simp only [Option.some.injEq,Prod.mk.injEq] at h;obtain ⟨rfl,rfl,rfl,rfl⟩:=h
    rw [aB] at ho
    have hb:=ze (yJ hs.heap.rom hs.tmps cc) h1 ho.1
    refine wp_cond hb ?_
    have hs':SR ρ { st with tmps:=jQ st.tmps cc b } a w:=by
      refine ⟨hs.defers,?_,hs.heap⟩
      cases cc with
      | tmp t =>
        simp only [jQ]
        have:bG ρ w (st.tmps.set t (.bool true b)) (a.tmps.toList.set t (.bool b)):=hs.tmps.set (.bool _ _) t
        have e:a.tmps.toList.set t (.bool b)=a.tmps.toList:=by
          apply List.ext_getElem?
          intro j
          rw [List.getElem?_set]
          split
          · rename_i q;subst q
            split
            · rename_i hlt
              simp only [Act.eval] at hb
              rw [Array.getD_eq_getD_getElem?] at hb
              have hlt':t<a.tmps.size:=by simpa using hlt
              rw [Array.getElem?_eq_getElem hlt'] at hb
              simp only [Option.getD_some] at hb
              simp [hlt',hb]
            · rename_i hge
              rw [List.getElem?_eq_none (by omega)]
          · rfl
        rw [e] at this;exact this
      | const v=>exact hs.tmps
      | global g=>exact hs.tmps
      | func f=>exact hs.tmps
    have:=hself _ _ p1 _ _ _ _ h2 ho.2 ρ a w Q hs' hQ
    cases b<;>exact this
  · rename_i id b
    refine wp_block ?_
    split at h
    · rename_i id' st1 o1 p1 h1
      cases hid:Nat.beq id' id with
      | true =>
        rw [hid] at h
        simp only [cond_true,Option.some.injEq,Prod.mk.injEq] at h;obtain ⟨rfl,rfl,rfl,rfl⟩:=h
        refine hself b st p _ _ _ _ h1 ho ρ a w _ hs fun ρ1 a1 w1 P1=>?_
        simp only [AE.real,Exit.inBlock,Nat.eq_of_beq_eq_true hid,if_true]
        exact hQ ρ1 a1 w1 P1
      | false =>
        rw [hid] at h
        simp only [cond_false,Option.some.injEq,Prod.mk.injEq] at h;obtain ⟨rfl,rfl,rfl,rfl⟩:=h
        refine hself b st p _ _ _ _ h1 ho ρ a w _ hs fun ρ1 a1 w1 P1=>?_
        have hne : ¬ id'=id:=fun e=>by subst e;simp [jJ] at hid
        simp only [AE.real,Exit.inBlock,hne,if_false]
        exact hQ ρ1 a1 w1 P1
    · rename_i hne
      refine hself b st p _ _ _ _ h ho ρ a w _ hs fun ρ1 a1 w1 P1=>?_
      have:=hQ ρ1 a1 w1 P1
      cases e with
      | normal=>exact this
      | ret=>exact this
      | exit id=>exact (hne _ _ _ _ h).elim
  · rename_i b
    exact wp_loop_rounds N (zr (C:=C) (b:=b) (fun st p e st' obs p' h1 h2=>hself b st p e st' obs p' h1 h2) N st p e st' obs p' h ho ρ a w Q hs hQ)
  · simp only [Option.some.injEq,Prod.mk.injEq] at h;obtain ⟨rfl,rfl,rfl,rfl⟩:=h
    exact wp_exit (hQ ρ a w (qt.refl hs))
  · simp only [Option.some.injEq,Prod.mk.injEq] at h;obtain ⟨rfl,rfl,rfl,rfl⟩:=h
    exact wp_ret (hQ ρ a w (qt.refl hs))
  · rename_i b
    refine wp_scope_straight (hself b st p _ _ _ _ h ho ρ a w _ hs fun ρ1 a1 w1 P1=>?_)
    have:=hQ ρ1 a1 w1 P1
    cases e<;>exact this
  · cases h
theorem zt{P:Program}{w:World}{t:TypeId}{x:Value}{u:Value}(hx:∃ a,x=.pointer (some a))(h:(Instr.loadAt t x).run P w=.ok u w) :(do loadVar t (←asAddr x):Sem Value).run P w=.ok u w:=by
  obtain ⟨a,rfl⟩:=hx
  simpa [Instr.loadAt,Instr.sureAddr,asAddr] using h
def tr(tmps:Array Value) :ResultVar→Sem Value
  | .tmp t=>pure (tmps.getD t undef)
  | .cell x t=>do loadVar t (←asAddr (tmps.getD x undef))
theorem tu(fn:Func)(tmps:Array Value) :results fn tmps=(do let vs ← fn.results.mapM (tr tmps);pure (if h:vs.size=1 then vs[0] else .tuple vs)):=by
  unfold results
  congr 1
theorem qy{P:Program}{fn:Func}{st:aA}{ρ:ae}{a:Act}{w:World}(hs:SR ρ st a w) :∀ (l:List ResultVar) {vs:List AV} {obs:List Bool},eB P fn st l=some (vs,obs)→ak obs →
    ∃ us:List Value,(l.mapM (tr a.tmps)).run P w=.ok us w∧bG ρ w vs us
  | [],vs,obs,h,ho=>by
    simp only [eB,Option.some.injEq,Prod.mk.injEq] at h;obtain ⟨rfl,rfl⟩:=h
    exact ⟨[],by simp,.nil⟩
  | .tmp t::l,vs,obs,h,ho=>by
    simp only [eB] at h
    split at h
    case h_2=>cases h
    rename_i vs' o' h1
    simp only [Option.some.injEq,Prod.mk.injEq] at h;obtain ⟨rfl,rfl⟩:=h
    obtain ⟨us,q1,q2⟩:=qy hs l h1 ho
    refine ⟨a.tmps.getD t undef::us,?_,.cons _ _ _ _ (yJ hs.heap.rom hs.tmps (.tmp t)) q2⟩
    simp only [List.mapM_cons,tr,Sem.run_bind,Sem.run_pure,Result.andThen_ok,q1]
  | .cell x t::l,vs,obs,h,ho=>by
    simp only [eB] at h
    split at h
    case h_2=>cases h
    rename_i v o rs vs' o' h1 h2
    simp only [Option.some.injEq,Prod.mk.injEq] at h;obtain ⟨rfl,rfl⟩:=h
    rw [aB] at ho
    obtain ⟨us,q1,q2⟩:=qy hs l h2 ho.2
    have hv:=yJ hs.heap.rom hs.tmps (.tmp x)
    simp only [I1,Act.eval] at hv
    obtain ⟨u,r1,r2⟩:=xr (P:=P) hs.heap hv h1 ho.1
    have hp:∃ ad,a.tmps.getD x undef=.pointer (some ad):=by
      generalize a.tmps.getD x undef=z at hv
      unfold ux at h1
      simp only at h1
      split at h1
      · rename_i e;rw [e] at hv;cases hv;exact ⟨_,rfl⟩
      · rename_i e;rw [e] at hv;cases hv;exact ⟨_,rfl⟩
      · cases h1
    have:=zt hp r1
    refine ⟨u::us,?_,.cons _ _ _ _ r2 q2⟩
    simp only [List.mapM_cons,tr,Sem.run_bind] at this ⊢
    rw [this]
    simp only [Result.andThen_ok,Sem.run_bind,q1,Sem.run_pure]
theorem D4{P:Program}{fn:Func}{st:aA}{ρ:ae}{a:Act}{w:World}(hs:SR ρ st a w){vs:List AV}{obs:List Bool}(h:eB P fn st fn.results.toList=some (vs,obs))(ho:ak obs) :
    ∃ v,(results fn a.tmps).run P w=.ok v w∧VR ρ w (wm vs) v:=by
  obtain ⟨us,q1,q2⟩:=qy hs fn.results.toList h ho
  have hl:=q2.length
  have hm:(fn.results.mapM (tr a.tmps)).run P w=.ok us.toArray w:=by
    rw [Array.mapM_eq_mapM_toList,map_eq_pure_bind,Sem.run_bind,q1,Result.andThen_ok,Sem.run_pure]
  rw [tu,Sem.run_bind,hm,Result.andThen_ok]
  match vs,us,q2,hl with
  | [],[],q2,_=>exact ⟨.tuple #[],rfl,.tup _ _ .nil⟩
  | [v],[u],q2,_=>cases q2 with | cons _ _ _ _ h1 _=>exact ⟨u,rfl,h1⟩
  | v::v'::vs,u::u'::us,q2,_ =>
    refine ⟨.tuple (u::u'::us).toArray,?_,.tup _ _ q2⟩
    simp
theorem qz{P:Program}{f:FuncId}{fn:Func}{c:Code}(hf:P.funcs[f]? = some fn)(hc:fn.body=some c){lent:List aj}{args:List AV}{r:mb}{keep:Bool} 
    (h:∀ (ρ:ae) (w:World) (a:Act),cy ρ w lent→SR ρ (ni fn lent args) a w →
      c.wp P (fun e a' w'=>(e=.normal∨e=.ret)∧∃ ρ' st' vs obs,gZ ρ ρ' w∧dU ρ.live w w'∧(∀ i,i<lent.length→ρ'.ok i→ρ.ok i)∧SR ρ' st' a' w'∧eB P fn st' fn.results.toList=some (vs,obs)∧ak obs∧zo lent.length keep st'.heap (wm vs)=some r) a w):am P f lent args r:=by
  intro ρ w us hN hv
  refine ⟨⟨fn,hf,by rw [hc];rfl⟩,?_⟩
  refine calls_of_wp hf hc ?_
  have hlen:=hv.length
  have hs:SR ρ (ni fn lent args) { tmps:=us.toArray++Array.replicate (fn.ntmps-us.toArray.size) undef,defers:=[] } w:=by
    refine ⟨rfl,?_,hN.heap⟩
    simp only [ni,Array.toList_append,Array.toList_replicate,List.size_toArray,hlen]
    refine bG.append ?_ hv
    have:∀ n,bG ρ w (List.replicate n (.tup [])) (List.replicate n undef):=by
      intro n
      induction n with
      | zero=>exact .nil
      | succ n ih=>exact .cons _ _ _ _ (.tup [] #[] .nil) ih
    exact this _
  refine wp_mono (h ρ w _ hN hs) ?_
  rintro e a' w' ⟨he,ρ',st',vs,obs,E,W,hbk,S,hr,hob,hkeep⟩
  have fin:a'.defers=[]∧∃ v,(results fn a'.tmps).run P w'=.ok v w'∧∃ u,Ending.returned v=.returned u∧dU ρ.live w w'∧r.Holds ρ w w' lent.length u:=by
    refine ⟨S.defers,?_⟩
    obtain ⟨v,q1,q2⟩:=D4 S hr hob
    exact ⟨v,q1,v,rfl,W,D2 S.heap hN E hbk W.size q2 hkeep⟩
  rcases he with rfl | rfl
  · exact fin
  · exact fin
theorem D5{C:tn}{S:uR}(hS:aZ C.P S){self:nh}(hself:zq C.P self) :zc C.P (BQ C S self):=by
  intro f lent args p r obs p' h ho
  unfold BQ at h
  split at h
  · rename_i alts hs
    simp only [Option.map_eq_some_iff,Prod.mk.injEq] at h
    obtain ⟨⟨alt,q⟩,h1,rfl,rfl,rfl⟩:=h
    exact hS f lent args alts alt hs (GZ h1) ho
  · split at h
    case h_2=>cases h
    rename_i fn hf
    split at h
    case h_2=>cases h
    rename_i c hc
    split at h
    case h_2=>cases h
    rename_i e st o1 p1 hr
    cases hres:eB C.P fn st fn.results.toList with
    | none=>rw [hres] at h;cases e<;>cases h
    | some x =>
      obtain ⟨vs,o2⟩:=x
      rw [hres] at h
      have key:∀ (he:e=.normal∨e=.ret),(match zo lent.length (C.mode f).keep st.heap (wm vs) with | some r=>some (r,o1++o2,p1) | none=>none)=some (r,obs,p')→am C.P f lent args r:=by
        intro he h
        split at h
        case h_2=>cases h
        rename_i r' hk
        simp only [Option.some.injEq,Prod.mk.injEq] at h;obtain ⟨rfl,rfl,rfl⟩:=h
        rw [aB] at ho
        refine qz (keep:=(C.mode f).keep) hf hc fun ρ w a hN hs=>?_
        refine hself c _ p e st o1 p1 hr ho.1 ρ a w _ hs fun ρ' a' w' P1=>⟨?_,ρ',st,vs,o2,P1.ext,P1.wle,fun i hi q=>?_,P1.sr,hres,ho.2,hk⟩
        · rcases he with rfl | rfl
          · exact .inl rfl
          · exact .inr rfl
        · rcases P1.back i q with q | q
          · exact q
          · simp only [ni] at q;omega
      cases e with
      | normal=>exact key (.inl rfl) h
      | ret=>exact key (.inr rfl) h
      | exit id=>cases h
theorem oV{C:tn}(hC:C.Ok){S:uR}(hS:aZ C.P S)(N:Nat) :∀ n,zq C.P (nj C S N n)
  | 0=>fun c st p e st' obs p' h=>by cases h
  | n+1=>D3 hC (D5 hS (oV hC hS N n)) (oV hC hS N n)
theorem xU{C:tn}(hC:C.Ok){S:uR}(hS:aZ C.P S)(N n:Nat){f:FuncId}{lent:List aj}{args:List AV}{p p':cZ}{r:mb}{obs:List Bool}(h:BQ C S (nj C S N n) f lent args p=some (r,obs,p'))(ho:ak obs) :
    am C.P f lent args r:=D5 hS (oV hC hS N n) f lent args p r obs p' h ho
def yz:List (Nat×xT)→Nat→Option xT
  | [],_=>none
  | (k,e)::l,f=>bif Nat.beq k f then some e else yz l f
def D6:List (Nat×HQ)→Nat→HQ
  | [],_=>⟨[],false⟩
  | (k,m)::l,f=>bif Nat.beq k f then m else D6 l f
def Gc(P:Program)(l:List (Nat×xT))(ms:List (Nat×HQ)) :tn:={ P,ext:=yz l,mode:=D6 ms,wrap:=false }
theorem xD:∀ {l:List (Nat×xT)} {f:Nat} {k:xT},yz l f=some k→(f,k)∈l
  | [],f,k,h=>by cases h
  | (a,e)::l,f,k,h=>by
    simp only [yz] at h
    cases hb:Nat.beq a f with
    | true=>rw [hb] at h;simp only [cond_true,Option.some.injEq] at h;have:=Nat.eq_of_beq_eq_true hb;subst this;subst h;simp
    | false=>rw [hb] at h;simp only [cond_false] at h;exact List.mem_cons_of_mem _ (xD h)
structure HY (P:Program) (f:Nat) (k:xT):Prop where
  fn : ∃ fn, P.funcs[f]? = some fn ∧ (fn.name == "runtime.NumGoroutine") = false ∧ fn.body.isNone = true ∧ Extern.findNext fn = none ∧ Extern.find fn = some (qs k)
def Gd(P : Program) : Bool := P.funcs.toList.all fun fn => !(fn.name == "runtime.NumGoroutine")
theorem HZ{P:Program}{l:List (Nat×xT)}{ms:List (Nat×HQ)}(hm:P.follows .mixedOrders=true)(hn:Gd P=true)(he:∀ x∈l,HY P x.1 x.2) :(Gc P l ms).Ok:=by
  refine ⟨hm,fun f fn args w hf hb=>?_,fun f k args w hk=>?_⟩
  · have h1 : fn.name ≠ "runtime.NumGoroutine" := by
      have hmem:fn∈P.funcs.toList:=by
        have:fn∈P.funcs:=Array.mem_of_getElem? hf
        simpa using this
      have:=List.all_eq_true.1 hn fn hmem
      simpa using this
    have h2:fn.body≠none:=by intro q;rw [q] at hb;cases hb
    have hf':P.funcs[f]? = some fn:=hf
    have h3:fn.body.isNone=false:=by cases hq:fn.body<;>simp_all
    simp only [Gc,callFunc,Sem.run_bind,run_program,Result.andThen_ok,hf',beq_eq_false_iff_ne.2 h1,Bool.false_eq_true,if_false,h3,Sem.run_pure]
  · obtain ⟨fn,h1,h2,h3,h4,h5⟩:=(he _ (xD hk)).fn
    have:=run_callFunc_extern (P:=P) h1 h2 h3 h4 h5 args w
    simp only [Gc]
    rw [this,Sem.run_bind]
    rfl
def At(k:Nat)(ρ0:ae)(w0:World)(st:aA)(a:Act)(w:World) :Prop:=∃ ρ,gZ ρ0 ρ w0∧dU ρ0.live w0 w∧SR ρ st a w∧(∀ i,i<k→ρ.ok i→ρ0.ok i)∧k≤st.next
def Fe(lent:List aj)(st st':aA) :Prop:=∀ ρ0 w0 a w,cy ρ0 w0 lent→At lent.length ρ0 w0 st a w→At lent.length ρ0 w0 st' a w
theorem Fe.refl(lent:List aj)(st:aA) :Fe lent st st:=fun _ _ _ _ _ h=>h
theorem Fe.trans{lent:List aj}{a b c:aA}(h:Fe lent a b)(k:Fe lent b c) :Fe lent a c:=fun _ _ _ _ hN q=>k _ _ _ _ hN (h _ _ _ _ hN q)
def D7:AV→AV
  | .flt _ x=>.flt false x
  | .bool _ b=>.bool false b
  | v=>v
def J8(σ:Nat→Option Nat) :aj→aj
  | .vs l=>.vs ((GX σ l).map D7)
  | d=>d
def wn(σ:Nat→Option Nat)(h:aK) :Nat→List Nat→aK
  | _,[]=>[]
  | i,b::l=>match aw h b with
    | some d=>(i,J8 σ d)::wn σ h (i+1) l
    | none=>wn σ h (i+1) l
def KB(b:Bool)(v u:AV) :AV :=
  match b with
  | true=>v
  | false=>u
def JB:List (Nat×AV)→Nat→AV
  | [],_=>.any
  | (k,v)::l,t=>KB (Nat.beq k t) v (JB l t)
def BS(L:List (Nat×AV)) :Nat→Nat→List AV
  | _,0=>[]
  | t,n+1=>JB L t::BS L (t+1) n
def ap(n:Nat)(L:List (Nat×AV)) :List AV:=BS L 0 n
def K2(σ:Nat→Option Nat)(ks:List Nat) :Nat→List AV→List AV
  | _,[]=>[]
  | t,v::l=>(bif oP ks t then D7 (I2 σ v) else .any)::K2 σ ks (t+1) l
def norm(keep ks:List Nat)(st:aA) :aA :=
  ⟨K2 (gX keep 0) ks 0 st.tmps,wn (gX keep 0) st.heap 0 keep,keep.length⟩
theorem D8{ρ:ae}{w:World}{v:AV}{u:Value}(h:VR ρ w v u) :VR ρ w (D7 v) u:=by
  cases h<;>simp only [D7]<;>first | exact .bool _ _ | (rename_i hf;refine .flt _ _ _ ?_;rcases hf with rfl | ⟨_,h2,h3⟩;exact .inl rfl;exact .inr ⟨rfl,h2,h3⟩) | skip
  case int=>exact .int _ _
  case str=>exact .str _
  case nptr=>exact .nptr
  case ptr hb=>exact .ptr _ _ _ _ hb
  case iptr=>rename_i bw d k i j bl o u' ha hb hr hg hc hv hk;exact .iptr bw d k i j bl o _ (by assumption) (by assumption) (by assumption) (by assumption) (by assumption) (by assumption) (by assumption)
  case nsl=>exact .nsl
  case esl=>exact .esl _
  case zsl=>exact .zsl _ _
  case nan=>exact .nan _ (by assumption)
  case sl=>exact .sl _ _ _ _ _ _ _ (by assumption) (by assumption) (by assumption) _ _ (by assumption) (by assumption)
  case slEnd=>exact .slEnd _ _ _ _ _
  case imm=>exact .imm _ _ _ _ _ _ _ _ _ _ (by assumption) (by assumption) (by assumption) (by assumption) (by assumption) (by assumption) (by assumption) (by assumption)
  case immEnd=>exact .immEnd _ _ _ _ _ _ _ (by assumption) (by assumption) (by assumption)
  case fn=>exact .fn _ _ _ _ _ (by assumption) (by assumption)
  case nfn=>exact .nfn
  case gmap=>exact .gmap _ _ _ _ _ _ (by assumption) (by assumption) (by assumption) (by assumption) (by assumption) (by assumption) (by assumption) (by assumption)
  case gvar=>exact .gvar _ _ _ _ (by assumption) (by assumption) (by assumption)
  case agg=>exact .agg _ _ (by assumption)
  case tup=>exact .tup _ _ (by assumption)
  case iface=>exact .iface _ _ _ (by assumption)
  case niface=>exact .niface
  case any=>exact .any _
theorem H0{ρ:ae}{keep ks:List Nat}{w:World} :∀ (l:List AV) (t:Nat) {c:List Value},bG ρ w l c→bG (ρ.renamed keep) w (K2 (gX keep 0) ks t l) c
  | [],t,c,h=>by cases h;exact .nil
  | v::l,t,c,h=>by
    cases h with | cons _ u _ c' h1 h2 =>
    simp only [K2]
    refine .cons _ _ _ _ ?_ (H0 l (t+1) h2)
    cases oP ks t with
    | true=>exact D8 (BP v h1)
    | false=>exact .any u
theorem oW{σ:Nat→Option Nat}{h:aK} :∀ {l:List Nat} {i c:Nat} {d:aj},aw (wn σ h i l) c=some d→i≤c∧∃ b e,l[c-i]? = some b∧aw h b=some e∧d=J8 σ e
  | [],i,c,d,q=>by cases q
  | b::l,i,c,d,q=>by
    simp only [wn] at q
    have next:aw (wn σ h (i+1) l) c=some d→i≤c∧∃ b' e,(b::l)[c-i]? = some b'∧aw h b'=some e∧d=J8 σ e:=by
      intro q
      obtain ⟨h1,b',e,h2,h3,h4⟩:=oW q
      refine ⟨by omega,b',e,?_,h3,h4⟩
      have:c-i=(c-(i+1))+1:=by omega
      rw [this];simpa using h2
    split at q
    · rename_i e he
      simp only [aw] at q
      cases hc:Nat.beq i c with
      | true =>
        rw [hc] at q;simp only [cond_true,Option.some.injEq] at q
        have:=Nat.eq_of_beq_eq_true hc;subst this
        exact ⟨Nat.le_refl _,b,e,by simp,he,q.symm⟩
      | false=>rw [hc] at q;exact next q
    · exact next q
theorem H2{σ:Nat→Option Nat}{d:aj}(h:d.recKept) :(J8 σ d).recKept:=by
  cases d<;>first | exact h | trivial
theorem D9{σ:Nat→Option Nat}{d:aj}{x:Nat}{v:AV}(h:(J8 σ d).cell? x=some v)(hr:d.recKept) :∃ v',d.cell? x=some v'∧(v=D7 (I2 σ v')∨(v=v'∧v.foreign=true)):=by
  cases d with
  | vs l =>
    simp only [J8,aj.cell?,List.getElem?_map,CF,Option.map_map,Option.map_eq_some_iff,Function.comp] at h
    obtain ⟨v',h1,rfl⟩:=h
    exact ⟨v',h1,.inl rfl⟩
  | fl xs=>exact ⟨v,h,.inr ⟨rfl,az (d:=.fl xs) hr rfl x v h⟩⟩
  | ns k xs=>exact ⟨v,h,.inr ⟨rfl,az (d:=.ns k xs) hr rfl x v h⟩⟩
  | bs xs=>exact ⟨v,h,.inr ⟨rfl,az (d:=.bs xs) hr rfl x v h⟩⟩
  | ss xs=>exact ⟨v,h,.inr ⟨rfl,az (d:=.ss xs) hr rfl x v h⟩⟩
  | rows k m get=>exact ⟨v,h,.inr ⟨rfl,az (d:=.rows k m get) hr rfl x v h⟩⟩
  | cols m cs=>exact ⟨v,h,.inr ⟨rfl,az (d:=.cols m cs) hr rfl x v h⟩⟩
def CH:Nat→Nat→List Nat→Bool
  | 0,_,_=>true
  | _+1,_,[]=>false
  | k+1,i,b::l=>Nat.beq b i&&CH k (i+1) l
theorem zu:∀ {k i:Nat} {l:List Nat},CH k i l=true→∀ j,j<k→l[j]? = some (i+j)
  | 0,i,l,_,j,hj=>by omega
  | k+1,i,[],h,j,hj=>by cases h
  | k+1,i,b::l,h,j,hj=>by
    simp only [CH,Bool.and_eq_true] at h
    cases j with
    | zero=>simp;exact Nat.eq_of_beq_eq_true h.1
    | succ j=>simp only [List.getElem?_cons_succ];rw [zu h.2 j (by omega)];congr 1;omega
def Ff(k:Nat)(keep:List Nat) :Bool:=oQ keep&&CH k 0 keep
theorem H3{lent:List aj}{keep ks:List Nat}(hk:Ff lent.length keep=true)(st:aA) :Fe lent st (norm keep ks st):=by
  unfold Ff at hk
  rw [Bool.and_eq_true] at hk
  obtain ⟨hn,hid⟩:=hk
  have idL:∀ {i:Nat},i<lent.length→keep[i]? = some i:=fun q=>by have:=zu hid _ q;simpa using this
  have atL:∀ {ρ:ae} {i b:Nat},keep[i]? = some b→(ρ.renamed keep).at_ i=ρ.at_ b:=fun q=>by simp [ae.renamed,q]
  rintro ρ0 w0 a w hN ⟨ρ,E,W,S,hbk,hle⟩
  refine ⟨ρ.renamed keep,⟨fun b q=>?_,fun b q=>⟨b,idL (hN.heap.lt b q),E.ok b q⟩,E.live,E.new,E.out⟩,W,⟨S.defers,H0 _ _ S.tmps,?_⟩,fun i hi q=>?_,?_⟩
  · rw [atL (idL (hN.heap.lt b q))];exact E.at_ b q
  · have hh:=S.heap
    refine ⟨fun c d q=>?_,fun c c' d d' q q' ok1 ok2 he=>?_,hh.fresh,hh.liveLt,hh.outLt,fun c q=>?_,fun x hx=>bQ (hh.rom x hx) (dY (Rom.kept x hx))⟩
    · obtain ⟨_,b,e,h1,h2,rfl⟩:=oW q
      rw [Nat.sub_zero] at h1
      rcases hh.cell b e h2 with ⟨k1,k2,hr,ce,t,r1,r2⟩ | ⟨k1,k2,k3,k4⟩
      · refine .inl ⟨⟨b,h1,k1⟩,by rw [atL h1];exact k2,H2 hr,ce,t,by rw [atL h1];exact r1,fun x v hx=>?_⟩
        obtain ⟨v',s1,s2⟩:=D9 hx hr
        obtain ⟨u,t1,t2⟩:=r2 x v' s1
        refine ⟨u,t1,?_⟩
        rcases s2 with rfl | ⟨rfl,hf⟩
        · exact D8 (BP v' t2)
        · exact bQ t2 hf
      · refine .inr ⟨?_,(List.getElem?_eq_some_iff.1 h1).1,H2 k3,fun x=>?_⟩
        · rintro ⟨b',q1,q2⟩
          rw [h1] at q1;cases q1
          exact k1 q2
        · cases hc:(J8 (gX keep 0) e).cell? x with
          | none=>rfl
          | some v=>obtain ⟨v',s1,_⟩:=D9 hc k3;rw [k4 x] at s1;cases s1
    · obtain ⟨_,b,e,h1,h2,rfl⟩:=oW q
      obtain ⟨_,b',e',h1',h2',rfl⟩:=oW q'
      rw [Nat.sub_zero] at h1 h1'
      obtain ⟨x,x1,x2⟩:=ok1
      obtain ⟨y,y1,y2⟩:=ok2
      rw [h1] at x1;cases x1
      rw [h1'] at y1;cases y1
      rw [atL h1,atL h1'] at he
      have:=hh.inj b b' e e' h2 h2' x2 y2 he
      subst this
      exact oR hn h1 h1'
    · obtain ⟨b,h1,_⟩:=q
      exact (List.getElem?_eq_some_iff.1 h1).1
  · obtain ⟨b,q1,q2⟩:=q
    rw [idL hi] at q1;cases q1
    exact hbk i hi q2
  · simp only [norm]
    rcases Nat.lt_or_ge keep.length lent.length with q | q
    · have:=idL q
      rw [List.getElem?_eq_none (Nat.le_refl _)] at this;cases this
    · exact q
inductive GP where
  | slot (t:Nat)
  | part (t i:Nat)
  | cell (b i:Nat)
def cm.empty:cm→Bool
  | .cf [] | .ci _ [] | .cb [] | .cs [] | .cfl [] | .cns _ []=>true
  | _=>false
def uS:List cm→Bool
  | []=>true
  | c::l=>c.empty&&uS l
def aj.isVoid:aj→Bool
  | .fl [] | .ns _ [] | .bs [] | .ss [] | .vs []=>true
  | .cols 0 cs=>uS cs
  | _=>false
theorem zw{c:cm}(h:c.empty=true) :c.len=0:=by
  unfold cm.empty at h
  split at h<;>first | rfl | cases h
theorem nJ:∀ {l:List cm},uS l=true→∀ c∈l,c.len=0
  | [],_,c,hc=>by cases hc
  | c::l,h,x,hx=>by
    simp only [uS,Bool.and_eq_true] at h
    rcases List.mem_cons.1 hx with rfl | q
    · exact zw h.1
    · exact nJ h.2 x q
theorem qA{d:aj}(h:d.isVoid=true) :d.recKept∧d.void:=by
  unfold aj.isVoid at h
  split at h
  case h_6 =>
    rename_i cs
    have:=nJ h
    refine ⟨this,fun x=>?_⟩
    cases hc:(aj.cols 0 cs).cell? x with
    | none=>rfl
    | some v =>
      obtain ⟨c,_,h2,h3⟩:=cT hc
      have:=qk h3
      rw [nJ h c h2] at this;exact absurd this (Nat.not_lt_zero _)
  case h_7=>cases h
  all_goals exact ⟨trivial,fun x=>by simp [aj.cell?]⟩
theorem zx(b w es:Nat) :ax .nsl (.sl b w es 0 0 0):=by
  intro ρ w' u h;cases h;exact .slEnd _ _ _ _ _
theorem HR.weaken{ρ:ae}{w:World}{h:aK}{n b:Nat}{d d':aj}(hh:HR ρ w h n)(hg:aw h b=some d)(hr:d'.recKept)(hw:∀ x v',d'.cell? x=some v'→∃ v,d.cell? x=some v∧ax v v') :HR ρ w (cu h b d') n:=by
  have look:∀ x e,aw (cu h b d') x=some e→(x=b∧e=d')∨(x≠b∧aw h x=some e):=by
    intro x e hx
    rw [bv] at hx
    by_cases q:b=x
    · rw [if_pos q] at hx;cases hx;exact .inl ⟨q.symm,rfl⟩
    · rw [if_neg q] at hx;exact .inr ⟨fun e=>q e.symm,hx⟩
  have had:∀ x e,aw (cu h b d') x=some e→∃ e',aw h x=some e':=by
    intro x e hx
    rcases look x e hx with ⟨rfl,_⟩ | ⟨_,q⟩
    · exact ⟨d,hg⟩
    · exact ⟨e,q⟩
  refine ⟨fun x e hx=>?_,fun x y e f h1 h2 ok1 ok2 he=>?_,hh.fresh,hh.liveLt,hh.outLt,hh.lt,hh.rom⟩
  · rcases look x e hx with ⟨rfl,rfl⟩ | ⟨_,q⟩
    · rcases hh.cell x d hg with ⟨k1,k2,_,c,t,r1,r2⟩ | ⟨k1,k2,_,k4⟩
      · refine .inl ⟨k1,k2,hr,c,t,r1,fun y v' hy=>?_⟩
        obtain ⟨v,q1,q2⟩:=hw y v' hy
        obtain ⟨u,t1,t2⟩:=r2 y v q1
        exact ⟨u,t1,q2 _ _ _ t2⟩
      · refine .inr ⟨k1,k2,hr,fun y=>?_⟩
        cases hc:e.cell? y with
        | none=>rfl
        | some v'=>obtain ⟨v,q1,_⟩:=hw y v' hc;rw [k4 y] at q1;cases q1
    · exact hh.cell x e q
  · obtain ⟨e',q1⟩:=had x e h1
    obtain ⟨f',q2⟩:=had y f h2
    exact hh.inj x y e' f' q1 q2 ok1 ok2 he
def Fg(st:aA)(pos:GP)(w es:Nat)(d:aj) :aA :=
  match pos with
  | .slot t =>
    match st.tmps[t]? with
    | some .nsl=>⟨st.tmps.set t (.sl st.next w es 0 0 0),cu st.heap st.next d,st.next+1⟩
    | some .esl=>⟨st.tmps.set t (.sl st.next w es 0 0 0),cu st.heap st.next d,st.next+1⟩
    | _=>st
  | .part t i =>
    match st.tmps[t]? with
    | some (.agg l) =>
      match l[i]? with
      | some .nsl=>⟨st.tmps.set t (.agg (l.set i (.sl st.next w es 0 0 0))),cu st.heap st.next d,st.next+1⟩
      | _=>st
    | _=>st
  | .cell b i =>
    match aw st.heap b with
    | some (.vs l) =>
      match l[i]? with
      | some .nsl=>⟨st.tmps,cu (cu st.heap b (.vs (l.set i (.sl st.next w es 0 0 0)))) st.next d,st.next+1⟩
      | _=>st
    | _=>st
theorem H4(b w es:Nat) :ax .esl (.sl b w es 0 0 0):=by
  intro ρ w' u h;cases h;exact .slEnd _ _ _ _ _
theorem nk{ρ:ae}{w:World} :∀ {l:List AV} {c:List Value} {i:Nat} {v v':AV},bG ρ w l c→l[i]? = some v→ax v v'→bG ρ w (l.set i v') c
  | _,_,i,v,v',.nil,h,_=>by simp at h
  | _,_,0,v,v',.cons a u l c h t,hi,hw=>by simp at hi;subst hi;exact .cons _ _ _ _ (hw _ _ _ h) t
  | _,_,i+1,v,v',.cons a u l c h t,hi,hw=>.cons _ _ _ _ h (nk t (by simpa using hi) hw)
theorem Fh{lent:List aj}{st:aA}{pos:GP}{w es:Nat}{d:aj}(hd:d.isVoid=true) :Fe lent st (Fg st pos w es d):=by
  obtain ⟨d1,d2⟩:=qA hd
  rintro ρ0 w0 a w' hN ⟨ρ,E,W,S,hbk,hle⟩
  have hh:=S.heap
  have hno : ¬ ρ.ok st.next:=fun q=>Nat.lt_irrefl _ (hh.lt _ q)
  have h1:HR ρ w' (cu st.heap st.next d) (st.next+1):=(hh.le (Nat.le_succ _)).ghost hno (Nat.lt_succ_self _) d1 d2
  have id_:At lent.length ρ0 w0 st a w':=⟨ρ,E,W,S,hbk,hle⟩
  unfold Fg
  split
  · split
    · rename_i t h
      exact ⟨ρ,E,W,⟨S.defers,nk S.tmps h (zx _ _ _),h1⟩,hbk,Nat.le_succ_of_le hle⟩
    · rename_i t h
      exact ⟨ρ,E,W,⟨S.defers,nk S.tmps h (H4 _ _ _),h1⟩,hbk,Nat.le_succ_of_le hle⟩
    · exact id_
  · split
    · rename_i t i l h
      split
      · rename_i h2
        refine ⟨ρ,E,W,⟨S.defers,nk S.tmps h ?_,h1⟩,hbk,Nat.le_succ_of_le hle⟩
        intro ρ w u hu
        cases hu with | agg _ c hc=>exact .agg _ _ (nk hc h2 (zx _ _ _))
      · exact id_
    · exact id_
  · split
    · rename_i b i _ l h
      split
      · rename_i h2
        have hw:HR ρ w' (cu st.heap b (.vs (l.set i (.sl st.next w es 0 0 0)))) st.next:=by
          refine hh.weaken h trivial fun x v' hx=>?_
          simp only [aj.cell?,List.getElem?_set] at hx ⊢
          by_cases hi:i=x
          · subst hi
            rw [if_pos rfl] at hx
            split at hx
            · cases hx;exact ⟨_,h2,zx _ _ _⟩
            · cases hx
          · rw [if_neg hi] at hx;exact ⟨v',hx,ax.refl _⟩
        exact ⟨ρ,E,W,⟨S.defers,S.tmps,(hw.le (Nat.le_succ _)).ghost hno (Nat.lt_succ_self _) d1 d2⟩,hbk,Nat.le_succ_of_le hle⟩
      · exact id_
    · exact id_
def zy(f:AV→Option AV)(st:aA)(pos:GP) :aA :=
  match pos with
  | .slot t =>
    match st.tmps[t]? with
    | some v=>match f v with
      | some v'=>⟨st.tmps.set t v',st.heap,st.next⟩
      | none=>st
    | none=>st
  | .part t i =>
    match st.tmps[t]? with
    | some (.agg l) =>
      match l[i]? with
      | some v=>match f v with
        | some v'=>⟨st.tmps.set t (.agg (l.set i v')),st.heap,st.next⟩
        | none=>st
      | none=>st
    | _=>st
  | .cell b i =>
    match aw st.heap b with
    | some (.vs l) =>
      match l[i]? with
      | some v=>match f v with
        | some v'=>⟨st.tmps,cu st.heap b (.vs (l.set i v')),st.next⟩
        | none=>st
      | none=>st
    | _=>st
theorem tw{lent:List aj}{st:aA}{pos:GP}{f:AV→Option AV}(hf:∀ v v',f v=some v'→ax v v') :Fe lent st (zy f st pos):=by
  rintro ρ0 w0 a w' hN ⟨ρ,E,W,S,hbk,hle⟩
  have hh:=S.heap
  have id_:At lent.length ρ0 w0 st a w':=⟨ρ,E,W,S,hbk,hle⟩
  unfold zy
  split
  · split
    · rename_i t v h
      split
      · rename_i v' hv
        exact ⟨ρ,E,W,⟨S.defers,nk S.tmps h (hf _ _ hv),hh⟩,hbk,hle⟩
      · exact id_
    · exact id_
  · split
    · rename_i t i l h
      split
      · rename_i v h2
        split
        · rename_i v' hv
          refine ⟨ρ,E,W,⟨S.defers,nk S.tmps h ?_,hh⟩,hbk,hle⟩
          intro ρ w u hu
          cases hu with | agg _ c hc=>exact .agg _ _ (nk hc h2 (hf _ _ hv))
        · exact id_
      · exact id_
    · exact id_
  · split
    · rename_i b i _ l h
      split
      · rename_i v h2
        split
        · rename_i v' hv
          have hw:HR ρ w' (cu st.heap b (.vs (l.set i v'))) st.next:=by
            refine hh.weaken h trivial fun x u hx=>?_
            simp only [aj.cell?,List.getElem?_set] at hx ⊢
            by_cases hi:i=x
            · subst hi
              rw [if_pos rfl] at hx
              split at hx
              · cases hx;exact ⟨_,h2,hf _ _ hv⟩
              · cases hx
            · rw [if_neg hi] at hx;exact ⟨u,hx,ax.refl _⟩
          exact ⟨ρ,E,W,⟨S.defers,S.tmps,hw⟩,hbk,hle⟩
        · exact id_
      · exact id_
    · exact id_
theorem np{d:aj}(h:d.isVoid=true) :d.kept=true∧d.foreign=true:=by
  unfold aj.isVoid at h
  split at h<;>first | exact ⟨rfl,rfl⟩ | cases h
theorem G1{d:aj}(w es:Nat)(hd:d.isVoid=true) :ax .nsl (.imm .free d w es 0 0):=by
  intro ρ w' u h;cases h;exact .immEnd _ _ _ _ _ _ _ (qA hd).1 (fun _=>(np hd).1) (np hd).2
theorem G2{d:aj}(w es:Nat)(hd:d.isVoid=true) :ax .esl (.imm .free d w es 0 0):=by
  intro ρ w' u h;cases h;exact .immEnd _ _ _ _ _ _ _ (qA hd).1 (fun _=>(np hd).1) (np hd).2
def Fi(w es:Nat)(d:aj) :AV→Option AV
  | .nsl | .esl=>some (.imm .free d w es 0 0)
  | _=>none
theorem Ea{w es:Nat}{d:aj}(hd:d.isVoid=true) :∀ v v',Fi w es d v=some v'→ax v v':=by
  intro v v' h
  unfold Fi at h
  split at h
  · cases h;exact G1 _ _ hd
  · cases h;exact G2 _ _ hd
  · cases h
theorem Ge{l:Lv}{ρ:ae}{bl:Nat}(ha:ρ.avoid .free bl) :ρ.avoid l bl:=eP (fun j=>ha j (Nat.zero_le _)) _ _
def J9(l:Lv) :AV→Option AV
  | .imm .free d w es i n=>some (.imm l d w es i n)
  | .iptr .free d w i j=>some (.iptr l d w i j)
  | _=>none
theorem G3{l:Lv} :∀ v v',J9 l v=some v'→ax v v':=by
  intro v v' h
  unfold J9 at h
  split at h
  · cases h
    intro ρ w' u hu
    cases hu with
    | imm _ _ _ _ _ _ cap bl o u ha hb hc hv hn hr hk hg=>exact .imm _ _ _ _ _ _ cap bl o u (Ge ha) hb hc hv hn hr (fun _=>hk rfl) hg
    | immEnd _ _ _ _ _ cap a hr hk hg=>exact .immEnd _ _ _ _ _ cap a hr (fun _=>hk rfl) hg
  · cases h
    intro ρ w' u hu
    cases hu with
    | iptr _ _ _ _ _ bl o u ha hb hc hv hr hk hg=>exact .iptr _ _ _ _ _ bl o u (Ge ha) hb hc hv hr (fun _=>hk rfl) hg
  · cases h
def H5:AV→Option AV
  | .imm _ d w es i n=>some (.imm .lent d w es i n)
  | .iptr _ d w i j=>some (.iptr .lent d w i j)
  | _=>none
theorem Fj:∀ v v',H5 v=some v'→ax v v':=by
  intro v v' h
  unfold H5 at h
  split at h
  · cases h
    intro ρ w' u hu
    cases hu with
    | imm _ _ _ _ _ _ cap bl o u ha hb hc hv hn hr hk hg=>exact .imm _ _ _ _ _ _ cap bl o u (ta (O:=ρ.own) ha) hb hc hv hn hr (fun q=>by cases q) hg
    | immEnd _ _ _ _ _ cap a hr hk hg=>exact .immEnd _ _ _ _ _ cap a hr (fun q=>by cases q) hg
  · cases h
    intro ρ w' u hu
    cases hu with
    | iptr _ _ _ _ _ bl o u ha hb hc hv hr hk hg=>exact .iptr _ _ _ _ _ bl o u (ta (O:=ρ.own) ha) hb hc hv hr (fun q=>by cases q) hg
  · cases h
inductive GK where
  | own (w es:Nat) (d:aj)
  | fre (w es:Nat) (d:aj)
  | lev (l:Lv)
  | low
abbrev GL:=List (GP×GK)
def wo:GL→aA→aA
  | [],st=>st
  | (p,.fre w es d)::l,st=>wo l (zy (Fi w es d) st p)
  | (p,.own w es d)::l,st=>wo l (Fg st p w es d)
  | (p,.lev v)::l,st=>wo l (zy (J9 v) st p)
  | (p,.low)::l,st=>wo l (zy H5 st p)
def jl:GL→Bool
  | []=>true
  | (_,.own _ _ d)::l=>d.isVoid&&jl l
  | (_,.fre _ _ d)::l=>d.isVoid&&jl l
  | (_,.lev _)::l=>jl l
  | (_,.low)::l=>jl l
theorem mF{lent:List aj} :∀ {l:GL} {st:aA},jl l=true→Fe lent st (wo l st)
  | [],st,_=>Fe.refl _ _
  | (p,.fre w es d)::l,st,h=>by
    simp only [jl,Bool.and_eq_true] at h
    exact (tw (Ea h.1)).trans (mF h.2)
  | (p,.own w es d)::l,st,h=>by
    simp only [jl,Bool.and_eq_true] at h
    exact (Fh h.1).trans (mF h.2)
  | (p,.lev v)::l,st,h=>(tw G3).trans (mF (l:=l) (by simpa [jl] using h))
  | (p,.low)::l,st,h=>(tw Fj).trans (mF (l:=l) (by simpa [jl] using h))
structure NS where
  gs:GL
  keep:List Nat
  ks:List Nat
def NS.ok(k:Nat)(s:NS) :Bool:=jl s.gs&&Ff k s.keep
def NS.on(s:NS)(st:aA) :aA:=norm s.keep s.ks (wo s.gs st)
theorem H6{lent:List aj}{s:NS}(h:s.ok lent.length=true)(st:aA) :Fe lent st (s.on st):=by
  unfold NS.ok at h
  rw [Bool.and_eq_true] at h
  exact (mF h.1).trans (H3 h.2 _)
def dn:Code→List Code
  | .seq a b=>dn a++dn b
  | .skip=>[]
  | .label _=>[]
  | c=>[c]
def AM(P:Program) :List Code→(Exit→Act→World→Prop)→Act→World→Prop
  | [],K,a,w=>K .normal a w
  | c::l,K,a,w=>c.wp P (fun e a' w'=>match e with | .normal=>AM P l K a' w' | e=>K e a' w') a w
theorem tx{P:Program}{K:Exit→Act→World→Prop} :∀ (l l':List Code) (a:Act) (w:World),AM P l (fun e a' w'=>match e with | .normal=>AM P l' K a' w' | e=>K e a' w') a w→AM P (l++l') K a w
  | [],l',a,w,h=>h
  | c::l,l',a,w,h=>by
    simp only [List.cons_append,AM] at h ⊢
    refine wp_mono h ?_
    intro e a' w' q
    cases e<;>first | exact tx l l' a' w' q | exact q
theorem nK{P:Program}{c:Code}{K:Exit→Act→World→Prop}{a:Act}{w:World}(h:AM P [c] K a w) :c.wp P K a w:=by
  simp only [AM] at h
  refine wp_mono h ?_
  intro e a' w' q
  cases e<;>exact q
theorem oX{P:Program} :∀ (c:Code) {K:Exit→Act→World→Prop} {a:Act} {w:World},AM P (dn c) K a w→c.wp P K a w
  | .seq x y,K,a,w,h=>by
    simp only [dn] at h
    refine wp_seq (oX x ?_)
    have app:∀ (l l':List Code) (a:Act) (w:World),AM P (l++l') K a w→AM P l (fun e a' w'=>match e with | .normal=>AM P l' K a' w' | e=>K e a' w') a w:=by
      intro l
      induction l with
      | nil=>intro l' a w h;exact h
      | cons c l ih =>
        intro l' a w h
        simp only [List.cons_append,AM] at h ⊢
        refine wp_mono h ?_
        intro e a' w' q
        cases e<;>first | exact ih l' a' w' q | exact q
    have:=app _ _ _ _ h
    have mono:∀ (l:List Code) (K K':Exit→Act→World→Prop) (a:Act) (w:World),(∀ e a w,K e a w→K' e a w)→AM P l K a w→AM P l K' a w:=by
      intro l
      induction l with
      | nil=>intro K K' a w hK h;exact hK _ _ _ h
      | cons c l ih =>
        intro K K' a w hK h
        simp only [AM] at h ⊢
        refine wp_mono h ?_
        intro e a' w' q
        cases e<;>first | exact ih K K' a' w' hK q | exact hK _ _ _ q
    refine mono _ _ _ _ _ ?_ this
    intro e a' w' q
    cases e<;>first | exact oX y q | exact q
  | .skip,K,a,w,h=>wp_skip h
  | .label _,K,a,w,h=>wp_label h
  | .region ..,K,a,w,h=>nK h
  | .cond ..,K,a,w,h=>nK h
  | .block ..,K,a,w,h=>nK h
  | .loop ..,K,a,w,h=>nK h
  | .exit ..,K,a,w,h=>nK h
  | .ret,K,a,w,h=>nK h
  | .scope ..,K,a,w,h=>nK h
  | .goto ..,K,a,w,h=>nK h
  | .rangeFunc ..,K,a,w,h=>nK h
  | .refuse ..,K,a,w,h=>nK h
def da(P:Program)(lent:List aj)(cs:List Code)(st:aA)(Q:AE→aA→Prop) :Prop :=
  ∀ (ρ0:ae) (w0:World),cy ρ0 w0 lent→∀ (K:Exit→Act→World→Prop),(∀ e st' a' w',Q e st'→At lent.length ρ0 w0 st' a' w'→K e.real a' w')→∀ a w,At lent.length ρ0 w0 st a w→AM P cs K a w
def G4(self:nh) :List Code→aA→cZ→JA
  | [],st,p=>some (.normal,st,[],p)
  | c::l,st,p =>
    match self c st p with
    | some (.normal,st1,o1,p1) =>
      match G4 self l st1 p1 with
      | some (e,st2,o2,p2)=>some (e,st2,o1++o2,p2)
      | none=>none
    | r=>r
theorem Gf{P:Program}{self:nh}(hself:zq P self) :∀ (cs:List Code) {st st':aA} {p p':cZ} {e:AE} {obs:List Bool},G4 self cs st p=some (e,st',obs,p')→ak obs→∀ {ρ:ae} {a:Act} {w:World} {Q:Exit→Act→World→Prop},SR ρ st a w →
    (∀ ρ' a' w',qt ρ w st.next st' ρ' a' w'→Q e.real a' w')→AM P cs Q a w
  | [],st,st',p,p',e,obs,h,ho,ρ,a,w,Q,hs,hQ=>by
    simp only [G4,Option.some.injEq,Prod.mk.injEq] at h;obtain ⟨rfl,rfl,rfl,rfl⟩:=h
    exact hQ ρ a w (qt.refl hs)
  | c::l,st,st',p,p',e,obs,h,ho,ρ,a,w,Q,hs,hQ=>by
    simp only [G4] at h
    split at h
    · rename_i st1 o1 p1 h1
      split at h
      case h_2=>cases h
      rename_i e2 st2 o2 p2 h2
      simp only [Option.some.injEq,Prod.mk.injEq] at h;obtain ⟨rfl,rfl,rfl,rfl⟩:=h
      rw [aB] at ho
      refine hself c st p _ _ _ _ h1 ho.1 ρ a w _ hs fun ρ1 a1 w1 P1=>?_
      exact Gf hself l h2 ho.2 P1.sr fun ρ2 a2 w2 P2=>hQ ρ2 a2 w2 (P1.trans P2)
    · rename_i hne
      refine hself c st p _ _ _ _ h ho ρ a w _ hs fun ρ1 a1 w1 P1=>?_
      have:=hQ ρ1 a1 w1 P1
      cases e with
      | normal=>exact (hne _ _ _ h).elim
      | ret=>exact this
      | exit id=>exact this
theorem At.post{lent:List aj}{ρ0 ρ ρ':ae}{w0 w w':World}{st st':aA}{a a':Act}(E:gZ ρ0 ρ w0)(W:dU ρ0.live w0 w)(hbk:∀ i,i<lent.length→ρ.ok i→ρ0.ok i)(hle:lent.length≤st.next)(h:qt ρ w st.next st' ρ' a' w') :At lent.length ρ0 w0 st' a' w' :=
  ⟨ρ',E.trans h.ext W.size,W.trans h.wle (fun x hx q=>E.new x hx q),h.sr,fun i hi q=>(h.back i q).elim (hbk i hi) (fun r=>by omega),Nat.le_trans hle h.le⟩
theorem da.weak{P:Program}{lent:List aj}{cs:List Code}{st st1:aA}{Q:AE→aA→Prop}(hs:Fe lent st st1)(h:da P lent cs st1 Q) :da P lent cs st Q :=
  fun ρ0 w0 hN K hK a w hA=>h ρ0 w0 hN K hK a w (hs _ _ _ _ hN hA)
theorem da.nil{P:Program}{lent:List aj}{st:aA}{Q:AE→aA→Prop}(h:Q .normal st) :da P lent [] st Q :=
  fun ρ0 w0 hN K hK a w hA=>hK .normal st a w h hA
def A1(P:Program)(lent:List aj)(rest:List Code)(e:AE)(st:aA)(Q:AE→aA→Prop) :Prop :=
  match e with
  | .normal=>da P lent rest st Q
  | e=>Q e st
theorem A1.exit{P:Program}{lent:List aj}{rest:List Code}{id:Nat}{st:aA}{Q:AE→aA→Prop}(h:Q (.exit id) st) :A1 P lent rest (.exit id) st Q:=h
theorem A1.ret{P:Program}{lent:List aj}{rest:List Code}{st:aA}{Q:AE→aA→Prop}(h:Q .ret st) :A1 P lent rest .ret st Q:=h
theorem A1.normal{P:Program}{lent:List aj}{rest:List Code}{st:aA}{Q:AE→aA→Prop}(h:da P lent rest st Q) :A1 P lent rest .normal st Q:=h
def H7(s:NS)(r:JA) :Option (AE×aA×List Bool) :=
  match r with
  | some (e,st,obs,_)=>some (e,s.on st,obs)
  | none=>none
theorem da.seg{C:tn}(hC:C.Ok){S:uR}(hS:aZ C.P S){lent:List aj}{N n:Nat}(k:Nat)(p:cZ)(s:NS){cs:List Code}{st st1:aA}{e:AE}{obs:List Bool}{Q:AE→aA→Prop} 
    (h:H7 s (G4 (nj C S N n) (cs.take k) st p)=some (e,st1,obs)) (hn:s.ok lent.length=true) (ho:ak obs) (hr:A1 C.P lent (cs.drop k) e st1 Q):da C.P lent cs st Q:=by
  intro ρ0 w0 hN K hK a w ⟨ρ,E,W,S1,hbk,hle⟩
  rw [←List.take_append_drop k cs]
  apply tx
  unfold H7 at h
  split at h
  case h_2=>cases h
  rename_i e' st2 obs' p' hrun
  simp only [Option.some.injEq,Prod.mk.injEq] at h;obtain ⟨rfl,rfl,rfl⟩:=h
  refine Gf (oV hC hS N n) _ hrun ho S1 fun ρ' a' w' P1=>?_
  have hA:=H6 hn st2 ρ0 w0 a' w' hN (At.post (st:=st) (a:=a) E W hbk hle P1)
  cases e' with
  | normal=>exact hr ρ0 w0 hN K hK a' w' hA
  | ret=>exact hK _ _ _ _ hr hA
  | exit id=>exact hK _ _ _ _ hr hA
def uT(P:Program)(lent:List aj){σ:Type}(I:σ→aA)(G:σ→Prop)(m:σ→Nat)(s:σ)(id:Nat)(rest:List Code)(Q:AE→aA→Prop)(e:AE)(st:aA) :Prop :=
  match e with
  | .normal=>∃ s',G s'∧m s'<m s∧st=I s'
  | .exit j=>if j=id then da P lent rest st Q else Q (.exit j) st
  | .ret=>Q .ret st
theorem uT.out{P:Program}{lent:List aj}{σ:Type}{I:σ→aA}{G:σ→Prop}{m:σ→Nat}{s:σ}{id:Nat}{rest:List Code}{Q:AE→aA→Prop}{st:aA}(h:da P lent rest st Q) :uT P lent I G m s id rest Q (.exit id) st:=by
  simp only [uT,if_true];exact h
theorem uT.on{P:Program}{lent:List aj}{σ:Type}{I:σ→aA}{G:σ→Prop}{m:σ→Nat}{s:σ}{id:Nat}{rest:List Code}{Q:AE→aA→Prop}{st:aA}(s':σ)(hs:st=I s')(hm:m s'<m s)(hG:G s') :da P lent [] st (uT P lent I G m s id rest Q) :=
  da.nil ⟨s',hG,hm,hs⟩
theorem da.loop{P:Program}{lent:List aj}{σ:Type}(I:σ→aA)(G:σ→Prop)(m:σ→Nat){id:Nat}{b:Code}{cs rest:List Code}{Q:AE→aA→Prop}(hcs:cs=.block id (.loop b)::rest) 
    (body:∀ s,G s→da P lent (dn b) (I s) (uT P lent I G m s id rest Q)) (s:σ) (hs:G s):da P lent cs (I s) Q:=by
  subst hcs
  intro ρ0 w0 hN K hK a w hA
  simp only [AM]
  refine wp_block ?_
  refine wp_loop_rounds (m s+1) ?_
  have key:∀ n s,m s<n→G s→∀ a w,At lent.length ρ0 w0 (I s) a w→Code.rounds P b (Exit.inBlock id fun (e:Exit) a' w'=>match e with | .normal=>AM P rest K a' w' | e=>K e a' w') n a w:=by
    intro n
    induction n with
    | zero=>intro s h;omega
    | succ n ih =>
      intro s hm hs a w hA
      rw [rounds_succ]
      refine oX b ?_
      refine body s hs ρ0 w0 hN _ ?_ a w hA
      intro e st' a' w' hR hA'
      cases e with
      | normal =>
        obtain ⟨s',h1,h2,rfl⟩:=hR
        exact ih s' (by omega) h1 a' w' hA'
      | ret=>exact hK _ _ _ _ hR hA'
      | exit j =>
        simp only [uT] at hR
        by_cases hj:j=id
        · subst hj
          rw [if_pos rfl] at hR
          simp only [AE.real,Exit.then,Exit.inBlock,if_true]
          exact hR ρ0 w0 hN K hK a' w' hA'
        · rw [if_neg hj] at hR
          simp only [AE.real,Exit.then,Exit.inBlock,hj,if_false]
          exact hK _ _ _ _ hR hA'
  exact key _ s (Nat.lt_succ_self _) hs a w hA
theorem da.mono{P:Program}{lent:List aj}{cs:List Code}{st:aA}{Q Q':AE→aA→Prop}(hQ:∀ e st,Q e st→Q' e st)(h:da P lent cs st Q) :da P lent cs st Q' :=
  fun ρ0 w0 hN K hK a w hA=>h ρ0 w0 hN K (fun e st' a' w' q hA'=>hK e st' a' w' (hQ e st' q) hA') a w hA
theorem da.block{P:Program}{lent:List aj}{id:Nat}{b:Code}{cs rest:List Code}{st:aA}{Q:AE→aA→Prop}(hcs:cs=.block id b::rest) 
    (h:da P lent (dn b) st fun e st'=>match e with | .normal=>da P lent rest st' Q | .exit j=>if j=id then da P lent rest st' Q else Q (.exit j) st' | .ret=>Q .ret st'):da P lent cs st Q:=by
  subst hcs
  intro ρ0 w0 hN K hK a w hA
  simp only [AM]
  refine wp_block (oX b ?_)
  refine h ρ0 w0 hN _ ?_ a w hA
  intro e st' a' w' hR hA'
  cases e with
  | normal=>exact hR ρ0 w0 hN K hK a' w' hA'
  | ret=>exact hK _ _ _ _ hR hA'
  | exit j =>
    simp only at hR
    by_cases hj:j=id
    · subst hj
      rw [if_pos rfl] at hR
      simp only [AE.real,Exit.inBlock,if_true]
      exact hR ρ0 w0 hN K hK a' w' hA'
    · rw [if_neg hj] at hR
      simp only [AE.real,Exit.inBlock,hj,if_false]
      exact hK _ _ _ _ hR hA'
theorem da.scope{P:Program}{lent:List aj}{b:Code}{cs rest:List Code}{st:aA}{Q:AE→aA→Prop}(hcs:cs=.scope b::rest) 
    (h:da P lent (dn b) st fun e st'=>A1 P lent rest e st' Q):da P lent cs st Q:=by
  subst hcs
  intro ρ0 w0 hN K hK a w hA
  simp only [AM]
  refine wp_scope_straight (oX b ?_)
  refine h ρ0 w0 hN _ ?_ a w hA
  intro e st' a' w' hR hA'
  cases e with
  | normal=>exact hR ρ0 w0 hN K hK a' w' hA'
  | ret=>exact hK _ _ _ _ hR hA'
  | exit j=>exact hK _ _ _ _ hR hA'
def Gg(P:Program)(fn:Func)(k:Nat)(keep:Bool)(r:mb)(e:AE)(st:aA) :Prop :=
  (e=.normal∨e=.ret)∧∃ vs obs,eB P fn st fn.results.toList=some (vs,obs)∧ak obs∧zo k keep st.heap (wm vs)=some r
theorem da.contract{P:Program}{f:FuncId}{fn:Func}{c:Code}(hf:P.funcs[f]? = some fn)(hc:fn.body=some c){lent:List aj}{args:List AV}{r:mb}{keep:Bool} 
    (h:da P lent (dn c) (ni fn lent args) (Gg P fn lent.length keep r)):am P f lent args r:=by
  refine qz (keep:=keep) hf hc ?_
  intro ρ w a hN hs
  refine oX c ?_
  refine h ρ w hN _ ?_ a w ⟨ρ,gZ.refl _ _,dU.refl _ _,hs,fun _ _ q=>q,Nat.le_refl _⟩
  rintro e st' a' w' ⟨he,vs,obs,h1,h2,h3⟩ ⟨ρ',E,W,S,hbk,_⟩
  refine ⟨?_,ρ',st',vs,obs,E,W,hbk,S,h1,h2,h3⟩
  rcases he with rfl | rfl
  · exact .inl rfl
  · exact .inr rfl
def Gh(x y:Nat) :Nat:=x%9223372036854775808+y/9223372036854775808%2*9223372036854775808
def H8(x y:Nat) :Bool:=(isNaN x&&isNaN y)||x==y
theorem nq(x y:Nat) :isNaN (Gh x y)=isNaN x:=by
  rw [qm,qm];unfold Gh
  rw [Nat.add_mul_mod_self_right,Nat.mod_mod]
theorem FR.copy{e1 e2:Bool}{x y x' y':Nat}(h:FR e1 x x')(k:FR e2 y y')(hn:isNaN y=true→isNaN x=true) :FR false (Gh x y) (Gh x' y'):=by
  rcases h with rfl | ⟨h1,h2,h3⟩
  · rcases k with rfl | ⟨k1,k2,k3⟩
    · exact .inl rfl
    · exact .inr ⟨rfl,by rw [nq];exact hn k2,by rw [nq];exact hn k2⟩
  · exact .inr ⟨rfl,by rw [nq];exact h2,by rw [nq];exact h3⟩
theorem FR.same{e1 e2:Bool}{x y x' y':Nat}(h:FR e1 x x')(k:FR e2 y y') :H8 x' y'=H8 x y:=by
  unfold H8
  rcases h with rfl | ⟨h1,h2,h3⟩
  · rcases k with rfl | ⟨k1,k2,k3⟩
    · rfl
    · rw [k2,k3]
      cases hx:isNaN x' with
      | true=>rfl
      | false =>
        have a:(x'==y')=false:=by
          rw [beq_eq_false_iff_ne];intro e;rw [e] at hx;rw [hx] at k3;cases k3
        have b:(x'==y)=false:=by
          rw [beq_eq_false_iff_ne];intro e;rw [e] at hx;rw [hx] at k2;cases k2
        rw [a,b]
  · rcases k with rfl | ⟨k1,k2,k3⟩
    · rw [h2,h3]
      cases hx:isNaN y' with
      | true=>rfl
      | false =>
        have a:(x'==y')=false:=by
          rw [beq_eq_false_iff_ne];intro e;rw [e] at h3;rw [hx] at h3;cases h3
        have b:(x==y')=false:=by
          rw [beq_eq_false_iff_ne];intro e;rw [e] at h2;rw [hx] at h2;cases h2
        rw [a,b]
    · rw [h2,h3,k2,k3];rfl
theorem mb.Holds.weak{ρ:ae}{w w':World}{k:Nat}{v v':AV}{own:List (Option aj)}{u:Value}(h:(⟨v,own⟩:mb).Holds ρ w w' k u)(hw:∀ ρ w,VR ρ w v u→VR ρ w v' u) :(⟨v',own⟩:mb).Holds ρ w w' k u:=by
  obtain ⟨ρ',h1,h2,h3,h4⟩:=h
  exact ⟨ρ',h1,h2,h3,hw _ _ h4⟩
structure aH where
  f:FuncId
  on:List aj→List AV→Option (List oU)
def bf:List aH→uR
  | [],_,_,_=>none
  | e::l,f,lent,args=>bif Nat.beq e.f f then (match e.on lent args with | some r=>some r | none=>bf l f lent args) else bf l f lent args
def aL(P:Program)(e:aH) :Prop:=∀ lent args alts a,e.on lent args=some alts→a∈alts→ak a.obs→am P e.f lent args a.out
theorem tz(P:Program) :aZ P (bf []):=fun f lent args alts a h=>by cases h
theorem aq{P:Program}{e:aH}{l:List aH}(he:aL P e)(hl:aZ P (bf l)) :aZ P (bf (e::l)):=by
  intro f lent args alts a h ha ho
  simp only [bf] at h
  cases hb:Nat.beq e.f f with
  | false=>rw [hb] at h;exact hl f lent args alts a h ha ho
  | true =>
    rw [hb] at h
    have:=Nat.eq_of_beq_eq_true hb
    subst this
    simp only [cond_true] at h
    split at h
    · rename_i r hr
      cases h
      exact he lent args alts a hr ha ho
    · exact hl _ lent args alts a h ha ho
def one(v:AV)(obs:List Bool) :Option (List oU):=some [⟨⟨v,[]⟩,obs⟩]
def H9(v:AV)(own:List (Option aj))(obs:List Bool) :Option (List oU):=some [⟨⟨v,own⟩,obs⟩]
theorem G5{P:Program}{f:FuncId}{lent:List aj}{args:List AV}{alts:List oU}{a:oU}{v:AV}{own:List (Option aj)}{obs:List Bool}(h:H9 v own obs=some alts)(ha:a∈alts)(ho:ak a.obs) 
    (hc:ak obs→am P f lent args ⟨v,own⟩):am P f lent args a.out:=by
  simp only [H9,Option.some.injEq] at h;subst h
  simp only [List.mem_singleton] at ha;subst ha
  exact hc ho
theorem G6{P:Program}{f:FuncId}{lent:List aj}{args:List AV}{alts:List oU}{a:oU}{v:AV}{obs:List Bool}(h:one v obs=some alts)(ha:a∈alts)(ho:ak a.obs) 
    (hc:ak obs→am P f lent args ⟨v,[]⟩):am P f lent args a.out:=G5 (own:=[]) h ha ho hc
theorem am.run{C:tn}(hC:C.Ok){S:uR}(hS:aZ C.P S)(p:cZ){f:FuncId}{lent:List aj}{args:List AV}{p':cZ}{r:mb}{obs:List Bool}(N n:Nat)(h:BQ C S (nj C S N n) f lent args p=some (r,obs,p'))(ho:ak obs) :
    am C.P f lent args r:=xU hC hS N n h ho
theorem ob{b:Bool}{l:List Bool}(h:b=true)(t:ak l) :ak (b::l):=⟨h,t⟩
theorem A2{p:Prop} [Decidable p] (h : ¬ p):(decide p==false)=true:=by simp [h]
inductive cP:List AV→List AV→Prop
  | nil:cP [] []
  | cons {v v':AV} {l l':List AV} (h:ax v v') (t:cP l l'):cP (v::l) (v'::l')
theorem cP.vrs{ρ:ae}{w:World} :∀ {l l':List AV} {c:List Value},cP l l'→bG ρ w l c→bG ρ w l' c
  | _,_,_,.nil,.nil=>.nil
  | _,_,_,.cons h t,.cons _ _ _ _ hv tv=>.cons _ _ _ _ (h _ _ _ hv) (cP.vrs t tv)
theorem cP.refl:∀ l:List AV,cP l l
  | []=>.nil
  | v::l=>.cons (ax.refl v) (cP.refl l)
theorem ax.agg{l l':List AV}(h:cP l l') :ax (.agg l) (.agg l'):=by
  intro ρ w u hv;cases hv with | agg _ _ hl=>exact .agg _ _ (h.vrs hl)
theorem ax.tup{l l':List AV}(h:cP l l') :ax (.tup l) (.tup l'):=by
  intro ρ w u hv;cases hv with | tup _ _ hl=>exact .tup _ _ (h.vrs hl)
theorem am.args{P:Program}{f:FuncId}{lent:List aj}{a a':List AV}{r:mb}(h:am P f lent a' r)(ha:cP a a') :am P f lent a r :=
  fun ρ w us hN hv=>h ρ w us hN (ha.vrs hv)
theorem am.weak{P:Program}{f:FuncId}{lent:List aj}{a:List AV}{v v':AV}{own:List (Option aj)}(h:am P f lent a ⟨v,own⟩)(hw:ax v v') :am P f lent a ⟨v',own⟩:=by
  intro ρ w us hN hv
  obtain ⟨q1,q2⟩:=h ρ w us hN hv
  refine ⟨q1,q2.mono ?_⟩
  rintro e w' ⟨u,rfl,W,hu⟩
  exact ⟨u,rfl,W,hu.weak fun ρ w=>hw ρ w u⟩
theorem Fk(k k' b:Bool) :ax (.bool k b) (.bool k' b):=by
  intro ρ w u h;cases h;exact .bool _ _
end Go.Plb
namespace Go.Plb
open Go.ChangeShapes Go.WideShapes Go.ChangeAt Go.RowKit Go.Deep
set_option linter.unusedSimpArgs false
set_option linter.unusedVariables false
set_option linter.unusedSectionVars false
variable [Rom]
def ae.none_:ae:={ at_:=fun _=>0,live:=fun _=>False,out:=fun _ _=>False,ok:=fun _=>False }
theorem Gi(w:World)(hr:∀ x∈Rom.tab,VR ae.none_ w x.2 (.pointer (some ⟨x.1,0,none⟩))) :cy ae.none_ w [] :=
  ⟨⟨fun b d q=>by simp [bL,aw] at q,fun b c d e q=>by simp [bL,aw] at q,fun bl q=>q.elim,fun bl q=>q.elim,fun j bl q=>q.elim,fun b q=>q.elim,hr⟩,fun bl q=>q.elim⟩
theorem oY(l:Lv)(bl:Nat) :ae.none_.avoid l bl:=eP (fun j=>by cases j<;>exact id) l 0
inductive FA where
  | i (k:IntKind) (n:Int)
  | f (x:Nat)
  | s (b:ByteArray)
  | b (b:Bool)
  | fl (xs:List Nat)
  | ns (k:IntKind) (xs:List Int)
def FA.av:FA→AV
  | .i k n=>.int k n
  | .f x=>.flt true x
  | .s z=>.str z
  | .b z=>.bool false z
  | .fl xs=>.imm .free (.fl xs) 1 1 0 xs.length
  | .ns k xs=>.imm .free (.ns k xs) 1 1 0 xs.length
theorem FA.kept(a:FA) :a.av.kept=true:=by cases a<;>rfl
inductive FT where
  | i (k:IntKind)
  | f
  | s
  | b
  | fl
  | ns (k:IntKind)
def FA.has:FT→FA→Prop
  | .i k,.i k' n=>k'=k∧(Lit.int k n).wf=true
  | .f,.f x=>(Lit.float .f64 x).wf=true
  | .s,.s z=>z.size≤maxLen
  | .b,.b _=>True
  | .fl,.fl xs=>xs.length≤maxLen∧∀ x∈xs,(Lit.float .f64 x).wf=true
  | .ns k,.ns k' xs=>k'=k∧xs.length≤maxLen∧∀ n∈xs,(Lit.int k n).wf=true
  | _,_=>False
def G7(P:Program)(t:TypeId) :Option FT :=
  match P.underlying t with
  | some (.int k)=>some (.i k)
  | some (.float .f64)=>some .f
  | some .string=>some .s
  | some .bool=>some .b
  | some (.slice e) =>
    match P.underlying e,P.cellsOf e with
    | some (.float .f64),1=>some .fl
    | some (.int k),1=>some (.ns k)
    | _,_=>none
  | _=>none
def CI:Value→Nat
  | .float _ b=>b
  | _=>0
def CL:Value→Int
  | .int _ n=>n
  | _=>0
theorem xE{W:World}{a:Addr}{i:Nat}{v:Value}(c:W.cell? (a.add i)=some v)(h0:a.spot=none) :a.add i=⟨a.block,a.off+i,none⟩:=by
  cases a;simp only at h0;subst h0
  unfold Addr.add;split
  · rename_i q;subst q;rfl
  · rfl
theorem uU{W:World}{a:Addr}{v:Value}(c:W.cell? a=some v) :a.spot=none:=by
  unfold World.cell? at c
  split at c
  · cases q:a.spot with
    | none=>rfl
    | some s=>rw [q] at c;simp at c
  · cases c
theorem zz{W:World}{a:Addr}{v:Value}(c:W.cell? a=some v) :a.block<W.heap.size:=by
  unfold World.cell? at c
  split at c
  · rename_i q;exact (Array.getElem?_eq_some_iff.1 q).1
  · cases c
theorem jR{α:Type}(f:Nat→α)(n x:Nat)(y:α)(h:((List.range n).map f)[x]? = some y) :x<n∧y=f x:=by
  rw [List.getElem?_map] at h
  rcases Nat.lt_or_ge x n with q | q
  · rw [List.getElem?_range q] at h;simp only [Option.map_some,Option.some.injEq] at h;exact ⟨q,h.symm⟩
  · rw [List.getElem?_eq_none (by simpa using q)] at h;cases h
variable {H : Type} {enc : TypeId × Value → H} {P : Program} {W : World}
theorem BT{t : TypeId}{ft : FT}{fuel : Nat}{v : Value}{x : DataW H × List MemPlace}(ht : G7 P t = some ft)(h : DataW.trod enc P W 0 (fun _ => true) true fuel t [v] = some x) :
    ∃ a:FA,a.has ft∧VR ae.none_ W a.av v:=by
  cases fuel with
  | zero=>simp [DataW.trod] at h
  | succ fuel =>
  have h0:=h
  unfold G7 at ht
  split at ht
  · rename_i k hk
    cases ht
    simp only [DataW.trod,hk] at h
    cases v<;>simp at h
    rename_i k' n
    obtain ⟨⟨rfl,hw⟩,_⟩:=h
    exact ⟨.i k' n,⟨rfl,hw⟩,.int _ _⟩
  · rename_i hk
    cases ht
    simp only [DataW.trod,hk] at h
    cases v<;>simp at h
    rename_i k b
    obtain ⟨⟨rfl,hw⟩,_⟩:=h
    exact ⟨.f b,hw,.flt _ _ _ (.inl rfl)⟩
  · rename_i hk
    cases ht
    simp only [DataW.trod,hk] at h
    cases v<;>simp at h
    exact ⟨.s _,h.1,.str _⟩
  · rename_i hk
    cases ht
    simp only [DataW.trod,hk] at h
    cases v<;>simp at h
    exact ⟨.b _,trivial,.bool _ _⟩
  · rename_i e hk
    have key:∀ (he:P.cellsOf e=1),(v=.slice none 0 0)∨∃ (a:Addr) (len cap n:Nat) (V:Nat→Value),v=.slice (some a) len cap∧len≤cap∧cap≤maxLen ∧
        ∀ i,i<len→∃ y,W.cell? (a.add i)=some (V i)∧DataW.trod enc P W 0 (fun _=>true) true n e [V i]=some y:=by
      intro he
      rcases open_slice1 hk he h0 with ⟨h1,_⟩ | ⟨a,len,cap,m,n,V,D,Pl,h1,hb,hl,hm,hmm,_,hx⟩
      · simp only [List.cons.injEq,and_true] at h1
        exact .inl h1
      · simp only [List.cons.injEq,and_true] at h1
        refine .inr ⟨a,len,cap,n,V,h1,hl,hm,fun i hi=>⟨_,hx i (by rw [hmm,if_pos rfl];omega)⟩⟩
    split at ht
    · rename_i he hc
      cases ht
      rcases key hc with rfl | ⟨a,len,cap,n,V,rfl,hl,hm,hx⟩
      · exact ⟨.fl [],⟨Nat.zero_le _,fun x hx=>by cases hx⟩,.immEnd _ _ _ _ _ _ _ trivial (fun _=>rfl) rfl⟩
      · have hV:∀ i,i<len→V i=.float .f64 (CI (V i))∧(Lit.float .f64 (CI (V i))).wf=true:=by
          intro i hi
          obtain ⟨y,c1,c2⟩:=hx i hi
          cases n with
          | zero=>simp [DataW.trod] at c2
          | succ n =>
            simp only [DataW.trod,he] at c2
            cases hV:V i<;>rw [hV] at c2<;>simp at c2
            obtain ⟨⟨rfl,hw⟩,_⟩:=c2
            exact ⟨rfl,hw⟩
        refine ⟨.fl ((List.range len).map fun i=>CI (V i)),⟨by simp;omega,fun x hx=>?_⟩,?_⟩
        · simp only [List.mem_map,List.mem_range] at hx
          obtain ⟨i,hi,rfl⟩:=hx
          exact (hV i hi).2
        · simp only [FA.av,List.length_map,List.length_range]
          rcases Nat.eq_zero_or_pos len with rfl | hz
          · exact .immEnd _ _ _ _ _ _ _ trivial (fun _=>rfl) rfl
          · have h0:=uU (hx 0 hz).choose_spec.1
            have hs:a.spot=none:=by
              have e:a.add 0=a:=by simp [Addr.add]
              rw [e] at h0;exact h0
            have hcell:∀ i,i<len→W.cell? ⟨a.block,a.off+i,none⟩=some (V i):=fun i hi=>by
              obtain ⟨y,c1,_⟩:=hx i hi
              rw [xE c1 hs] at c1;exact c1
            have ha:a=⟨a.block,a.off+0*1,none⟩:=by cases a;simp only at hs;subst hs;rfl
            have:=VR.imm (ρ:=ae.none_) (w:=W) .free (.fl ((List.range len).map fun i=>CI (V i))) 1 1 0 len cap a.block a.off V (oY _ _) (zz (a:=⟨a.block,a.off+0,none⟩) (hcell 0 hz))
              (fun x v hx'=>by
                simp only [aj.cell?,Option.map_eq_some_iff] at hx'
                obtain ⟨y,h1,h2⟩:=hx'
                exact hcell x (jR _ _ _ _ h1).1)
              (fun x v hx'=>by
                simp only [aj.cell?,Option.map_eq_some_iff] at hx'
                obtain ⟨y,h1,rfl⟩:=hx'
                obtain ⟨q1,rfl⟩:=jR _ _ _ _ h1
                rw [(hV x q1).1]
                exact .flt _ _ _ (.inl rfl)) hl trivial (fun _=>rfl) rfl
            rw [ha];exact this
    · rename_i k he hc
      cases ht
      rcases key hc with rfl | ⟨a,len,cap,n,V,rfl,hl,hm,hx⟩
      · exact ⟨.ns k [],⟨rfl,Nat.zero_le _,fun x hx=>by cases hx⟩,.immEnd _ _ _ _ _ _ _ trivial (fun _=>rfl) rfl⟩
      · have hV:∀ i,i<len→V i=.int k (CL (V i))∧(Lit.int k (CL (V i))).wf=true:=by
          intro i hi
          obtain ⟨y,c1,c2⟩:=hx i hi
          cases n with
          | zero=>simp [DataW.trod] at c2
          | succ n =>
            simp only [DataW.trod,he] at c2
            cases hV:V i<;>rw [hV] at c2<;>simp at c2
            obtain ⟨⟨rfl,hw⟩,_⟩:=c2
            exact ⟨rfl,hw⟩
        refine ⟨.ns k ((List.range len).map fun i=>CL (V i)),⟨rfl,by simp;omega,fun x hx=>?_⟩,?_⟩
        · simp only [List.mem_map,List.mem_range] at hx
          obtain ⟨i,hi,rfl⟩:=hx
          exact (hV i hi).2
        · simp only [FA.av,List.length_map,List.length_range]
          rcases Nat.eq_zero_or_pos len with rfl | hz
          · exact .immEnd _ _ _ _ _ _ _ trivial (fun _=>rfl) rfl
          · have h0:=uU (hx 0 hz).choose_spec.1
            have hs:a.spot=none:=by
              have e:a.add 0=a:=by simp [Addr.add]
              rw [e] at h0;exact h0
            have hcell:∀ i,i<len→W.cell? ⟨a.block,a.off+i,none⟩=some (V i):=fun i hi=>by
              obtain ⟨y,c1,_⟩:=hx i hi
              rw [xE c1 hs] at c1;exact c1
            have ha:a=⟨a.block,a.off+0*1,none⟩:=by cases a;simp only at hs;subst hs;rfl
            have:=VR.imm (ρ:=ae.none_) (w:=W) .free (.ns k ((List.range len).map fun i=>CL (V i))) 1 1 0 len cap a.block a.off V (oY _ _) (zz (a:=⟨a.block,a.off+0,none⟩) (hcell 0 hz))
              (fun x v hx'=>by
                simp only [aj.cell?,Option.map_eq_some_iff] at hx'
                obtain ⟨y,h1,h2⟩:=hx'
                exact hcell x (jR _ _ _ _ h1).1)
              (fun x v hx'=>by
                simp only [aj.cell?,Option.map_eq_some_iff] at hx'
                obtain ⟨y,h1,rfl⟩:=hx'
                obtain ⟨q1,rfl⟩:=jR _ _ _ _ h1
                rw [(hV x q1).1]
                exact .int _ _) hl trivial (fun _=>rfl) rfl
            rw [ha];exact this
    · cases ht
  · cases ht
theorem Ia{t:TypeId}{ft:FT}{v:Value}{d:DataW H}{p:List MemPlace}{base:Nat}(ht:G7 P t=some ft)(ho:Value.okWide P W .any base t v)(h:DataW.Trod enc P W 0 (fun _=>true) true t v d p) :
    ∃ a:FA,a.has ft∧VR ae.none_ W a.av v:=by
  obtain ⟨fuel,hf⟩:=h
  have hc:v.cells.toList=[v]:=by
    have hne:∀ c,v ≠ .agg c:=by
      rintro c rfl
      unfold G7 at ht
      unfold Value.okWide at ho
      split at ht
      case h_6=>cases ht
      all_goals (rename_i hk;rw [hk] at ho;simp [Cell.okWide,Cell.ok,hk] at ho)
    cases v<;>first | rfl | exact (hne _ rfl).elim
  rw [hc] at hf
  exact BT ht hf
def FA.avs:List FA→List AV
  | []=>[]
  | a::l=>a.av::FA.avs l
def om:List FT→List FA→Prop
  | [],[]=>True
  | t::ts,a::fas=>a.has t∧om ts fas
  | _,_=>False
def Jb(P:Program)(t:TypeId) :Option (List FT) :=
  match P.underlying t with
  | some (.struct fs)=>bif P.cellsOf t==fs.size&&fs.toList.zipIdx.all (fun x=>x.1.offset==x.2&&P.cellsOf x.1.type==1) then fs.toList.mapM fun f=>G7 P f.type else none
  | _=>none
theorem xF{n:Nat} :∀ (fs:List Field) (o:Nat) {fts:List FT} {cs:List Value} {xs:List (DataW H×List MemPlace)},cs.length=o+fs.length→(∀ (j:Nat) (f:Field),fs[j]? = some f→f.offset=o+j∧P.cellsOf f.type=1)→fs.mapM (fun f=>G7 P f.type)=some fts →
    fs.mapM (fun f=>DataW.trod enc P W 0 (fun _=>true) true n f.type ((cs.drop f.offset).take (P.cellsOf f.type)))=some xs→∃ fas:List FA,om fts fas∧bG ae.none_ W (FA.avs fas) (cs.drop o)
  | [],o,fts,cs,xs,hl,_,h1,h2=>by
    simp at h1;subst h1
    exact ⟨[],trivial,by rw [List.drop_eq_nil_of_le (by simp at hl;omega)];exact .nil⟩
  | f::fs,o,fts,cs,xs,hl,hf,h1,h2=>by
    simp only [List.mapM_cons,Option.pure_def,Option.bind_eq_bind,Option.bind_eq_some_iff,Option.some.injEq] at h1 h2
    obtain ⟨ft,a1,fts',a2,rfl⟩:=h1
    obtain ⟨x,b1,xs',b2,rfl⟩:=h2
    obtain ⟨e1,e2⟩:=hf 0 f rfl
    simp only [List.length_cons] at hl
    have hlt:o<cs.length:=by omega
    have hd:(cs.drop f.offset).take (P.cellsOf f.type)=[cs[o]]:=by
      rw [e1,e2,Nat.add_zero,List.drop_eq_getElem_cons hlt];rfl
    rw [hd] at b1
    obtain ⟨a,k1,k2⟩:=BT a1 b1
    obtain ⟨fas,k3,k4⟩:=xF fs (o+1) (cs:=cs) (by omega) (fun j f' hj=>by have:=hf (j+1) f' (by simpa using hj);exact ⟨by omega,this.2⟩) a2 b2
    refine ⟨a::fas,⟨k1,k3⟩,?_⟩
    rw [List.drop_eq_getElem_cons hlt]
    exact .cons _ _ _ _ k2 k4
theorem CM{t:TypeId}{fts:List FT}{fuel:Nat}{cs:List Value}{x:DataW H×List MemPlace}(ht:Jb P t=some fts)(h:DataW.trod enc P W 0 (fun _=>true) true fuel t cs=some x) :
    ∃ fas:List FA,om fts fas∧bG ae.none_ W (FA.avs fas) cs:=by
  unfold Jb at ht
  split at ht
  case h_2=>cases ht
  rename_i fs hk
  cases hb:(P.cellsOf t==fs.size&&fs.toList.zipIdx.all (fun x=>x.1.offset==x.2&&P.cellsOf x.1.type==1)) with
  | false=>rw [hb] at ht;cases ht
  | true =>
  rw [hb] at ht
  simp only [cond_true] at ht
  simp only [Bool.and_eq_true,beq_iff_eq,List.all_eq_true] at hb
  cases fuel with
  | zero=>simp [DataW.trod] at h
  | succ fuel =>
  simp only [DataW.trod,hk] at h
  split at h
  case isFalse=>cases h
  rename_i hlen
  simp only [Option.map_eq_some_iff] at h
  obtain ⟨xs,h1,_⟩:=h
  have:=xF fs.toList 0 (cs:=cs) (by rw [hlen,hb.1];simp) (fun j f hj=>by
    have:=hb.2 (f,j) (by rw [List.mem_zipIdx_iff_getElem?];exact hj)
    simp only at this
    exact ⟨by omega,this.2⟩) ht h1
  simpa using this
theorem Eb{t:TypeId}{fts:List FT}{v:Value}{d:DataW H}{p:List MemPlace}{base:Nat}(ht:Jb P t=some fts)(ho:Value.okWide P W .any base t v)(h:DataW.Trod enc P W 0 (fun _=>true) true t v d p) :
    ∃ fas:List FA,om fts fas∧VR ae.none_ W (.agg (FA.avs fas)) v:=by
  obtain ⟨fuel,hf⟩:=h
  have hs:∃ cs,v=.agg cs:=by
    unfold Jb at ht
    split at ht
    case h_2=>cases ht
    rename_i fs hk
    unfold Value.okWide at ho
    rw [hk] at ho
    obtain ⟨cs,rfl,_⟩:=ho
    exact ⟨cs,rfl⟩
  obtain ⟨cs,rfl⟩:=hs
  obtain ⟨fas,k1,k2⟩:=CM ht hf
  exact ⟨fas,k1,.agg _ _ k2⟩
theorem Ib{W W':World}(h:dU (fun _=>False) W W') :Below W.heap.size W W' :=
  ⟨h.os,h.tape,h.output,h.size,fun k hk=>h.same k hk (fun q=>q)⟩
def nr(P:Program)(ts:List TypeId) :Bool:=ts.all fun t=>P.readableRec t&&decide (t<P.types.size)
theorem BU{W W':World}(hl:laidOutB P=true)(hb:Below W.heap.size W W') :∀ {ts:List TypeId} {vs:List Value} {ds:List (DataW H)} {ps:List MemPlace},nr P ts=true →
    DataW.TrodAll enc P W 0 (fun _=>true) true ts vs ds ps→(∀ x∈ps,x.block<W.heap.size)→∀ sp:Nat→Bool,(∀ p∈ps,sp p.block=true)→DataW.TrodAll enc P W' 0 sp true ts vs ds ps
  | [],vs,ds,ps,_,h,_,_,_=>by obtain ⟨rfl,rfl,rfl⟩:=trodAll_nil h;rfl
  | t::ts,vs,ds,ps,hp,h,hlt,sp,hsp=>by
    obtain ⟨v,vs',d,ds',p,q,rfl,rfl,rfl,h1,h2⟩:=trodAll_cons h
    simp only [nr,List.all_cons,Bool.and_eq_true,decide_eq_true_eq] at hp
    exact ⟨p,q,WideElems.Trod_stays hl hp.1.1 hp.1.2 h1 (fun x hx=>hb.same (hlt x (by simp [hx]))) (fun x hx=>hsp x (by simp [hx])),
      BU hl hb (by simpa [nr] using hp.2) h2 (fun x hx=>hlt x (by simp [hx])) sp (fun x hx=>hsp x (by simp [hx])),rfl⟩
theorem Ic{f:Func}{s:ChangeSpec}{W W':World}{args:Array Value}{ds gs:List (DataW H)}{before:List MemPlace}{tb:TypeId}(hl:laidOutB P=true) 
    (hW:DataW.Whole enc P f.params.toList s.vars false W args.toList ds gs before) (hv:s.vars=[]) (hp:nr P f.params.toList=true)
    (hs:s.fn H (ds++gs) = { results:=[.lit (.bool true)],args:=ds }) (hr:f.resultTypes = #[tb]) (ht:P.underlying tb=some .bool) (hw:dU (fun _=>False) W W') :
    s.post enc P f false true false false W args (.bool true) W':=by
  have hb:=Ib hw
  have hlt:∀ p∈before,p.block<W.heap.size:=fun p hp=>hW.lt p hp
  have hW':=hW
  obtain ⟨p,q,hA,hV,rfl,hfz,qj⟩:=hW'
  rw [hv] at hV
  obtain ⟨rfl,rfl⟩:=trodVars_none hV
  simp only [List.append_nil] at hlt hs hW
  have harg:=BU hl hb hp hA hlt (fun b=>decide (b<W.heap.size)) (fun x hx=>by simpa using hlt x hx)
  refine ⟨ds,[],p,[],p,[],hW,?_,?_,?_,World.keptBut_mono (fun x hx=>⟨hx,.inr (.inl hx)⟩) (hb.frame (· ∈ p)),fun e=>(by cases e)⟩
  · rw [List.append_nil,hs,hr]
    exact trodAll_mk1 (shut_bool ht true)
  · rw [List.append_nil,hs];exact harg
  · rw [hv];simp only [List.append_nil,hs];exact rfl
theorem BV{k:IntKind}{a:FA}(h:a.has (.i k)) :∃ n,a=.i k n:=by
  cases a<;>simp only [FA.has] at h
  obtain ⟨rfl,_⟩:=h;exact ⟨_,rfl⟩
theorem Ka{k:IntKind}{a:FA}(h:a.has (.ns k)) :∃ x,a=.ns k x:=by
  cases a<;>simp only [FA.has] at h
  obtain ⟨rfl,_⟩:=h;exact ⟨_,rfl⟩
theorem Idq{ρ:ae}{w w':World}{k b:Bool}{u:Value}(h:(⟨.bool k b,[]⟩:mb).Holds ρ w w' 0 u) :u=.bool b:=by
  obtain ⟨ρ',_,_,_,h4⟩:=h
  cases h4;rfl
end Go.Plb
namespace Go.Plb
set_option linter.unusedSimpArgs false
set_option linter.unusedVariables false
set_option linter.unusedSectionVars false
variable [Rom]
def cW{α:Type}(o n:Nat)(l:List α) :List α:=(jL o l).take n
theorem yA{α:Type}(o n:Nat)(l:List α) :cW o n l=(l.drop o).take n:=by
  unfold cW jL;cases o<;>rfl
theorem ln{α:Type}(l:List α) :cW 0 l.length l=l:=by simp [yA]
theorem jm{α:Type}{o n:Nat}{l:List α}(h:o+n≤l.length) :(cW o n l).length=n:=by rw [yA];simp;omega
theorem Ie{α:Type}{o n:Nat}{l:List α}{i:Nat}{v:α}(h:(cW o n l)[i]? = some v) :l[o+i]? = some v:=by
  rw [yA,List.getElem?_take] at h
  split at h
  · rw [List.getElem?_drop] at h;exact h
  · cases h
def lG{α:Type}(o n:Nat)(xs:List α) :Bool:=Nat.ble (o+n) xs.length
theorem oo{α:Type}{o n:Nat}{xs:List α} :lG o n xs=true↔o+n≤xs.length:=by unfold lG;rw [Nat.ble_eq]
theorem xV{l:Lv}{d d':aj}{w es o n:Nat}(h:∀ x v,d'.cell? x=some v→d.cell? (o*w+x)=some v)(hr:d.recKept→d'.recKept)(hk:d'.kept=true)(hg:d'.foreign=true) :
    ax (.imm l d w es o n) (.imm l d' w es 0 n):=by
  intro ρ w' u hv
  cases hv with
  | imm _ _ _ _ _ _ cap bl o' u' ha hb hc hv' hl' hr' _ _ =>
    have:=VR.imm (ρ:=ρ) (w:=w') l d' w es 0 n cap bl (o'+o*w) (fun x=>u' (o*w+x)) ha hb
      (fun x v hx=>by rw [Nat.add_assoc];exact hc _ v (h x v hx)) (fun x v hx=>hv' _ v (h x v hx)) hl' (hr hr') (fun _=>hk) hg
    simpa using this
  | immEnd _ _ _ _ _ _ _ hr'=>exact .immEnd _ _ _ _ _ _ _ (hr hr') (fun _=>hk) hg
theorem xW{l:Lv}{d':aj}{w es:Nat}(hr:d'.recKept)(hk:d'.kept=true)(hg:d'.foreign=true) :ax .nsl (.imm l d' w es 0 0):=by
  intro ρ w' u hv;cases hv;exact .immEnd _ _ _ _ _ _ _ hr (fun _=>hk) hg
theorem xX{l:Lv}{d':aj}{w es:Nat}(hr:d'.recKept)(hk:d'.kept=true)(hg:d'.foreign=true) :ax .esl (.imm l d' w es 0 0):=by
  intro ρ w' u hv;cases hv;exact .immEnd _ _ _ _ _ _ _ hr (fun _=>hk) hg
theorem cP.get:∀ {l1 l2:List AV},cP l1 l2→∀ {x:Nat} {v:AV},l2[x]? = some v→∃ v0,l1[x]? = some v0∧ax v0 v
  | _,_,.nil,x,v,h=>by simp at h
  | _,_,.cons a t,0,v,h=>by simp at h;subst h;exact ⟨_,rfl,a⟩
  | _,_,.cons a t,x+1,v,h=>by
    obtain ⟨v0,h1,h2⟩:=cP.get t (by simpa using h)
    exact ⟨v0,by simpa using h1,h2⟩
theorem zA{lv:Lv}{l1 l2:List AV}{k i j:Nat}(h:cP l1 l2)(hk:bA l1=true→bA l2=true)(hg:aG l1=true→aG l2=true) :ax (.iptr lv (.vs l1) k i j) (.iptr lv (.vs l2) k i j):=by
  intro ρ w u hv
  cases hv with | iptr _ _ _ _ _ bl o u' ha hb hc hv' hr hk' hg' =>
  refine .iptr _ _ _ _ _ bl o u' ha hb (fun x v hx=>?_) (fun x v hx=>?_) trivial (fun q=>hk (hk' q)) (hg hg')
  · obtain ⟨v0,h1,h2⟩:=h.get hx
    exact hc x v0 h1
  · obtain ⟨v0,h1,h2⟩:=h.get hx
    exact h2 _ _ _ (hv' x v0 h1)
theorem ax.fn{f:Fn}{a b a' b':List AV}(h:cP a a')(k:cP b b') :ax (.fn f a b) (.fn f a' b'):=by
  intro ρ w u hv
  cases hv with | fn _ _ _ c1 c2 h1 h2=>exact .fn _ _ _ _ _ (h.vrs h1) (k.vrs h2)
theorem ax.iface{t:TypeId}{a b:AV}(h:ax a b) :ax (.iface t a) (.iface t b):=by
  intro ρ w u hv
  cases hv with | iface _ _ u h1=>exact .iface _ _ _ (h _ _ _ h1)
theorem ax.any(v:AV) :ax v .any:=fun _ _ u _=>.any u
inductive CK where
  | cf
  | ci (k:IntKind)
  | cb
  | cs
  | cfl
  | cns (k:IntKind)
def CK.Ty:CK→Type
  | .cf=>List Nat
  | .ci _=>List Int
  | .cb=>List Bool
  | .cs=>List ByteArray
  | .cfl=>List (List Nat)
  | .cns _=>List (List Int)
def CK.fit:(k:CK)→(o n:Nat)→cm→Option k.Ty
  | .cf,o,n,.cf xs=>some (cW o n xs)
  | .ci k,o,n,.ci k' xs=>bif bu k k' then some (cW o n xs) else none
  | .cb,o,n,.cb xs=>some (cW o n xs)
  | .cs,o,n,.cs xs=>some (cW o n xs)
  | .cfl,o,n,.cfl xs=>some (cW o n xs)
  | .cns k,o,n,.cns k' xs=>bif bu k k' then some (cW o n xs) else none
  | _,_,_,_=>none
def CK.emp:(k:CK)→k.Ty
  | .cf=>([]:List Nat)
  | .ci _=>([]:List Int)
  | .cb=>([]:List Bool)
  | .cs=>([]:List ByteArray)
  | .cfl=>([]:List (List Nat))
  | .cns _=>([]:List (List Int))
def CK.col:(k:CK)→k.Ty→cm
  | .cf,xs=>.cf xs
  | .ci k,xs=>.ci k xs
  | .cb,xs=>.cb xs
  | .cs,xs=>.cs xs
  | .cfl,xs=>.cfl xs
  | .cns k,xs=>.cns k xs
theorem mw{a b:IntKind} :bu a b=true↔a=b:=by simp [bu]
theorem kS{α:Type}{f:α→AV}{o n i:Nat}{xs:List α}{v:AV}(h:((cW o n xs)[i]?).map f=some v) :(xs[o+i]?).map f=some v:=by
  simp only [Option.map_eq_some_iff] at h ⊢
  obtain ⟨y,h1,h2⟩:=h
  exact ⟨y,Ie h1,h2⟩
theorem CK.fit_spec:∀ {k:CK} {o n:Nat} {c:cm} {t:k.Ty},k.fit o n c=some t→(o+n≤c.len→(k.col t).len=n)∧∀ i v,(k.col t).cell? i=some v→c.cell? (o+i)=some v:=by
  intro k o n c t h
  cases k<;>cases c<;>simp only [CK.fit] at h<;>try (cases h;done)
  case cf.cf xs=>cases h;exact ⟨fun q=>jm q,fun i v q=>kS q⟩
  case ci.ci k k' xs =>
    cases e:bu k k' with
    | false=>rw [e] at h;cases h
    | true=>rw [e] at h;cases h;cases (mw.1 e);exact ⟨fun q=>jm q,fun i v q=>kS q⟩
  case cb.cb xs=>cases h;exact ⟨fun q=>jm q,fun i v q=>kS q⟩
  case cs.cs xs=>cases h;exact ⟨fun q=>jm q,fun i v q=>kS q⟩
  case cfl.cfl xs=>cases h;exact ⟨fun q=>jm q,fun i v q=>kS q⟩
  case cns.cns k k' xs =>
    cases e:bu k k' with
    | false=>rw [e] at h;cases h
    | true=>rw [e] at h;cases h;cases (mw.1 e);exact ⟨fun q=>jm q,fun i v q=>kS q⟩
theorem CK.emp_len:∀ (k:CK),(k.col k.emp).len=0:=by intro k;cases k<;>rfl
def CKs.Ty:List CK→Type
  | []=>Unit
  | k::l=>k.Ty×CKs.Ty l
def CKs.fit:(l:List CK)→(o n:Nat)→List cm→Option (CKs.Ty l)
  | [],_,_,[]=>some ()
  | k::l,o,n,c::cs=>(k.fit o n c).bind fun t=>(CKs.fit l o n cs).map fun r=>(t,r)
  | _,_,_,_=>none
def CKs.emp:(l:List CK)→CKs.Ty l
  | []=>()
  | k::l=>(k.emp,CKs.emp l)
def CKs.cols:(l:List CK)→CKs.Ty l→List cm
  | [],_=>[]
  | k::l,t=>k.col t.1::CKs.cols l t.2
theorem CKs.len:∀ {l:List CK} {t:CKs.Ty l},(CKs.cols l t).length=l.length
  | [],t=>rfl
  | k::l,t=>by simp [CKs.cols,CKs.len]
theorem xG:∀ {l:List CK} {o n:Nat} {cs:List cm} {t:CKs.Ty l},CKs.fit l o n cs=some t→cs.length=l.length
  | [],o,n,[],t,h=>rfl
  | [],o,n,c::cs,t,h=>by simp [CKs.fit] at h
  | k::l,o,n,[],t,h=>by simp [CKs.fit] at h
  | k::l,o,n,c::cs,t,h=>by
    simp only [CKs.fit] at h
    cases e1:k.fit o n c with
    | none=>rw [e1] at h;cases h
    | some a =>
      rw [e1] at h
      cases e2:CKs.fit l o n cs with
      | none=>simp only [Option.bind_some,e2] at h;cases h
      | some b=>simp [xG e2]
theorem CKs.fit_spec:∀ {l:List CK} {o n:Nat} {cs:List cm} {t:CKs.Ty l},CKs.fit l o n cs=some t→∀ (j:Nat) (c':cm),(CKs.cols l t)[j]? = some c'→∃ c:cm,cs[j]? = some c∧(o+n≤c.len→c'.len=n)∧∀ i v,c'.cell? i=some v→c.cell? (o+i)=some v
  | [],o,n,cs,t,h,j,c',q=>by simp [CKs.cols] at q
  | k::l,o,n,[],t,h,j,c',q=>by simp [CKs.fit] at h
  | k::l,o,n,c::cs,t,h,j,c',q=>by
    simp only [CKs.fit] at h
    cases e1:k.fit o n c with
    | none=>rw [e1] at h;cases h
    | some a =>
      rw [e1] at h
      cases e2:CKs.fit l o n cs with
      | none=>simp only [Option.bind_some,e2] at h;cases h
      | some b =>
        simp only [Option.bind_some,e2] at h
        cases h
        cases j with
        | zero=>simp [CKs.cols] at q;subst q;exact ⟨c,rfl,CK.fit_spec e1⟩
        | succ j=>exact CKs.fit_spec e2 j c' (by simpa [CKs.cols] using q)
theorem CKs.emp_len:∀ (l:List CK),∀ c∈CKs.cols l (CKs.emp l),c.len=0
  | [],c,h=>by cases h
  | k::l,c,h=>by
    simp only [CKs.cols,CKs.emp,List.mem_cons] at h
    rcases h with rfl | h
    · exact CK.emp_len k
    · exact CKs.emp_len l c h
mutual
inductive un where
  | int (k:IntKind)
  | flt (ex:Bool)
  | bool
  | kbool (b:Bool)
  | str
  | fl
  | ns (k:IntKind)
  | bs
  | ss
  | cols (l:List CK)
  | ivs (ps:lH) (w i j:Nat)
  | fn (f:FuncId) (a b:lH)
  | nfn
  | nptr
  | nsl
  | agg (ps:lH)
  | tup (ps:lH)
  | iface (t:TypeId) (p:un)
  | niface
  | any
  | lsl (b:Nat)
  | lptr (b w i j:Nat)
inductive lH where
  | nil
  | cons (p:un) (ps:lH)
end
mutual
def un.Ty:un→Type
  | .int _=>Int
  | .flt _=>Nat
  | .bool=>Bool
  | .str=>ByteArray
  | .fl=>Lv×List Nat
  | .ns _=>Lv×List Int
  | .bs=>Lv×List Bool
  | .ss=>Lv×List ByteArray
  | .cols l=>Lv×Nat×CKs.Ty l
  | .ivs ps _ _ _=>Lv×ps.Ty
  | .fn _ a b=>a.Ty×b.Ty
  | .agg ps=>ps.Ty
  | .tup ps=>ps.Ty
  | .iface _ p=>p.Ty
  | .kbool _=>Unit
  | .nfn=>Unit
  | .nptr=>Unit
  | .nsl=>Unit
  | .niface=>Unit
  | .any=>Unit
  | .lsl _=>Nat×Nat×Nat
  | .lptr _ _ _ _=>Unit
def lH.Ty:lH→Type
  | .nil=>Unit
  | .cons p ps=>p.Ty×ps.Ty
end
mutual
def un.av:(p:un)→p.Ty→AV
  | .int k,n=>.int k n
  | .flt ex,x=>.flt ex x
  | .bool,b=>.bool false b
  | .str,s=>.str s
  | .fl,t=>.imm t.1 (.fl t.2) 1 1 0 t.2.length
  | .ns k,t=>.imm t.1 (.ns k t.2) 1 1 0 t.2.length
  | .bs,t=>.imm t.1 (.bs t.2) 1 1 0 t.2.length
  | .ss,t=>.imm t.1 (.ss t.2) 1 1 0 t.2.length
  | .cols l,t=>.imm t.1 (.cols t.2.1 (CKs.cols l t.2.2)) l.length l.length 0 t.2.1
  | .ivs ps w i j,t=>.iptr t.1 (.vs (ps.avs t.2)) w i j
  | .fn f a b,t=>.fn (.func f) (a.avs t.1) (b.avs t.2)
  | .agg ps,t=>.agg (ps.avs t)
  | .tup ps,t=>.tup (ps.avs t)
  | .iface y p,t=>.iface y (p.av t)
  | .kbool b,_=>.bool true b
  | .nfn,_=>.nfn
  | .nptr,_=>.nptr
  | .nsl,_=>.nsl
  | .niface,_=>.niface
  | .any,_=>.any
  | .lsl b,t=>.sl b 1 1 t.1 t.2.1 t.2.2
  | .lptr b w i j,_=>.ptr b w i j
def lH.avs:(ps:lH)→ps.Ty→List AV
  | .nil,_=>[]
  | .cons p ps,t=>p.av t.1::ps.avs t.2
end
def Fl(a b:Bool) :Bool:=bif a then b else !b
theorem Fm{a b:Bool} :Fl a b=true↔a=b:=by cases a<;>cases b<;>simp [Fl]
def CKs.ok(n:Nat)(m:Nat) :Bool:=Nat.ble n m
def If(k:IntKind) :AV→Option (Int×List Bool)
  | .int k' n=>bif bu k k' then some (n,[]) else none
  | _=>none
def Ig(ex:Bool) :AV→Option (Nat×List Bool)
  | .flt ex' x=>bif ex && !ex' then none else some (x,[])
  | _=>none
def Gj:AV→Option (Bool×List Bool)
  | .bool kn b=>bif kn then none else some (b,[])
  | _=>none
def Ec(b:Bool) :AV→Option (Unit×List Bool)
  | .bool kn b'=>bif kn&&Fl b b' then some ((),[]) else none
  | _=>none
def Ih:AV→Option (ByteArray×List Bool)
  | .str s=>some (s,[])
  | _=>none
def BW{α:Type}(f:aj→Option (List α)) :AV→Option ((Lv×List α)×List Bool)
  | .imm l d w es o n=>(f d).bind fun xs=>bif Nat.beq w 1&&Nat.beq es 1 then some ((l,cW o n xs),[lG o n xs]) else none
  | .nsl=>some ((.free,[]),[])
  | .esl=>some ((.free,[]),[])
  | _=>none
def Ii:aj→Option (List Nat)
  | .fl xs=>some xs
  | _=>none
def Ij(k:IntKind) :aj→Option (List Int)
  | .ns k' xs=>bif bu k k' then some xs else none
  | _=>none
def Ik:aj→Option (List Bool)
  | .bs xs=>some xs
  | _=>none
def JC:aj→Option (List ByteArray)
  | .ss xs=>some xs
  | _=>none
def JD:aj→Option (List AV)
  | .vs xs=>some xs
  | _=>none
def Gk:aj→Option (Nat×List cm)
  | .cols m cs=>some (m,cs)
  | _=>none
def CN(ks:List CK) :AV→Option ((Lv×Nat×CKs.Ty ks)×List Bool)
  | .imm l d w es o n=>(Gk d).bind fun q=>bif Nat.beq w ks.length&&Nat.beq es ks.length then (CKs.fit ks o n q.2).map fun t=>((l,n,t),[Nat.ble (o+n) q.1]) else none
  | .nsl=>some ((.free,0,CKs.emp ks),[])
  | .esl=>some ((.free,0,CKs.emp ks),[])
  | _=>none
def JE(w i j:Nat) :AV→Option (Lv×List AV)
  | .iptr l d w' i' j'=>(JD d).bind fun xs=>bif Nat.beq w w'&&(Nat.beq i i'&&Nat.beq j j') then some (l,xs) else none
  | _=>none
def KC(f:FuncId) :AV→Option (List AV×List AV)
  | .fn (.func f') x y=>bif Nat.beq f f' then some (x,y) else none
  | _=>none
def JF:AV→Option (List AV)
  | .agg l=>some l
  | _=>none
def JG:AV→Option (List AV)
  | .tup l=>some l
  | _=>none
def Gl(t:TypeId) :AV→Option AV
  | .iface t' v=>bif Nat.beq t t' then some v else none
  | _=>none
def JH:AV→Option (Unit×List Bool)
  | .nfn=>some ((),[])
  | _=>none
def Il:AV→Option (Unit×List Bool)
  | .nptr=>some ((),[])
  | _=>none
def JI:AV→Option (Unit×List Bool)
  | .nsl=>some ((),[])
  | _=>none
def Im(b:Nat) :AV→Option ((Nat×Nat×Nat)×List Bool)
  | .sl b' w es i len cap=>bif Nat.beq b b'&&(Nat.beq w 1&&Nat.beq es 1) then some ((i,len,cap),[]) else none
  | _=>none
def Gm(b w i j:Nat) :AV→Option (Unit×List Bool)
  | .ptr b' w' i' j'=>bif (Nat.beq b b'&&Nat.beq w w')&&(Nat.beq i i'&&Nat.beq j j') then some ((),[]) else none
  | _=>none
def Ed:AV→Option (Unit×List Bool)
  | .niface=>some ((),[])
  | _=>none
mutual
def un.fit:(p:un)→AV→Option (p.Ty×List Bool)
  | .int k=>If k
  | .flt ex=>Ig ex
  | .bool=>Gj
  | .kbool b=>Ec b
  | .str=>Ih
  | .fl=>BW Ii
  | .ns k=>BW (Ij k)
  | .bs=>BW Ik
  | .ss=>BW JC
  | .cols ks=>CN ks
  | .ivs ps w i j=>fun v=>match JE w i j v with
    | some q=>match ps.fit q.2 with
      | some r=>some ((q.1,r.1),r.2)
      | none=>none
    | none=>none
  | .fn f a b=>fun v=>match KC f v with
    | some q=>match a.fit q.1 with
      | some r=>match b.fit q.2 with
        | some s=>some ((r.1,s.1),r.2++s.2)
        | none=>none
      | none=>none
    | none=>none
  | .agg ps=>fun v=>match JF v with
    | some l=>ps.fit l
    | none=>none
  | .tup ps=>fun v=>match JG v with
    | some l=>ps.fit l
    | none=>none
  | .iface t p=>fun v=>match Gl t v with
    | some u=>p.fit u
    | none=>none
  | .nfn=>JH
  | .nptr=>Il
  | .nsl=>JI
  | .niface=>Ed
  | .any=>fun _=>some ((),[])
  | .lsl b=>Im b
  | .lptr b w i j=>Gm b w i j
def lH.fit:(ps:lH)→List AV→Option (ps.Ty×List Bool)
  | .nil=>fun l=>match l with
    | []=>some ((),[])
    | _::_=>none
  | .cons p ps=>fun l=>match l with
    | []=>none
    | v::l=>match p.fit v with
      | some r=>match ps.fit l with
        | some s=>some ((r.1,s.1),r.2++s.2)
        | none=>none
      | none=>none
end
theorem G8{ks:List CK}{o n m:Nat}{cs:List cm}{t:CKs.Ty ks}(h:CKs.fit ks o n cs=some t) :∀ x v,(aj.cols n (CKs.cols ks t)).cell? x=some v→(aj.cols m cs).cell? (o*ks.length+x)=some v:=by
  intro x v hx
  have hl:=xG h
  obtain ⟨c',h1,_,h3⟩:=cT hx
  obtain ⟨c,q1,_,q3⟩:=CKs.fit_spec h _ _ h1
  rw [CKs.len] at h1 h3 q1
  have hpos:0<ks.length:=by
    have:=(List.getElem?_eq_some_iff.1 q1).1
    omega
  simp only [aj.cell?,hl,Option.bind_eq_some_iff]
  refine ⟨c,?_,?_⟩
  · rw [Nat.add_comm,Nat.add_mul_mod_self_right];exact q1
  · rw [Nat.add_comm,Nat.add_mul_div_right _ _ hpos,Nat.add_comm];exact q3 _ _ h3
structure Wk (v v':AV):Prop where
  weak:ax v v'
  kept:v.kept=true→v'.kept=true
  foreign:v.foreign=true→v'.foreign=true
structure K3 (v v':List AV):Prop where
  weak:cP v v'
  kept:bA v=true→bA v'=true
  foreign:aG v=true→aG v'=true
theorem Wk.refl(v:AV) :Wk v v:=⟨ax.refl v,id,id⟩
theorem Wk.fltL(x:Nat) :Wk (.flt true x) (.flt false x):=⟨fun ρ w u h=>(by
  cases h with | flt _ _ y hf =>
  rcases hf with rfl | ⟨q,_⟩
  · exact .flt _ _ _ (.inl rfl)
  · cases q),id,id⟩
theorem K3.cons{v v':AV}{l l':List AV}(h:Wk v v')(k:K3 l l') :K3 (v::l) (v'::l') :=
  ⟨.cons h.weak k.weak,fun q=>by simp only [bA,Bool.and_eq_true] at q ⊢;exact ⟨h.kept q.1,k.kept q.2⟩,fun q=>by simp only [aG,Bool.and_eq_true] at q ⊢;exact ⟨h.foreign q.1,k.foreign q.2⟩⟩
theorem Wk.part{l:Lv}{d d':aj}{w es o n:Nat}(h:∀ x v,d'.cell? x=some v→d.cell? (o*w+x)=some v)(hr:d.recKept→d'.recKept)(hk:d'.kept=true)(hg:d'.foreign=true) :Wk (.imm l d w es o n) (.imm l d' w es 0 n) :=
  ⟨xV h hr hk hg,id,id⟩
theorem Wk.nsl{d':aj}{w es:Nat}(hr:d'.recKept)(hk:d'.kept=true)(hg:d'.foreign=true) :Wk .nsl (.imm .free d' w es 0 0):=⟨xW hr hk hg,id,id⟩
theorem Wk.esl{d':aj}{w es:Nat}(hr:d'.recKept)(hk:d'.kept=true)(hg:d'.foreign=true) :Wk .esl (.imm .free d' w es 0 0):=⟨xX hr hk hg,id,id⟩
theorem Wk.fl{l:Lv}{xs:List Nat}{o n:Nat}(h:lG o n xs=true) :Wk (.imm l (.fl xs) 1 1 o n) (.imm l (.fl (cW o n xs)) 1 1 0 (cW o n xs).length):=by
  rw [jm (oo.1 h)];exact .part (fun x v q=>by rw [Nat.mul_one];exact kS q) (fun _=>trivial) rfl rfl
theorem Wk.ns{k:IntKind}{l:Lv}{xs:List Int}{o n:Nat}(h:lG o n xs=true) :Wk (.imm l (.ns k xs) 1 1 o n) (.imm l (.ns k (cW o n xs)) 1 1 0 (cW o n xs).length):=by
  rw [jm (oo.1 h)];exact .part (fun x v q=>by rw [Nat.mul_one];exact kS q) (fun _=>trivial) rfl rfl
theorem Wk.bs{l:Lv}{xs:List Bool}{o n:Nat}(h:lG o n xs=true) :Wk (.imm l (.bs xs) 1 1 o n) (.imm l (.bs (cW o n xs)) 1 1 0 (cW o n xs).length):=by
  rw [jm (oo.1 h)];exact .part (fun x v q=>by rw [Nat.mul_one];exact kS q) (fun _=>trivial) rfl rfl
theorem Wk.ss{l:Lv}{xs:List ByteArray}{o n:Nat}(h:lG o n xs=true) :Wk (.imm l (.ss xs) 1 1 o n) (.imm l (.ss (cW o n xs)) 1 1 0 (cW o n xs).length):=by
  rw [jm (oo.1 h)];exact .part (fun x v q=>by rw [Nat.mul_one];exact kS q) (fun _=>trivial) rfl rfl
theorem In{ks:List CK}{o n m:Nat}{cs:List cm}{t:CKs.Ty ks}(h:CKs.fit ks o n cs=some t)(hm:o+n≤m) :(aj.cols m cs).recKept→(aj.cols n (CKs.cols ks t)).recKept:=by
  intro hr c hc
  obtain ⟨j,hj⟩:=List.getElem?_of_mem hc
  obtain ⟨c0,q1,q2,_⟩:=CKs.fit_spec h j c hj
  exact q2 (by rw [hr c0 (List.mem_of_getElem? q1)];exact hm)
theorem KD{w es n:Nat}(h:(Nat.beq w n&&Nat.beq es n)=true) :w=n∧es=n:=by
  rw [Bool.and_eq_true] at h;exact ⟨Nat.eq_of_beq_eq_true h.1,Nat.eq_of_beq_eq_true h.2⟩
theorem mf{α:Type}{c:Bool}{a:α}{x:α}(h:(bif c then some a else none)=some x) :c=true∧a=x:=by
  cases c with
  | true=>exact ⟨rfl,by simpa using h⟩
  | false=>cases h
theorem KE{α:Type}{c:Bool}{a:Option α}{x:α}(h:(bif c then a else none)=some x) :c=true∧a=some x:=by
  cases c with
  | true=>exact ⟨rfl,h⟩
  | false=>cases h
theorem oZ{α:Type}{f:aj→Option (List α)}{g:List α→aj}(hg:∀ {d xs},f d=some xs→d=g xs) 
    (hw:∀ {l xs o n},lG o n xs=true→Wk (.imm l (g xs) 1 1 o n) (.imm l (g (cW o n xs)) 1 1 0 (cW o n xs).length)) (h0:(g []).recKept∧(g []).kept=true∧(g []).foreign=true)
    {v:AV} {t:Lv×List α} {o:List Bool} (h:BW f v=some (t,o)) (ho:ak o):Wk v (.imm t.1 (g t.2) 1 1 0 t.2.length):=by
  unfold BW at h
  split at h
  · rename_i l d w es i n
    cases e:f d with
    | none=>rw [e] at h;cases h
    | some xs =>
      rw [e] at h
      obtain ⟨e2,h⟩:=mf h
      obtain ⟨rfl,rfl⟩:=KD e2
      cases h;cases hg e;exact hw ho.1
  · cases h;exact .nsl h0.1 h0.2.1 h0.2.2
  · cases h;exact .esl h0.1 h0.2.1 h0.2.2
  · cases h
theorem CO{ks:List CK}{v:AV}{t:Lv×Nat×CKs.Ty ks}{o:List Bool}(h:CN ks v=some (t,o))(ho:ak o) :Wk v (.imm t.1 (.cols t.2.1 (CKs.cols ks t.2.2)) ks.length ks.length 0 t.2.1):=by
  unfold CN at h
  split at h
  · rename_i l d w es i n
    cases d<;>simp only [Gk,Option.bind_none,Option.bind_some,reduceCtorEq] at h
    rename_i m cs
    have e:=(KE h).1;replace h:=(KE h).2
    obtain ⟨rfl,rfl⟩:=KD e
    cases e2:CKs.fit ks i n cs with
    | none=>rw [e2] at h;cases h
    | some r =>
      rw [e2] at h;cases h
      have:i+n≤m:=Nat.le_of_ble_eq_true ho.1
      exact .part (G8 e2) (In e2 this) rfl rfl
  · cases h;exact .nsl (CKs.emp_len ks) rfl rfl
  · cases h;exact .esl (CKs.emp_len ks) rfl rfl
  · cases h
mutual
theorem un.fit_spec:∀ (p:un) (v:AV) {t:p.Ty} {o:List Bool},p.fit v=some (t,o)→ak o→Wk v (p.av t)
  | .int k,v,t,o,h,ho=>by
    simp only [un.fit,If] at h
    split at h
    · obtain ⟨e,h⟩:=mf h
      cases h;cases mw.1 e;exact .refl _
    · cases h
  | .flt ex,v,t,o,h,ho=>by
    simp only [un.fit,Ig] at h
    split at h
    · rename_i ex' x
      cases ex with
      | true =>
        cases ex' with
        | true=>cases h;exact .refl _
        | false=>cases h
      | false =>
        cases ex' with
        | true=>cases h;exact .fltL x
        | false=>cases h;exact .refl _
    · cases h
  | .bool,v,t,o,h,ho=>by
    simp only [un.fit,Gj] at h
    split at h
    · rename_i kn b
      cases kn with
      | true=>cases h
      | false=>cases h;exact .refl _
    · cases h
  | .kbool b,v,t,o,h,ho=>by
    simp only [un.fit,Ec] at h
    split at h
    · obtain ⟨e,h⟩:=mf h
      rw [Bool.and_eq_true] at e
      cases e.1;cases Fm.1 e.2;exact .refl _
    · cases h
  | .str,v,t,o,h,ho=>by
    simp only [un.fit,Ih] at h
    split at h
    · cases h;exact .refl _
    · cases h
  | .fl,v,t,o,h,ho=>oZ (g:=.fl) (f:=Ii) (fun {d xs} e=>by cases d<;>cases e;rfl) (fun q=>.fl q) ⟨trivial,rfl,rfl⟩ h ho
  | .ns k,v,t,o,h,ho=>oZ (g:=.ns k) (f:=Ij k) (fun {d xs} e=>by
      cases d<;>try (cases e;done)
      have e1:=(mf e).1;replace e:=(mf e).2
      cases mw.1 e1;cases e;rfl) (fun q=>.ns q) ⟨trivial,rfl,rfl⟩ h ho
  | .bs,v,t,o,h,ho=>oZ (g:=.bs) (f:=Ik) (fun {d xs} e=>by cases d<;>cases e;rfl) (fun q=>.bs q) ⟨trivial,rfl,rfl⟩ h ho
  | .ss,v,t,o,h,ho=>oZ (g:=.ss) (f:=JC) (fun {d xs} e=>by cases d<;>cases e;rfl) (fun q=>.ss q) ⟨trivial,rfl,rfl⟩ h ho
  | .cols ks,v,t,o,h,ho=>CO h ho
  | .ivs ps w i j,v,t,o,h,ho=>by
    simp only [un.fit] at h
    split at h
    case h_2=>cases h
    rename_i q hq
    split at h
    case h_2=>cases h
    rename_i r hr
    cases h
    unfold JE at hq
    split at hq
    case h_2=>cases hq
    rename_i l d w' i' j'
    cases d<;>simp only [JD,Option.bind_none,Option.bind_some,reduceCtorEq] at hq
    rename_i xs
    have e:=(mf hq).1;replace hq:=(mf hq).2
    rw [Bool.and_eq_true,Bool.and_eq_true] at e
    cases Nat.eq_of_beq_eq_true e.1
    cases Nat.eq_of_beq_eq_true e.2.1
    cases Nat.eq_of_beq_eq_true e.2.2
    cases hq
    have:=lH.fit_spec ps xs hr ho
    exact ⟨zA this.weak this.kept this.foreign,id,id⟩
  | .fn f a b,v,t,o,h,ho=>by
    simp only [un.fit] at h
    split at h
    case h_2=>cases h
    rename_i q hq
    split at h
    case h_2=>cases h
    rename_i r hr
    split at h
    case h_2=>cases h
    rename_i s hs
    cases h
    unfold KC at hq
    split at hq
    case h_2=>cases hq
    have e:=(mf hq).1;replace hq:=(mf hq).2
    cases Nat.eq_of_beq_eq_true e
    cases hq
    rw [aB] at ho
    have h1:=lH.fit_spec a _ hr ho.1
    have h2:=lH.fit_spec b _ hs ho.2
    refine ⟨ax.fn h1.weak h2.weak,fun q=>?_,fun q=>?_⟩
    · simp only [un.av,AV.kept,Bool.and_eq_true] at q ⊢;exact ⟨h1.kept q.1,h2.kept q.2⟩
    · simp only [un.av,AV.foreign,Bool.and_eq_true] at q ⊢;exact ⟨h1.foreign q.1,h2.foreign q.2⟩
  | .agg ps,v,t,o,h,ho=>by
    simp only [un.fit] at h
    split at h
    case h_2=>cases h
    rename_i l hl
    cases v<;>simp only [JF,reduceCtorEq,Option.some.injEq] at hl
    subst hl
    have:=lH.fit_spec ps _ h ho
    exact ⟨ax.agg this.weak,this.kept,this.foreign⟩
  | .tup ps,v,t,o,h,ho=>by
    simp only [un.fit] at h
    split at h
    case h_2=>cases h
    rename_i l hl
    cases v<;>simp only [JG,reduceCtorEq,Option.some.injEq] at hl
    subst hl
    have:=lH.fit_spec ps _ h ho
    exact ⟨ax.tup this.weak,this.kept,this.foreign⟩
  | .iface y p,v,t,o,h,ho=>by
    simp only [un.fit] at h
    split at h
    case h_2=>cases h
    rename_i u hu
    unfold Gl at hu
    split at hu
    case h_2=>cases hu
    have e:=(mf hu).1;replace hu:=(mf hu).2
    cases Nat.eq_of_beq_eq_true e
    subst hu
    have:=un.fit_spec p _ h ho
    exact ⟨ax.iface this.weak,this.kept,this.foreign⟩
  | .nfn,v,t,o,h,ho=>by
    cases v<;>simp only [un.fit,JH,reduceCtorEq] at h
    exact .refl _
  | .nptr,v,t,o,h,ho=>by
    cases v<;>simp only [un.fit,Il,reduceCtorEq] at h
    exact .refl _
  | .nsl,v,t,o,h,ho=>by
    cases v<;>simp only [un.fit,JI,reduceCtorEq] at h
    exact .refl _
  | .niface,v,t,o,h,ho=>by
    cases v<;>simp only [un.fit,Ed,reduceCtorEq] at h
    exact .refl _
  | .any,v,t,o,h,ho=>⟨ax.any v,fun _=>rfl,fun _=>rfl⟩
  | .lsl b,v,t,o,h,ho=>by
    simp only [un.fit,Im] at h
    split at h
    · have e:=(mf h).1;replace h:=(mf h).2
      rw [Bool.and_eq_true,Bool.and_eq_true] at e
      cases Nat.eq_of_beq_eq_true e.1
      cases Nat.eq_of_beq_eq_true e.2.1
      cases Nat.eq_of_beq_eq_true e.2.2
      cases h;exact .refl _
    · cases h
  | .lptr b w i j,v,t,o,h,ho=>by
    simp only [un.fit,Gm] at h
    split at h
    · have e:=(mf h).1;replace h:=(mf h).2
      rw [Bool.and_eq_true,Bool.and_eq_true,Bool.and_eq_true] at e
      cases Nat.eq_of_beq_eq_true e.1.1
      cases Nat.eq_of_beq_eq_true e.1.2
      cases Nat.eq_of_beq_eq_true e.2.1
      cases Nat.eq_of_beq_eq_true e.2.2
      exact .refl _
    · cases h
theorem lH.fit_spec:∀ (ps:lH) (l:List AV) {t:ps.Ty} {o:List Bool},ps.fit l=some (t,o)→ak o→K3 l (ps.avs t)
  | .nil,[],t,o,h,ho=>⟨.nil,id,id⟩
  | .nil,v::l,t,o,h,ho=>by simp [lH.fit] at h
  | .cons p ps,[],t,o,h,ho=>by simp [lH.fit] at h
  | .cons p ps,v::l,t,o,h,ho=>by
    simp only [lH.fit] at h
    split at h
    case h_2=>cases h
    rename_i r hr
    split at h
    case h_2=>cases h
    rename_i s hs
    cases h
    rw [aB] at ho
    exact .cons (un.fit_spec p v hr ho.1) (lH.fit_spec ps l hs ho.2)
end
def db(f:FuncId)(ps:lH)(alts:ps.Ty→List oU) :aH :=
  ⟨f, fun L args => match L with
    | []=>match ps.fit args with
      | some r=>some ((alts r.1).map fun a=>⟨a.out,r.2++a.obs⟩)
      | none=>none
    | _=>none⟩
theorem aP{P:Program}{f:FuncId}{ps:lH}{alts:ps.Ty→List oU}(h:∀ t,∀ a∈alts t,ak a.obs→am P f [] (ps.avs t) a.out) :aL P (db f ps alts):=by
  intro L args al a hal ha ho
  simp only [db] at hal
  split at hal
  case h_2=>cases hal
  split at hal
  case h_2=>cases hal
  rename_i r hr
  obtain ⟨t,o⟩:=r
  simp only [Option.some.injEq] at hal
  subst hal
  simp only [List.mem_map] at ha
  obtain ⟨b,hb,rfl⟩:=ha
  simp only [aB] at ho
  exact (h t b hb ho.2).args (lH.fit_spec ps args hr ho.1).weak
inductive CP where
  | int (k:IntKind)
  | flt
  | fltx
  | bool
  | str
  | lsl (b:Nat)
  | lsl0 (b:Nat)
  | lptr (b w i j:Nat)
  | nsl
  | nptr
def CP.Ty:CP→Type
  | .int _=>Int
  | .flt=>Nat
  | .fltx=>Nat
  | .bool=>Bool
  | .str=>ByteArray
  | .lsl _=>Nat×Nat×Nat
  | .lsl0 _=>Nat×Nat
  | .lptr _ _ _ _=>Unit
  | .nsl=>Unit
  | .nptr=>Unit
def CP.av:(p:CP)→p.Ty→AV
  | .int k,n=>.int k n
  | .flt,x=>.flt false x
  | .fltx,x=>.flt true x
  | .bool,b=>.bool false b
  | .str,s=>.str s
  | .lsl b,t=>.sl b 1 1 t.1 t.2.1 t.2.2
  | .lsl0 b,t=>.sl b 1 1 0 t.1 t.2
  | .lptr b w i j,_=>.ptr b w i j
  | .nsl,_=>.nsl
  | .nptr,_=>.nptr
def JJ(k:IntKind) :AV→Option Int
  | .int k' n=>bif bu k k' then some n else none
  | _=>none
def JK:AV→Option Nat
  | .flt ex x=>bif ex then none else some x
  | _=>none
def Io:AV→Option Nat
  | .flt ex x=>bif ex then some x else none
  | _=>none
def Ip:AV→Option Bool
  | .bool kn b=>bif kn then none else some b
  | _=>none
def JL:AV→Option ByteArray
  | .str s=>some s
  | _=>none
def JM(b:Nat) :AV→Option (Nat×Nat×Nat)
  | .sl b' w es i len cap=>bif Nat.beq b b'&&(Nat.beq w 1&&Nat.beq es 1) then some (i,len,cap) else none
  | _=>none
def Iq(b:Nat) :AV→Option (Nat×Nat)
  | .sl b' w es i len cap=>bif Nat.beq b b'&&(Nat.beq w 1&&Nat.beq es 1)&&Nat.beq i 0 then some (len,cap) else none
  | _=>none
def Ir(b w i j:Nat) :AV→Option Unit
  | .ptr b' w' i' j'=>bif (Nat.beq b b'&&Nat.beq w w')&&(Nat.beq i i'&&Nat.beq j j') then some () else none
  | _=>none
def JN:AV→Option Unit
  | .nsl=>some ()
  | _=>none
def Is:AV→Option Unit
  | .nptr=>some ()
  | _=>none
def CP.fit:(p:CP)→AV→Option p.Ty
  | .int k=>JJ k
  | .flt=>JK
  | .fltx=>Io
  | .bool=>Ip
  | .str=>JL
  | .lsl b=>JM b
  | .lsl0 b=>Iq b
  | .lptr b w i j=>Ir b w i j
  | .nsl=>JN
  | .nptr=>Is
theorem KF{c:Bool}{α:Type}{a x:α}(h:(bif c then none else some a)=some x) :c=false∧a=x:=by
  cases c with
  | true=>cases h
  | false=>exact ⟨rfl,by simpa using h⟩
theorem CP.fit_spec:∀ (p:CP) {v:AV} {t:p.Ty},p.fit v=some t→v=p.av t
  | .int k,v,t,h=>by
    simp only [CP.fit,JJ] at h
    split at h
    · obtain ⟨e,h⟩:=mf h
      cases h;cases mw.1 e;rfl
    · cases h
  | .flt,v,t,h=>by
    simp only [CP.fit,JK] at h
    split at h
    · obtain ⟨e,h⟩:=KF h
      cases h;cases e;rfl
    · cases h
  | .fltx,v,t,h=>by
    simp only [CP.fit,Io] at h
    split at h
    · obtain ⟨e,h⟩:=mf h
      cases h;cases e;rfl
    · cases h
  | .bool,v,t,h=>by
    simp only [CP.fit,Ip] at h
    split at h
    · obtain ⟨e,h⟩:=KF h
      cases h;cases e;rfl
    · cases h
  | .str,v,t,h=>by
    simp only [CP.fit,JL] at h
    split at h
    · cases h;rfl
    · cases h
  | .lsl b,v,t,h=>by
    simp only [CP.fit,JM] at h
    split at h
    · have e:=(mf h).1;replace h:=(mf h).2
      rw [Bool.and_eq_true,Bool.and_eq_true] at e
      cases Nat.eq_of_beq_eq_true e.1
      cases Nat.eq_of_beq_eq_true e.2.1
      cases Nat.eq_of_beq_eq_true e.2.2
      cases h;rfl
    · cases h
  | .lsl0 b,v,t,h=>by
    simp only [CP.fit,Iq] at h
    split at h
    · have e:=(mf h).1;replace h:=(mf h).2
      rw [Bool.and_eq_true,Bool.and_eq_true,Bool.and_eq_true] at e
      cases Nat.eq_of_beq_eq_true e.1.1
      cases Nat.eq_of_beq_eq_true e.1.2.1
      cases Nat.eq_of_beq_eq_true e.1.2.2
      cases Nat.eq_of_beq_eq_true e.2
      cases h;rfl
    · cases h
  | .lptr b w i j,v,t,h=>by
    simp only [CP.fit,Ir] at h
    split at h
    · have e:=(mf h).1;clear h
      rw [Bool.and_eq_true,Bool.and_eq_true,Bool.and_eq_true] at e
      cases Nat.eq_of_beq_eq_true e.1.1
      cases Nat.eq_of_beq_eq_true e.1.2
      cases Nat.eq_of_beq_eq_true e.2.1
      cases Nat.eq_of_beq_eq_true e.2.2
      rfl
    · cases h
  | .nsl,v,t,h=>by
    simp only [CP.fit,JN] at h
    split at h
    · rfl
    · cases h
  | .nptr,v,t,h=>by
    simp only [CP.fit,Is] at h
    split at h
    · rfl
    · cases h
def CPs.Ty:List CP→Type
  | []=>Unit
  | p::l=>p.Ty×CPs.Ty l
def CPs.avs:(l:List CP)→CPs.Ty l→List AV
  | [],_=>[]
  | p::l,t=>p.av t.1::CPs.avs l t.2
def CPs.fit:(l:List CP)→List AV→Option (CPs.Ty l)
  | []=>fun vs=>match vs with
    | []=>some ()
    | _::_=>none
  | p::l=>fun vs=>match vs with
    | []=>none
    | v::vs=>match p.fit v with
      | some t=>match CPs.fit l vs with
        | some r=>some (t,r)
        | none=>none
      | none=>none
theorem CPs.fit_spec:∀ (l:List CP) {vs:List AV} {t:CPs.Ty l},CPs.fit l vs=some t→vs=CPs.avs l t
  | [],[],t,h=>rfl
  | [],_::_,t,h=>by cases h
  | _::_,[],t,h=>by cases h
  | p::l,v::vs,t,h=>by
    simp only [CPs.fit] at h
    split at h
    case h_2=>cases h
    rename_i x hx
    split at h
    case h_2=>cases h
    rename_i r hr
    cases h
    simp only [CPs.avs]
    rw [←CP.fit_spec p hx,←CPs.fit_spec l hr]
inductive BK where
  | fl
  | ns (k:IntKind)
  | bs
  | vs (l:List CP)
def BK.Ty:BK→Type
  | .fl=>List Nat
  | .ns _=>List Int
  | .bs=>List Bool
  | .vs l=>CPs.Ty l
def BK.blk:(k:BK)→k.Ty→aj
  | .fl,xs=>.fl xs
  | .ns k,xs=>.ns k xs
  | .bs,xs=>.bs xs
  | .vs l,t=>.vs (CPs.avs l t)
def Lb(l:List CP) :aj→Option (CPs.Ty l)
  | .vs xs=>CPs.fit l xs
  | _=>none
def BK.fit:(k:BK)→aj→Option k.Ty
  | .fl=>Ii
  | .ns k=>Ij k
  | .bs=>Ik
  | .vs l=>Lb l
theorem BK.fit_spec:∀ (k:BK) {d:aj} {t:k.Ty},k.fit d=some t→d=k.blk t
  | .fl,d,t,h=>by cases d<;>cases h;rfl
  | .ns k,d,t,h=>by
    cases d<;>try (cases h;done)
    have e1:=(mf h).1;replace h:=(mf h).2
    cases mw.1 e1;cases h;rfl
  | .bs,d,t,h=>by cases d<;>cases h;rfl
  | .vs l,d,t,h=>by
    cases d<;>try (cases h;done)
    exact congrArg aj.vs (CPs.fit_spec l h)
def BKs.Ty:List BK→Type
  | []=>Unit
  | k::l=>k.Ty×BKs.Ty l
def zB:(l:List BK)→BKs.Ty l→List aj
  | [],_=>[]
  | k::l,t=>k.blk t.1::zB l t.2
def BKs.fit:(l:List BK)→List aj→Option (BKs.Ty l)
  | [],[]=>some ()
  | [],_::_=>none
  | _::_,[]=>none
  | k::l,d::ds=>match k.fit d with
    | some t=>match BKs.fit l ds with
      | some r=>some (t,r)
      | none=>none
    | none=>none
theorem BKs.fit_spec:∀ (l:List BK) {ds:List aj} {t:BKs.Ty l},BKs.fit l ds=some t→ds=zB l t
  | [],[],t,h=>rfl
  | [],_::_,t,h=>by cases h
  | _::_,[],t,h=>by cases h
  | k::l,d::ds,t,h=>by
    simp only [BKs.fit] at h
    split at h
    case h_2=>cases h
    rename_i x hx
    split at h
    case h_2=>cases h
    rename_i r hr
    cases h
    simp only [zB]
    rw [←BK.fit_spec k hx,←BKs.fit_spec l hr]
theorem bF{P:Program}{f:FuncId}{l:List AV} :∀ a∈([]:List oU),ak a.obs→am P f [] l a.out:=fun a h=>by cases h
theorem ba{P:Program}{f:FuncId}{l:List AV}{o:mb}{b:Bool}{al:List oU}(h:b=true→am P f [] l o)(t:∀ a∈al,ak a.obs→am P f [] l a.out) :∀ a∈(⟨o,[b]⟩:oU)::al,ak a.obs→am P f [] l a.out:=by
  intro a ha ho
  rcases List.mem_cons.1 ha with rfl | ha
  · exact h ho.1
  · exact t a ha ho
end Go.Plb
namespace Go.Plb
open Go.ChangeShapes Go.WideShapes Go.ChangeAt Go.RowKit Go.Deep
set_option linter.unusedSimpArgs false
set_option linter.unusedVariables false
set_option linter.unusedSectionVars false
variable [Rom]
def FA.n:FA→Nat
  | .f x=>x
  | _=>0
def FA.ss:FA→ByteArray
  | .s x=>x
  | _=>ByteArray.empty
def FA.lf:FA→List Nat
  | .fl x=>x
  | _=>[]
variable {H : Type} {enc : TypeId × Value → H} {P : Program} {W : World}
instance:Inhabited FA:=⟨.b false⟩
end Go.Plb
namespace Go.Plb.Seat
open Go Go.Plb Go.Proofs
noncomputable abbrev prog:Program:=Tryz.prog
def aI:List Int:=[1,10,100,1000,10000,100000,1000000,10000000,100000000,1000000000,10000000000,100000000000,1000000000000,10000000000000,100000000000000,1000000000000000,10000000000000000,100000000000000000,1000000000000000000,10000000000000000000]
instance:Rom:=⟨[(1,.gvar (aI.map fun z=>Value.int .u64 z).toArray),(4,.iptr .free (.vs [.iface 158 .any]) 1 0 0),(5,.iptr .free (.vs [.iface 158 .any]) 1 0 0)],by intro x hx;simp only [List.mem_cons,List.not_mem_nil,or_false] at hx;rcases hx with rfl | rfl | rfl<;>rfl⟩
abbrev hF:FuncId:=5
abbrev nL:FuncId:=7
abbrev eS:FuncId:=8
abbrev xH:FuncId:=9
abbrev jS:FuncId:=12
abbrev uV:FuncId:=17
abbrev jT:FuncId:=18
abbrev nM:FuncId:=19
abbrev uW:FuncId:=20
abbrev dM:FuncId:=21
abbrev pA:FuncId:=22
abbrev pa:FuncId:=23
abbrev pC:FuncId:=31
abbrev sw:FuncId:=32
abbrev bz:FuncId:=33
abbrev Ee:FuncId:=35
abbrev sx:FuncId:=36
abbrev sy:FuncId:=37
abbrev qB:FuncId:=38
abbrev jU:FuncId:=39
abbrev qC:FuncId:=41
abbrev jV:FuncId:=43
abbrev pb:FuncId:=44
abbrev nt:FuncId:=46
abbrev pD:FuncId:=47
abbrev gM:FuncId:=48
abbrev lp:FuncId:=49
abbrev mG:FuncId:=50
abbrev sA:FuncId:=53
abbrev jr:FuncId:=57
abbrev jt:FuncId:=63
abbrev ch:FuncId:=64
abbrev eC:FuncId:=68
abbrev lI:FuncId:=78
abbrev cj:FuncId:=92
abbrev bK:FuncId:=94
noncomputable def FN(f:FuncId) :Func:=(prog.funcs[f]?).getD default
noncomputable def tA(f:FuncId) :Code:=((FN f).body).getD .skip
noncomputable def C0:tn:=Gc prog [(cj,.cntb),(bK,.idxb)] [(bz,⟨[true,false],false⟩),(Ee,⟨[],true⟩)]
theorem jW:HY prog cj .cntb:=⟨FN cj,by kernel_rfl,by kernel_rfl,by kernel_rfl,by kernel_rfl,by kernel_rfl⟩
theorem hH:HY prog bK .idxb:=⟨FN bK,by kernel_rfl,by kernel_rfl,by kernel_rfl,by kernel_rfl,by kernel_rfl⟩
theorem mixed:prog.follows .mixedOrders=true:=by kernel_rfl
theorem KG:Gd prog=true:=by kernel_rfl
theorem JO:C0.Ok:=HZ mixed KG (by
  intro x hx
  simp only [List.mem_cons,List.not_mem_nil,or_false] at hx
  rcases hx with rfl | rfl
  · exact jW
  · exact hH
  )
end Go.Plb.Seat
namespace Go.Proofs.YtacdcghekbbjiaaGreatDoor
open Go.ChangeShapes Go.WideShapes Go.ChangeAt Go.RowKit Go.Plb Go.Plb.Seat
set_option maxRecDepth 100000
theorem Kb:ownKnob Tryz.prog.godebug=none:=by kernel_rfl
theorem Jc:laidOutB Tryz.prog=true:=by kernel_rfl
def zC : List (String × DataW Unit) := [("math/bits.deBruijn32tab", Rows.laid_math_bits_deBruijn32tab), ("math/bits.deBruijn64tab", Rows.laid_math_bits_deBruijn64tab), ("internal/strconv.uint64pow10", Rows.laid_internal_strconv_uint64pow10), ("unicode/utf8.acceptRanges", Rows.laid_unicode_utf8_acceptRanges), ("strconv.ErrRange", Rows.laid_strconv_ErrRange), ("strconv.ErrSyntax", Rows.laid_strconv_ErrSyntax), ("unicode/utf8.first", Rows.laid_unicode_utf8_first)]
theorem Gn : Tryz.prog.globalNamed "internal/strconv.uint64pow10" = some 1 := by kernel_rfl
theorem Gp : Tryz.prog.globalNamed "strconv.ErrRange" = some 5 := by kernel_rfl
theorem Gq : Tryz.prog.globalNamed "strconv.ErrSyntax" = some 4 := by kernel_rfl
theorem Jd:(Rows.laid_internal_strconv_uint64pow10:DataW Unit)=Lib.tabData .u64 aI:=by rfl
theorem KH : "*" ++ "errors.errorString" = "*errors.errorString" := by decide
noncomputable def Ls:Field:=match Tryz.prog.underlying 160 with
  | some (.struct l)=>l[0]?.getD default
  | _=>default
noncomputable def KI:Array (String×TypeId):=match Tryz.prog.underlying 63 with
  | some (.interface l)=>l
  | _=>#[]
theorem It(u : TypeId)(h : Tryz.prog.typeName? 3 u = some "*errors.errorString") : u = 158 :=
  typeName_ptr_named (nm := "errors.errorString") (by rw [KH]; kernel_rfl) (by kernel_rfl) (by decide) u (by rw [KH]; exact h)
theorem zD{W:World}{n:String}{g:Nat}{cs:Array Value}(hg:Tryz.prog.globalNamed n=some g)(h:W.var? Tryz.prog n=some cs) :∃ t fr,W.heap[g]? = some (.cells cs t fr):=by
  unfold World.var? at h
  rw [hg] at h
  simp only [Option.bind_some] at h
  split at h
  · rename_i cs' t fr e
    cases h
    exact ⟨t,fr,e⟩
  · cases h
theorem Ef{W:World}{g:Nat}{v:Value}(h:∃ t fr,W.heap[g]? = some (.cells #[.iface 158 v] t fr)) :VR ae.none_ W (.iptr .free (.vs [.iface 158 .any]) 1 0 0) (.pointer (some ⟨g,0,none⟩)):=by
  obtain ⟨t,fr,h⟩:=h
  refine .iptr .free _ 1 0 0 g 0 (fun _=>.iface 158 v) (oY _ _) (Array.getElem?_eq_some_iff.1 h).1 (fun x u hx=>?_) (fun x u hx=>?_) trivial (fun _=>rfl) rfl
  · cases x with
    | zero=>simp [World.cell?,h]
    | succ x=>cases hx
  · cases x with
    | zero=>cases hx;exact .iface _ _ _ (.any _)
    | succ x=>cases hx
theorem Je{W:World}(h:laidMetH Tryz.prog zC W) :∀ x∈Rom.tab,VR ae.none_ W x.2 (.pointer (some ⟨x.1,0,none⟩)):=by
  have h':laidMet Tryz.prog zC W:=h
  have h3:=h'.tail.tail
  have ht : Lib.TabIs Tryz.prog W "internal/strconv.uint64pow10" .u64 aI := by
    rw [Jd] at h3
    exact Lib.tabIs_of_head Gn (t:=143) (e:=31) (n:=aI.length) (by kernel_rfl) (by kernel_rfl) (by kernel_rfl) (by kernel_rfl) (by kernel_rfl) h3
  have h5:=h3.tail.tail
  obtain ⟨a0,s0,hv0,-,-,-⟩:=laid_sentinel (te:=160) (ts:=9) (f:=Ls) (ms:=KI) h5 Gp (ti:=63) (by kernel_rfl) (by kernel_rfl) It (by kernel_rfl) (by kernel_rfl) (by kernel_rfl) (by kernel_rfl) (by kernel_rfl) (by kernel_rfl) (by kernel_rfl)
  have h6:=h5.tail
  obtain ⟨a1,s1,hv1,-,-,-⟩:=laid_sentinel (te:=160) (ts:=9) (f:=Ls) (ms:=KI) h6 Gq (ti:=63) (by kernel_rfl) (by kernel_rfl) It (by kernel_rfl) (by kernel_rfl) (by kernel_rfl) (by kernel_rfl) (by kernel_rfl) (by kernel_rfl) (by kernel_rfl)
  intro x hx
  simp only [Rom.tab,List.mem_cons,List.not_mem_nil,or_false] at hx
  rcases hx with rfl | rfl | rfl
  · obtain ⟨t,fr,hh⟩:=zD Gn ht
    exact .gvar _ 1 t fr (oY _ _) (Array.getElem?_eq_some_iff.1 hh).1 hh
  · exact Ef (zD Gq hv1)
  · exact Ef (zD Gp hv0)
def Lc:DataW Unit→List Value
  | .lit (.int k z)=>[.int k z]
  | .agg l=>l.flatMap fun
    | .lit (.int k z)=>[.int k z]
    | _=>[]
  | _=>[]
def Iu:DataW Unit→Array Value
  | .agg l=>(l.flatMap Lc).toArray
  | _=>#[]
def zE(g:Nat)(c:Array Value)(h:Array Obj) :Array Obj:=h.modify g fun
  | .cells _ t frozen=>.cells c t frozen
  | o=>o
def Lt:DataW Unit→Value
  | .iface _ (.ptr (.agg [.lit (.string s)]))=>.string ⟨s.toArray⟩
  | _=>undef
noncomputable def BX(os:Os) :World :=
  let w0:=World.holding Tryz.prog os ⟨#[],#[],[]⟩
  let n:=w0.heap.size
  { w0 with heap:=(((zE 2 (Iu Rows.laid_unicode_utf8_first) (zE 3 (Iu Rows.laid_unicode_utf8_acceptRanges) (zE 1 (Iu Rows.laid_internal_strconv_uint64pow10) (zE 6 (Iu Rows.laid_math_bits_deBruijn32tab) (zE 7 (Iu Rows.laid_math_bits_deBruijn64tab)
      (zE 5 #[.iface 158 (.pointer (some ⟨n,0,none⟩))] (zE 4 #[.iface 158 (.pointer (some ⟨n+1,0,none⟩))] w0.heap))))))).push (.cells #[Lt Rows.laid_strconv_ErrRange] 160 (0,0))).push (.cells #[Lt Rows.laid_strconv_ErrSyntax] 160 (0,0))) }
theorem Iv(os:Os)(args:Array Value) :laidMetH Tryz.prog zC ((BX os).forCall (fun _ _=>0) ⟨#[],args,[]⟩).memory :=
  (laidMet_of_run' 8 (by kernel_rfl) (by kernel_rfl):laidMet Tryz.prog zC _)
theorem Jf{l:List FA}(h:om [.i .i64,.i .i64,.i .i64,.ns .u64,.i .i64,.i .u64] l) :∃ k m n ws y t,l=[.i .i64 k,.i .i64 m,.i .i64 n,.ns .u64 ws,.i .i64 y,.i .u64 t]:=by
  match l,h with
  | [a,b,c,d,e,f],⟨h1,h2,h3,h4,h5,h6,_⟩ =>
    obtain ⟨k,rfl⟩:=BV h1
    obtain ⟨m,rfl⟩:=BV h2
    obtain ⟨n,rfl⟩:=BV h3
    obtain ⟨ws,rfl⟩:=Ka h4
    obtain ⟨y,rfl⟩:=BV h5
    obtain ⟨t,rfl⟩:=BV h6
    exact ⟨k,m,n,ws,y,t,rfl⟩
end Go.Proofs.YtacdcghekbbjiaaGreatDoor
namespace Go.Plb
open Go.RowKit
set_option linter.unusedSimpArgs false
set_option linter.unusedVariables false
set_option linter.unusedSectionVars false
variable [Rom]
theorem my{M:Nat→Prop}{w w':World}(h:Below w.heap.size w w') :dU M w w' :=
  ⟨h.os,h.tape,h.output,h.size,fun b hb _=>h.block b hb,fun b c t fz hc=>⟨c,(h.block b (by
    rcases Nat.lt_or_ge b w.heap.size with q | q
    · exact q
    · rw [Array.getElem?_eq_none q] at hc;cases hc)).trans hc,rfl⟩⟩
theorem cy.new{ρ:ae}{w:World}{l:List aj}(hN:cy ρ w l)(bl:Nat)(h:w.heap.size≤bl) :ρ.avoid .free bl:=by
  intro j _
  cases j with
  | zero=>exact fun q=>by have:=hN.heap.liveLt bl q;omega
  | succ j=>exact fun q=>by have:=hN.heap.outLt j bl q;omega
def dW(w:World) :Prop:=∀ x∈Rom.tab,VR ae.none_ w x.2 (.pointer (some ⟨x.1,0,none⟩))
theorem Eg(ρ:ae)(w:World) :Cs ρ ae.none_ w:=fun _ _ _ j=>by cases j<;>exact fun h=>h
theorem cy.romOk{ρ:ae}{w:World}{l:List aj}(hN:cy ρ w l) :dW w:=fun x hx=>cx (Eg ρ w) (hN.heap.rom x hx) (Rom.kept x hx)
theorem dW.below{w w':World}(h:dW w){B:Nat}(hb:Below B w w')(hB:w.heap.size≤B) :dW w':=fun x hx =>
  (h x hx).mono (gZ.refl _ _) (my (hb.mono hB))
theorem G9{w w':World}(W:dU ae.none_.live w w') :Below w.heap.size w w':=⟨W.os,W.tape,W.output,W.size,fun k hk=>W.same k hk (fun h=>h)⟩
theorem am.calls{P:Program}{f:FuncId}{args:List AV}{v:AV}{us:List Value}(h:am P f [] args ⟨v,[]⟩)(w:World)(hr:dW w)(hv:bG ae.none_ w args us) :
    Calls P f us.toArray w fun e w'=>∃ u ρ',e=.returned u∧Below w.heap.size w w'∧VR ρ' w' v u:=by
  refine (h ae.none_ w us (Gi w hr) hv).2.mono ?_
  rintro e w' ⟨u,rfl,W,ρ',_,_,_,hu⟩
  exact ⟨u,ρ',rfl,G9 W,hu⟩
theorem bB{P:Program}{f:FuncId}{args:List AV}{v:AV}(hf:∃ fn,P.funcs[f]? = some fn∧fn.body.isSome=true) 
    (h:∀ (ρ:ae) (w:World) (us:List Value),cy ρ w []→bG ρ w args us→Calls P f us.toArray w fun e w'=>∃ u,e=.returned u∧Below w.heap.size w w'∧VR ρ w' v u):am P f [] args ⟨v,[]⟩:=by
  intro ρ w us hN hv
  refine ⟨hf,(h ρ w us hN hv).mono ?_⟩
  rintro e w' ⟨u,rfl,hb,hu⟩
  have W:dU ρ.live w w':=my hb
  exact ⟨u,rfl,W,ρ,gZ.refl _ _,fun _ _ q=>q,hN.heap.step W (fun bl q=>hb.block bl (hN.heap.liveLt bl q)),hu⟩
end Go.Plb
namespace Go.Plb.Seat
open Go Go.Plb Go.Proofs Go.RowKit
set_option maxRecDepth 100000
set_option linter.unusedSimpArgs false
set_option linter.unusedVariables false
def nu(s:List UInt8)(n:Int)(a b:Bool) :Value:=.agg #[.string ⟨s.toArray⟩,.int .i64 n,.bool a,.bool b]
def dB:List MapEntry:=[⟨.int .i64 1,nu [101,105,103,101,110] 3 false true,0⟩,⟨.int .i64 2,nu [118,97,108,117,101,115] 0 false true,1⟩,⟨.int .i64 3,nu [115,118,100] 2 false false,2⟩,
  ⟨.int .i64 4,nu [114,97,110,107] 2 true false,3⟩,⟨.int .i64 5,nu [105,110,118,101,114,115,101] 2 true false,4⟩,⟨.int .i64 6,nu [99,111,110,100] 2 false false,5⟩]
theorem Iw{α:Type}(a:Array α)(x y:α) :(a.push x).setIfInBounds a.size y=a.push y:=by
  apply Array.ext
  · simp
  · intro i h1 h2
    rw [Array.getElem_setIfInBounds]
    · rw [Array.getElem_push,Array.getElem_push]
      by_cases q:a.size=i
      · subst q;simp
      · have:i<a.size:=by simp at h2;omega
        simp [q,this]
    · simp at h2 ⊢;omega
theorem Eh(w:World)(o:Obj)(h:∀ c t f,o ≠ .cells c t f) :(getObj w.heap.size).run prog (w.alloc o)=.ok o (w.alloc o):=by
  have hn:(w.alloc o).heap[w.heap.size]? = some o:=aO w o
  simp only [getObj,Sem.run]
  rw [hn]
  cases o<;>first | rfl | exact absurd rfl (h _ _ _)
theorem Ei(w:World)(o o':Obj)(h:∀ c t f,o ≠ .cells c t f) :(setObj w.heap.size o').run prog (w.alloc o)=.ok () (w.alloc o'):=by
  have hn:(w.alloc o).heap[w.heap.size]? = some o:=aO w o
  simp only [setObj,Sem.run]
  rw [hn]
  have he:({ (w.alloc o) with heap:=(w.alloc o).heap.setIfInBounds w.heap.size o' }:World)=w.alloc o':=by
    simp only [World.alloc]
    congr 1
    exact Iw _ _ _
  cases o<;>first | exact congrArg _ he | exact absurd rfl (h _ _ _)
theorem Lu:prog.underlying 79=some (.map 29 78):=by kernel_rfl
theorem Kv:prog.underlying 29=some (.int .i64):=by kernel_rfl
theorem rD(w:World)(es:Array MapEntry)(cl:Nat)(k:Int)(v:Value)(h:Instr.findNow (.int .i64) (.int .i64 k) es.toList 0=some none) :
    (Instr.mapUpdate 79 (.map (some w.heap.size)) (.int .i64 k) v).run prog (w.alloc (.map es cl))=.ok () (w.alloc (.map (es.push ⟨.int .i64 k,v,cl⟩) (cl+1))):=by
  have hg:=Eh w (.map es cl) (fun _ _ _ e=>by cases e)
  have hc:(Instr.checkKey false 10000 29 (.int .i64 k)).run prog (w.alloc (.map es cl))=.ok () (w.alloc (.map es cl)):=wj Kv (key:=.i .i64 k) rfl false 9999
  have hf:(Instr.findKey 29 (.int .i64 k) es.toList).run prog (w.alloc (.map es cl))=.ok none (w.alloc (.map es cl)):=by
    unfold Instr.findKey
    simp only [Sem.run_bind,run_underlying Kv,Result.andThen_ok,h]
    rfl
  unfold Instr.mapUpdate
  simp only [Sem.run_bind,run_underlying Lu,Result.andThen_ok,hg,hc,hf]
  exact Ei w (.map es cl) _ (fun _ _ _ e=>by cases e)
set_option maxHeartbeats 1000000 in
theorem xI (w : World) : Calls prog jU #[] w fun e w' => e = .returned (.map (some w.heap.size)) ∧ w' = w.alloc (.map dB.toArray 6) := by
  have hmm := @run_makeMap prog
  have h1 := rD w #[] 0 1 (nu [101, 105, 103, 101, 110] 3 false true) rfl
  have h2 := rD w (dB.take 1).toArray 1 2 (nu [118, 97, 108, 117, 101, 115] 0 false true) rfl
  have h3 := rD w (dB.take 2).toArray 2 3 (nu [115, 118, 100] 2 false false) rfl
  have h4 := rD w (dB.take 3).toArray 3 4 (nu [114, 97, 110, 107] 2 true false) rfl
  have h5 := rD w (dB.take 4).toArray 4 5 (nu [105, 110, 118, 101, 114, 115, 101] 2 true false) rfl
  have h6 := rD w (dB.take 5).toArray 5 6 (nu [99, 111, 110, 100] 2 false false) rfl
  simp only [dB, nu, List.take, List.push_toArray, List.cons_append, List.nil_append, Nat.reduceAdd] at h1 h2 h3 h4 h5 h6
  go_enter Tryz.func39, Tryz.ntmps39
  go_wp2
  go_ret
  exact ⟨rfl, rfl⟩
def zF(s:List UInt8)(n:Int)(a b:Bool) :AV:=.agg [.str ⟨s.toArray⟩,.int .i64 n,.bool true a,.bool true b]
def CQ:List cd:=[.i .i64 1,.i .i64 2,.i .i64 3,.i .i64 4,.i .i64 5,.i .i64 6]
def Fo:List AV:=[zF [101,105,103,101,110] 3 false true,zF [118,97,108,117,101,115] 0 false true,zF [115,118,100] 2 false false,zF [114,97,110,107] 2 true false,zF [105,110,118,101,114,115,101] 2 true false,zF [99,111,110,100] 2 false false]
theorem oq(ρ:ae)(w:World)(s:List UInt8)(n:Int)(a b:Bool) :VR ρ w (zF s n a b) (nu s n a b) :=
  .agg _ _ (.cons _ _ _ _ (.str _) (.cons _ _ _ _ (.int _ _) (.cons _ _ _ _ (.bool _ _) (.cons _ _ _ _ (.bool _ _) .nil))))
theorem LD{i:Nat}{k:cd}(h:CQ[i]? = some k) :i<6:=by
  have:=(List.getElem?_eq_some_iff.1 h).1
  exact this
theorem Ix{ρ:ae}{w:World}{bl:Nat}(ha:ρ.avoid .free bl)(hb:bl<w.heap.size)(hh:w.heap[bl]? = some (.map dB.toArray 6)) :VR ρ w (.gmap CQ Fo) (.map (some bl)):=by
  refine .gmap _ _ bl _ 6 (fun i=>((dB.map (·.val))[i]?).getD undef) ha hb hh (fun e he=>?_) (fun i k hk=>?_) (fun x v hx=>?_) rfl rfl
  · have he:e∈dB:=he
    simp only [dB,List.mem_cons,List.not_mem_nil,or_false] at he
    rcases he with rfl | rfl | rfl | rfl | rfl | rfl
    · exact ⟨0,_,rfl,rfl,rfl⟩
    · exact ⟨1,_,rfl,rfl,rfl⟩
    · exact ⟨2,_,rfl,rfl,rfl⟩
    · exact ⟨3,_,rfl,rfl,rfl⟩
    · exact ⟨4,_,rfl,rfl,rfl⟩
    · exact ⟨5,_,rfl,rfl,rfl⟩
  · have hi:=LD hk
    refine ⟨(dB[i]?).getD default,?_,?_⟩
    · have h6:dB.length=6:=rfl
      show (dB[i]?).getD default∈dB
      rw [List.getElem?_eq_getElem (by omega)]
      exact List.getElem_mem _
    · rcases i with _ | _ | _ | _ | _ | _ | i
      · cases hk;exact ⟨rfl,rfl⟩
      · cases hk;exact ⟨rfl,rfl⟩
      · cases hk;exact ⟨rfl,rfl⟩
      · cases hk;exact ⟨rfl,rfl⟩
      · cases hk;exact ⟨rfl,rfl⟩
      · cases hk;exact ⟨rfl,rfl⟩
      · omega
  · rcases x with _ | _ | _ | _ | _ | _ | x
    · cases hx;exact oq ..
    · cases hx;exact oq ..
    · cases hx;exact oq ..
    · cases hx;exact oq ..
    · cases hx;exact oq ..
    · cases hx;exact oq ..
    · cases hx
theorem Ej(w:World)(o:Obj) :Below w.heap.size w (w.alloc o):=(Below.refl _ w).alloc (Nat.le_refl _) o
theorem Jg:am prog jU [] [] ⟨.gmap CQ Fo,[]⟩:=by
  refine bB ⟨FN jU,by kernel_rfl,by kernel_rfl⟩ fun ρ w us hN hv=>?_
  cases hv
  refine (xI w).mono ?_
  rintro e w' ⟨rfl,rfl⟩
  refine ⟨_,rfl,Ej _ _,Ix (hN.new _ (Nat.le_refl _)) (by simp) (aO w _)⟩
def CR:aH:=⟨jU,fun lent args=>match lent,args with | [],[]=>some [⟨⟨.gmap CQ Fo,[]⟩,[]⟩] | _,_=>none⟩
theorem Fp:aL prog CR:=by
  intro lent args alts a h ha ho
  simp only [CR] at h
  split at h
  · simp only [Option.some.injEq] at h;subst h
    simp only [List.mem_singleton] at ha;subst ha
    exact Jg
  · cases h
end Go.Plb.Seat
namespace Go.Plb.Seat
open Go Go.Plb Go.Proofs Go.RowKit
open Go.ChangeMaps (setBlock)
set_option maxRecDepth 100000
set_option linter.unusedSimpArgs false
set_option linter.unusedVariables false
def jX(i:Nat) :ByteArray:=⟨(([[101,105,103,101,110],[118,97,108,117,101,115],[115,118,100],[114,97,110,107],[105,110,118,101,114,115,101],[99,111,110,100]]:List (List UInt8))[i]?.getD []).toArray⟩
def kn(i:Nat) :Int:=([3,0,2,2,2,2]:List Int)[i]?.getD 0
def kt(i:Nat) :Bool:=([false,false,false,true,true,false]:List Bool)[i]?.getD false
def ks(i:Nat) :Bool:=([true,true,false,false,false,false]:List Bool)[i]?.getD false
def Fq(i:Nat) :Array Value:=#[.string (jX i),.int .i64 (kn i),.bool (kt i),.bool (ks i)]
def kE(i:Nat) :MapEntry:=⟨.int .i64 (i+1),.agg (Fq i),i⟩
theorem qD:dB=[kE 0,kE 1,kE 2,kE 3,kE 4,kE 5]:=rfl
theorem Iy{seen:List Nat}{e:MapEntry}(h:e∈(leftOf dB.toArray seen.toArray).toList) :∃ i,i<6∧i ∉ seen∧e=kE i:=by
  simp only [leftOf,qD,List.filter_toArray,List.mem_filter,List.mem_cons,List.not_mem_nil,or_false,Bool.not_eq_true',List.contains_toArray] at h
  obtain ⟨h1,h2⟩:=h
  have hb:∀ i,(kE i).born=i:=fun i=>rfl
  rcases h1 with rfl | rfl | rfl | rfl | rfl | rfl
  · exact ⟨0,by decide,by simpa [hb] using h2,rfl⟩
  · exact ⟨1,by decide,by simpa [hb] using h2,rfl⟩
  · exact ⟨2,by decide,by simpa [hb] using h2,rfl⟩
  · exact ⟨3,by decide,by simpa [hb] using h2,rfl⟩
  · exact ⟨4,by decide,by simpa [hb] using h2,rfl⟩
  · exact ⟨5,by decide,by simpa [hb] using h2,rfl⟩
theorem Ha{seen:List Nat}(h:(leftOf dB.toArray seen.toArray).size=0) :∀ i,i<6→i∈seen:=by
  intro i hi
  have h0:(leftOf dB.toArray seen.toArray).toList=[]:=List.length_eq_zero_iff.1 (by simpa using h)
  simp only [leftOf,qD,List.filter_toArray,List.filter_eq_nil_iff,Bool.not_eq_true',List.contains_toArray,Bool.not_eq_false] at h0
  have:seen.contains (kE i).born=true:=h0 (kE i) (by
    rcases i with _ | _ | _ | _ | _ | _ | i
    · simp
    · simp
    · simp
    · simp
    · simp
    · simp
    · omega)
  simpa [kE] using this
def RE(B:Nat)(W:World)(i:Nat)(e:MapEntry) :Prop :=
  e.key=.string (jX i)∧∃ bn bk,B≤bn∧B≤bk∧e.val=.func (.func ch) #[] #[.pointer (some ⟨bn,0,none⟩),.pointer (some ⟨bk,0,none⟩)] ∧
    W.heap[bn]? = some (.cells #[.int .i64 (i+1)] 29 (0,0))∧W.heap[bk]? = some (.cells (Fq i) 78 (0,0))
structure RI (w:World) (W:World) (seen:List Nat):Prop where
  it:W.heap[w.heap.size+2]? = some (.mapIter (some (w.heap.size+1)) 6 seen.toArray 6)
  src:W.heap[w.heap.size+1]? = some (.map dB.toArray 6)
  nodup:seen.Nodup
  lt:∀ i∈seen,i<6
  low:Below w.heap.size w W
  all:∃ es cl,W.heap[w.heap.size]? = some (.map es cl)∧(∀ e∈es.toList,∃ i∈seen,RE w.heap.size W i e)∧(∀ i∈seen,∃ e∈es.toList,RE w.heap.size W i e)∧∀ e∈es.toList,∀ e'∈es.toList,e.key=e'.key→e=e'
theorem A3(W:World)(m cl:Nat)(es:Array MapEntry)(h:W.heap[m]? = some (.map es cl)) :(Instr.range 79 (.map (some m))).run prog W=.ok (.pointer (some ⟨W.heap.size,0,none⟩)) (W.alloc (.mapIter (some m) cl #[] cl)):=by
  have hg:(getObj m).run prog W=.ok (.map es cl) W:=by simp only [getObj,Sem.run];rw [h]
  unfold Instr.range
  simp only [Sem.run_bind,run_underlying Lu,Result.andThen_ok,hg]
  rfl
theorem JP(w:World)(a b:Obj) :((w.alloc a).alloc b).heap.size=w.heap.size+2:=by simp
theorem LE:prog.underlying 91=some (.map 9 90):=by kernel_rfl
theorem u9:prog.underlying 9=some .string:=by kernel_rfl
theorem ju{w:World}{b:Nat}{o:Obj}(h:b<w.heap.size) :(setBlock w b o).heap[b]? = some o:=by simp [setBlock,h]
theorem dC{w:World}{b c:Nat}{o:Obj}(h:c≠b) :(setBlock w b o).heap[c]? = w.heap[c]?:=by
  simp only [setBlock,Array.getElem?_setIfInBounds]
  rw [if_neg (fun e:b=c=>h e.symm)]
theorem nN{w:World}{b:Nat}{o:Obj} :(setBlock w b o).heap.size=w.heap.size:=by simp [setBlock]
theorem BY{i j:Nat}(hi:i<6)(hj:j<6)(h:jX i=jX j) :i=j:=by
  have h':(jX i).data.toList=(jX j).data.toList:=by rw [h]
  rcases i with _ | _ | _ | _ | _ | _ | i<;>rcases j with _ | _ | _ | _ | _ | _ | j<;>first | rfl | omega | (exfalso;revert h';decide)
theorem CS(W:World)(m cl:Nat)(es:Array MapEntry)(h:W.heap[m]? = some (.map es cl))(k:ByteArray)(v:Value)(hk:∀ e∈es.toList,∃ s,e.key=.string s∧s≠k) :
    (Instr.mapUpdate 91 (.map (some m)) (.string k) v).run prog W=.ok () (setBlock W m (.map (es.push ⟨.string k,v,cl⟩) (cl+1))):=by
  have hg:(getObj m).run prog W=.ok (.map es cl) W:=by simp only [getObj,Sem.run];rw [h]
  have hc:(Instr.checkKey false 10000 9 (.string k)).run prog W=.ok () W:=wj u9 (key:=.s k) rfl false 9999
  have hn:Instr.findNow .string (.string k) es.toList 0=some none:=by
    rcases oM (d:=.string) (key:=.s k) rfl es.toList 0 (fun e he=>by obtain ⟨s,h1,_⟩:=hk e he;exact ⟨.s s,rfl,h1⟩) with q | ⟨j,e,h1,h2,_⟩
    · exact q.1
    · obtain ⟨s,k1,k2⟩:=hk e h1
      rw [k1] at h2
      exact absurd (by simpa [cd.val] using h2) k2
  have hf:(Instr.findKey 9 (.string k) es.toList).run prog W=.ok none W:=by
    unfold Instr.findKey
    simp only [Sem.run_bind,run_underlying u9,Result.andThen_ok,hn]
    rfl
  unfold Instr.mapUpdate
  simp only [Sem.run_bind,run_underlying LE,Result.andThen_ok,hg,hc,hf]
  simp only [setObj,Sem.run]
  rw [h]
  rfl
theorem Ek:∀ (n:Nat) (l:List Nat),l.Nodup→(∀ i∈l,i<n)→l.length≤n
  | 0,l,_,h=>by
    cases l with
    | nil=>simp
    | cons a l=>have:=h a (by simp);omega
  | n+1,l,hn,h=>by
    have:=Ek n (l.erase n) (hn.erase n) (fun i hi=>by
      have h1:=h i (List.mem_of_mem_erase hi)
      have h2:i≠n:=fun e=>by subst e;exact (List.Nodup.not_mem_erase hn) hi
      omega)
    rw [List.length_erase] at this
    split at this<;>omega
theorem RE.mono{B:Nat}{W W':World}{i:Nat}{e:MapEntry}(h:RE B W i e)(hs:∀ b c t,B≤b→W.heap[b]? = some (.cells c t (0,0))→W'.heap[b]? = some (.cells c t (0,0))) :RE B W' i e:=by
  obtain ⟨h1,bn,bk,h2,h3,h4,h5,h6⟩:=h
  exact ⟨h1,bn,bk,h2,h3,h4,hs _ _ _ h2 h5,hs _ _ _ h3 h6⟩
set_option maxHeartbeats 1000000 in
theorem RI.step {w W2 : World} {wr : World} {seen : List Nat} (hI : RI w wr seen) {i : Nat} (hi : i < 6) (his : i ∉ seen) {w1 : World} (hw1 : w1 = wr ∨ w1 = wr.drew)
    (hW2 : setBlock w1 (w.heap.size + 2) (.mapIter (some (w.heap.size + 1)) 6 (seen.toArray.push (kE i).born) 6) = W2) {es : Array MapEntry} {cl : Nat} (hes : wr.heap[w.heap.size]? = some (.map es cl))
    (h1 : ∀ e ∈ es.toList, ∃ i ∈ seen, RE w.heap.size wr i e) (h2 : ∀ i ∈ seen, ∃ e ∈ es.toList, RE w.heap.size wr i e) (h3 : ∀ e ∈ es.toList, ∀ e' ∈ es.toList, e.key = e'.key → e = e') :
    RI w (setBlock ((W2.alloc (.cells #[.int .i64 (i + 1)] 29)).alloc (.cells (Fq i) 78)) w.heap.size (.map (es.push ⟨.string (jX i), .func (.func 64) #[] #[.pointer (some ⟨W2.heap.size, 0, none⟩), .pointer (some ⟨W2.heap.size + 1, 0, none⟩)], cl⟩) (cl + 1))) (seen ++ [i]) := by
  have hh1 : w1.heap = wr.heap := by rcases hw1 with rfl | rfl <;> rfl
  have hlt : ∀ {b : Nat} {o : Obj}, wr.heap[b]? = some o → b < wr.heap.size := fun h => (Array.getElem?_eq_some_iff.1 h).1
  have hsz : W2.heap.size = wr.heap.size := by rw [← hW2, nN, hh1]
  have L2 := hlt hI.it
  have L1 := hlt hI.src
  have L0 := hlt hes
  have e2 : ∀ c, c ≠ w.heap.size + 2 → W2.heap[c]? = wr.heap[c]? := fun c hc => by rw [← hW2, dC hc, hh1]
  obtain ⟨W3, hW3⟩ : ∃ W3, (W2.alloc (.cells #[.int .i64 (i + 1)] 29)).alloc (.cells (Fq i) 78) = W3 := ⟨_, rfl⟩
  have e3 : ∀ c, c < wr.heap.size → W3.heap[c]? = W2.heap[c]? := fun c hc => by
    rw [← hW3, bO (by simp; omega), bO (by omega)]
  have n1 : W3.heap[wr.heap.size]? = some (.cells #[.int .i64 (i + 1)] 29 (0, 0)) := by
    rw [← hW3, bO (by simp; omega), ← hsz]; exact aO _ _
  have n2 : W3.heap[wr.heap.size + 1]? = some (.cells (Fq i) 78 (0, 0)) := by
    have := aO (W2.alloc (.cells #[.int .i64 (i + 1)] 29)) (.cells (Fq i) 78)
    rw [hW3] at this
    simpa [hsz] using this
  rw [hW3]
  obtain ⟨W4, hW4⟩ : ∃ W4, setBlock W3 w.heap.size (.map (es.push ⟨.string (jX i), .func (.func 64) #[] #[.pointer (some ⟨W2.heap.size, 0, none⟩), .pointer (some ⟨W2.heap.size + 1, 0, none⟩)], cl⟩) (cl + 1)) = W4 := ⟨_, rfl⟩
  rw [hW4]
  have e4 : ∀ c, c ≠ w.heap.size → W4.heap[c]? = W3.heap[c]? := fun c hc => by rw [← hW4, dC hc]
  have s3 : W3.heap.size = wr.heap.size + 2 := by rw [← hW3]; simp [hsz]
  have old : ∀ b c t, w.heap.size ≤ b → wr.heap[b]? = some (.cells c t (0, 0)) → W4.heap[b]? = some (.cells c t (0, 0)) := fun b c t hb h => by
    have hne : b ≠ w.heap.size := fun e => by rw [e, hes] at h; cases h
    have hne2 : b ≠ w.heap.size + 2 := fun e => by rw [e, hI.it] at h; cases h
    rw [e4 b hne, e3 b (hlt h), e2 b hne2]; exact h
  refine ⟨?_, ?_, ?_, ?_, ?_, ⟨_, _, by rw [← hW4]; exact ju (by omega), ?_, ?_, ?_⟩⟩
  · rw [e4 _ (by omega), e3 _ L2, ← hW2, ju (by rw [hh1]; exact L2)]
    simp [kE]
  · rw [e4 _ (by omega), e3 _ L1, e2 _ (by omega)]; exact hI.src
  · exact List.nodup_append.2 ⟨hI.nodup, by simp, fun a ha b hb e => by simp at hb; subst hb; subst e; exact his ha⟩
  · intro j hj
    simp at hj
    rcases hj with hj | rfl
    · exact hI.lt j hj
    · exact hi
  · have a1 : W4.os = wr.os ∧ W4.tape = wr.tape ∧ W4.output = wr.output := by
      rw [← hW4, ← hW3, ← hW2]; rcases hw1 with rfl | rfl <;> exact ⟨rfl, rfl, rfl⟩
    have s4 : W4.heap.size = wr.heap.size + 2 := by rw [← hW4, nN, s3]
    refine hI.low.trans ⟨a1.1, a1.2.1, a1.2.2, by omega, fun k hk => ?_⟩
    rw [e4 k (by omega), e3 k (by omega), e2 k (by omega)]
  · intro e he
    simp at he
    rcases he with he | rfl
    · obtain ⟨j, hj, hr⟩ := h1 e (by simpa using he)
      exact ⟨j, by simp [hj], hr.mono old⟩
    · exact ⟨i, by simp, rfl, W2.heap.size, W2.heap.size + 1, by omega, by omega, rfl, by rw [hsz, e4 _ (by omega)]; exact n1, by rw [hsz, e4 _ (by omega)]; exact n2⟩
  · intro j hj
    simp at hj
    rcases hj with hj | rfl
    · obtain ⟨e, he, hr⟩ := h2 j hj
      exact ⟨e, by simp; exact .inl (by simpa using he), hr.mono old⟩
    · exact ⟨_, by simp; exact .inr rfl, rfl, W2.heap.size, W2.heap.size + 1, by omega, by omega, rfl, by rw [hsz, e4 _ (by omega)]; exact n1, by rw [hsz, e4 _ (by omega)]; exact n2⟩
  · have fresh : ∀ e ∈ es.toList, e.key ≠ .string (jX i) := fun e he c => by
      obtain ⟨j, hj, hk, _⟩ := h1 e he
      rw [hk] at c
      exact his (BY (hI.lt j hj) hi (by simpa using c) ▸ hj)
    intro e he e' he' hk
    simp at he he'
    rcases he with he | rfl <;> rcases he' with he' | rfl
    · exact h3 e (by simpa using he) e' (by simpa using he') hk
    · exact absurd hk (fresh e (by simpa using he))
    · exact absurd hk.symm (fresh e' (by simpa using he'))
    · rfl
set_option maxHeartbeats 2000000 in
theorem A4 (w : World) : Calls prog gM #[] w fun e w' => e = .returned (.map (some w.heap.size)) ∧ ∃ seen, RI w w' seen ∧ ∀ i, i < 6 → i ∈ seen := by
  have hmm := @run_makeMap prog
  have hmf : ∀ (fn : Fn) (first cap : Array Value) (w : World), (Instr.makeFunc fn first cap).run prog w = .ok (.func fn first cap) w := fun _ _ _ _ => rfl
  have hrg := A3 ((w.alloc (.map #[] 0)).alloc (.map dB.toArray 6)) (w.heap.size + 1) 6 dB.toArray (by have := aO (w.alloc (.map #[] 0)) (.map dB.toArray 6); simpa using this)
  rw [JP] at hrg
  go_enter Tryz.func48, Tryz.ntmps48
  go_wp2_with (go_at_call 39; refine (xI _).mono ?_; rintro e w' ⟨rfl, rfl⟩)
  go_loopw [7] (fun _ wr => ∃ seen, RI w wr seen) (fun _ wr => match wr.heap[w.heap.size + 2]? with | some (.mapIter _ _ s _) => 6 - s.size | _ => 0)
  case atStart =>
    have hb : ∀ o, Below w.heap.size w (((w.alloc (.map #[] 0)).alloc (.map dB.toArray 6)).alloc o) := fun o => (((Below.refl _ w).alloc (Nat.le_refl _) _).alloc (by simp) _).alloc (by simp; omega) _
    refine ⟨[], ?_, ?_, by simp, by simp, hb _, ⟨#[], 0, ?_, by simp, by simp, by simp⟩⟩
    · have := aO ((w.alloc (.map #[] 0)).alloc (.map dB.toArray 6)) (.mapIter (some (w.heap.size + 1)) 6 #[] 6)
      rw [JP] at this
      exact this
    · rw [bO (by simp)]
      have := aO (w.alloc (.map #[] 0)) (.map dB.toArray 6)
      simpa using this
    · rw [bO (by simp; omega), bO (by simp)]
      exact aO _ _
  case round =>
    obtain ⟨seen, hI⟩ := hrel
    rcases run_next_at (P := prog) wr 0 (w.heap.size + 2) (w.heap.size + 1) 6 6 seen.toArray dB.toArray 6 hI.it hI.src (by intro x hx; rw [qD] at hx; simp at hx; rcases hx with rfl | rfl | rfl | rfl | rfl | rfl <;> decide) (Nat.le_refl _) with ⟨h0, hn⟩ | ⟨e, he, w1, hw1, hn⟩
    · have hnx : ∀ ty, (Instr.next (.pointer (some ⟨w.heap.size + 2, 0, none⟩)) false ty).run prog wr = .ok (.tuple #[.bool false]) wr := fun ty => hn
      go_wp2
      go_ret
      exact ⟨rfl, seen, hI, Ha h0⟩
    · obtain ⟨i, hi, his, rfl⟩ := Iy he
      obtain ⟨W2, hW2⟩ : ∃ W2, setBlock w1 (w.heap.size + 2) (.mapIter (some (w.heap.size + 1)) 6 (seen.toArray.push (kE i).born) 6) = W2 := ⟨_, rfl⟩
      rw [hW2] at hn
      have hnx : ∀ ty, (Instr.next (.pointer (some ⟨w.heap.size + 2, 0, none⟩)) false ty).run prog wr = .ok (.tuple #[.bool true, .int .i64 (i + 1), .agg #[.string (jX i), .int .i64 (kn i), .bool (kt i), .bool (ks i)]]) W2 := fun ty => hn
      have hh1 : w1.heap = wr.heap := by rcases hw1 with rfl | rfl <;> rfl
      have hen : (Instr.entry (.pointer (some ⟨w.heap.size + 2, 0, none⟩))).run prog W2 = .ok (.tuple #[.int .i64 (i + 1), .agg #[.string (jX i), .int .i64 (kn i), .bool (kt i), .bool (ks i)]]) W2 := by
        refine run_entry_at (P := prog) W2 (w.heap.size + 2) (w.heap.size + 1) 6 seen.toArray dB.toArray 6 (kE i) ?_ ?_ ?_ ?_
        · rw [← hW2]; exact ju (by rw [hh1]; exact (Array.getElem?_eq_some_iff.1 hI.it).1)
        · rw [← hW2, dC (by omega), hh1]; exact hI.src
        · rw [qD]
          rcases i with _ | _ | _ | _ | _ | _ | i
          · simp
          · simp
          · simp
          · simp
          · simp
          · simp
          · omega
        · rw [qD]; decide
      obtain ⟨es, cl, hes, h1, h2, h3⟩ := hI.all
      have hstep := hI.step hi his hw1 hW2 hes h1 h2 h3
      have hA : ((W2.alloc (.cells #[.int .i64 (i + 1)] 29)).alloc (.cells #[.string (jX i), .int .i64 (kn i), .bool (kt i), .bool (ks i)] 78)).heap[w.heap.size]? = some (.map es cl) := by
        have L0 := (Array.getElem?_eq_some_iff.1 hes).1
        have hsz : W2.heap.size = wr.heap.size := by rw [← hW2, nN, hh1]
        rw [bO (by simp; omega), bO (by omega), ← hW2, dC (by omega), hh1]; exact hes
      have hmu := fun v => CS _ _ _ _ hA (jX i) v (fun e he => by
        obtain ⟨j, hj, hk, _⟩ := h1 e he
        exact ⟨_, hk, fun c => his (BY (hI.lt j hj) hi c ▸ hj)⟩)
      have hit := hstep.it
      have hir := hI.it
      clear hn
      go_wp2
      go_roundw
      case rel => exact ⟨seen ++ [i], hstep⟩
      case measure =>
        have hlen : seen.length < 6 := by
          have hx : (seen ++ [i]).length ≤ 6 := by
            exact Ek 6 _ hstep.nodup hstep.lt
          simp at hx; omega
        have hit' := hit
        simp only [Fq] at hit'
        rw [hir]
        first | rw [hit'] | skip
        simp
        omega
def tB:List cd:=(List.range 6).map fun i=>.s (jX i)
def zG:List AV:=(List.range 6).map fun (i:Nat)=>.fn (.func ch) [] [.iptr .free (.vs [.int .i64 ((i:Int)+1)]) 1 0 0,.iptr .free (.vs [.str (jX i),.int .i64 (kn i),.bool false (kt i),.bool false (ks i)]) 1 0 0]
theorem Fr{i:Nat}{k:cd}(h:tB[i]? = some k) :i<6∧k=.s (jX i):=by
  simp only [tB,List.getElem?_map,Option.map_eq_some_iff] at h
  obtain ⟨j,h1,rfl⟩:=h
  have hl:=(List.getElem?_eq_some_iff.1 h1).1
  have hi:i<6:=by simpa using hl
  rw [List.getElem?_range hi] at h1
  cases h1
  exact ⟨hi,rfl⟩
theorem Hb{i:Nat}(h:i<6) :tB[i]? = some (.s (jX i)):=by
  simp only [tB,List.getElem?_map,List.getElem?_range h,Option.map_some]
theorem Fs{i:Nat}{v:AV}(h:zG[i]? = some v) :i<6∧v=.fn (.func ch) [] [.iptr .free (.vs [.int .i64 ((i:Int)+1)]) 1 0 0,.iptr .free (.vs [.str (jX i),.int .i64 (kn i),.bool false (kt i),.bool false (ks i)]) 1 0 0]:=by
  simp only [zG,List.getElem?_map,Option.map_eq_some_iff] at h
  obtain ⟨j,h1,rfl⟩:=h
  have hl:=(List.getElem?_eq_some_iff.1 h1).1
  have hi:i<6:=by simpa using hl
  rw [List.getElem?_range hi] at h1
  cases h1
  exact ⟨hi,rfl⟩
theorem cell_of{w:World}{b:Nat}{c:Array Value}{t:TypeId}(h:w.heap[b]? = some (.cells c t (0,0)))(x:Nat) :w.cell? ⟨b,x,none⟩=c[x]?:=by
  simp [World.cell?,h]
theorem Iz{ρ:ae}{w:World}{bl:Nat}{c:Array Value}{t:TypeId}{l:List AV}(ha:ρ.avoid .free bl)(hh:w.heap[bl]? = some (.cells c t (0,0)))(hv:bG ρ w l c.toList)(hk:bA l=true) :
    VR ρ w (.iptr .free (.vs l) 1 0 0) (.pointer (some ⟨bl,0,none⟩)):=by
  have hb:bl<w.heap.size:=(Array.getElem?_eq_some_iff.1 hh).1
  have:=VR.iptr (ρ:=ρ) (w:=w) .free (.vs l) 1 0 0 bl 0 (fun x=>(c[x]?).getD undef) ha hb (fun x v hx=>?_) (fun x v hx=>?_) trivial (fun _=>hk) (cC hk)
  · simpa using this
  · obtain ⟨u,q1,_⟩:=hv.get x v hx
    rw [Nat.zero_add,cell_of hh]
    simp at q1
    rw [q1];rfl
  · obtain ⟨u,q1,q2⟩:=hv.get x v hx
    simp at q1
    rw [q1];exact q2
theorem Ft{ρ:ae}{w w':World}{seen:List Nat}(hI:RI w w' seen)(hall:∀ i,i<6→i∈seen)(ha:∀ bl,w.heap.size≤bl→ρ.avoid .free bl) :VR ρ w' (.gmap tB zG) (.map (some w.heap.size)):=by
  obtain ⟨es,cl,hes,h1,h2,h3⟩:=hI.all
  have pick:∀ i,∃ v,i<6→∃ e∈es.toList,RE w.heap.size w' i e∧e.val=v:=fun i=>by
    by_cases h:i<6
    · obtain ⟨e,he,hr⟩:=h2 i (hall i h)
      exact ⟨e.val,fun _=>⟨e,he,hr,rfl⟩⟩
    · exact ⟨undef,fun q=>absurd q h⟩
  obtain ⟨u,hu⟩:=Classical.axiomOfChoice pick
  refine .gmap _ _ w.heap.size es cl u (ha _ (Nat.le_refl _)) (Array.getElem?_eq_some_iff.1 hes).1 hes (fun e he=>?_) (fun i k hk=>?_) (fun x v hx=>?_) rfl (by decide)
  · obtain ⟨i,hi,hr⟩:=h1 e he
    have h6:=hI.lt i hi
    obtain ⟨e',he',hr',hv⟩:=hu i h6
    refine ⟨i,.s (jX i),Hb h6,hr.1,?_⟩
    rw [←hv,h3 e he e' he' (hr.1.trans hr'.1.symm)]
  · obtain ⟨h6,rfl⟩:=Fr hk
    obtain ⟨e',he',hr',hv⟩:=hu i h6
    exact ⟨e',he',hr'.1,hv⟩
  · obtain ⟨h6,rfl⟩:=Fs hx
    obtain ⟨e',he',⟨_,bn,bk,g1,g2,g3,g4,g5⟩,hv⟩:=hu x h6
    rw [←hv,g3]
    refine .fn _ _ _ _ _ .nil (.cons _ _ _ _ (Iz (ha _ g1) g4 (.cons _ _ _ _ (.int _ _) .nil) rfl) (.cons _ _ _ _ (Iz (ha _ g2) g5 ?_ rfl) .nil))
    exact .cons _ _ _ _ (.str _) (.cons _ _ _ _ (.int _ _) (.cons _ _ _ _ (.bool _ _) (.cons _ _ _ _ (.bool _ _) .nil)))
theorem Hc:am prog gM [] [] ⟨.gmap tB zG,[]⟩:=by
  refine bB ⟨FN gM,by kernel_rfl,by kernel_rfl⟩ fun ρ w us hN hv=>?_
  cases hv
  refine (A4 w).mono ?_
  rintro e w' ⟨rfl,seen,hI,hall⟩
  exact ⟨_,rfl,hI.low,Ft hI hall hN.new⟩
def wq:aH:=⟨gM,fun lent args=>match lent,args with | [],[]=>some [⟨⟨.gmap tB zG,[]⟩,[]⟩] | _,_=>none⟩
theorem CT:aL prog wq:=by
  intro lent args alts a h ha ho
  simp only [wq] at h
  split at h
  · simp only [Option.some.injEq] at h;subst h
    simp only [List.mem_singleton] at ha;subst ha
    exact Hc
  · cases h
end Go.Plb.Seat
namespace Go.Proofs
open Go.Shelf
def wu:Go.Shelf.Ren:=⟨fun | 170=>29 | n=>n,fun | 70=>55 | 3=>3 | 0=>0 | 72=>58 | 37=>56 | 5=>5 | n=>n,fun | n=>n⟩
theorem CU:Go.Proofs.Lays.n170 Tryz.prog wu:={
  mixed:=by kernel_rfl
  f170:=Tryz.func29.trans (congrArg some (by kernel_rfl))
  t0:=Tryz.underlying0
  a0:=Tryz.isAgg0
  z0:=Tryz.sizeOf0
  v0:=Tryz.zeroValue0
  t3:=Tryz.underlying3
  a3:=Tryz.isAgg3
  z3:=Tryz.sizeOf3
  v3:=Tryz.zeroValue3
  t37:=Tryz.underlying56
  a37:=Tryz.isAgg56
  z37:=Tryz.sizeOf56
  v37:=Tryz.zeroValue56
  t70:=Tryz.underlying55
  a70:=Tryz.isAgg55
  z70:=Tryz.sizeOf55
  v70:=Tryz.zeroValue55
  t72:=Tryz.underlying58
  a72:=Tryz.isAgg58
  z72:=Tryz.sizeOf58
  v72:=Tryz.zeroValue58 }
def ot:Go.Shelf.Ren:=⟨fun | 169=>30 | n=>n,fun | 70=>55 | 9=>9 | 0=>0 | 72=>58 | 37=>56 | 127=>98 | 3=>3 | 5=>5 | n=>n,fun | n=>n⟩
theorem CV:Go.Proofs.Lays.n169 Tryz.prog ot:={
  mixed:=by kernel_rfl
  f169:=Tryz.func30.trans (congrArg some (by kernel_rfl))
  t0:=Tryz.underlying0
  a0:=Tryz.isAgg0
  z0:=Tryz.sizeOf0
  v0:=Tryz.zeroValue0
  t3:=Tryz.underlying3
  a3:=Tryz.isAgg3
  z3:=Tryz.sizeOf3
  v3:=Tryz.zeroValue3
  t9:=Tryz.underlying9
  a9:=Tryz.isAgg9
  z9:=Tryz.sizeOf9
  v9:=Tryz.zeroValue9
  t37:=Tryz.underlying56
  a37:=Tryz.isAgg56
  z37:=Tryz.sizeOf56
  v37:=Tryz.zeroValue56
  t70:=Tryz.underlying55
  a70:=Tryz.isAgg55
  z70:=Tryz.sizeOf55
  v70:=Tryz.zeroValue55
  t72:=Tryz.underlying58
  a72:=Tryz.isAgg58
  z72:=Tryz.sizeOf58
  v72:=Tryz.zeroValue58
  t127:=Tryz.underlying98
  a127:=Tryz.isAgg98
  z127:=Tryz.sizeOf98
  v127:=Tryz.zeroValue98 }
theorem pc:Builder.Extra Tryz.prog ot:={
  sizeBuilder:=by kernel_rfl
  liesBuilder:=by kernel_rfl
  t5:=Tryz.underlying5
  a5:=Tryz.isAgg5
  z5:=Tryz.sizeOf5
  v5:=Tryz.zeroValue5
  infoByte:=by kernel_rfl
  cellsByte:=by kernel_rfl
  sizeByte:=by kernel_rfl
  neB5:=by decide }
def ou:Go.Shelf.Ren:=⟨fun | 156=>50 | 165=>65 | 166=>28 | 169=>30 | 240=>55 | 241=>79 | 276=>67 | 277=>93 | n=>n,fun | 31=>44 | 9=>9 | 3=>3 | 4=>4 | 0=>0 | 20=>20 | 72=>58 | 76=>64 | 70=>55 | 37=>56 | 75=>63 | 127=>98 | 164=>114 | 5=>5 | 80=>67 | n=>n,fun | n=>n⟩
theorem pd:Go.Proofs.Lays.n156 Tryz.prog ou:={
  mixed:=by kernel_rfl
  f156:=Tryz.func50.trans (congrArg some (by kernel_rfl))
  f165:=Tryz.func65.trans (congrArg some (by kernel_rfl))
  f166:=Tryz.func28.trans (congrArg some (by kernel_rfl))
  f169:=Tryz.func30.trans (congrArg some (by kernel_rfl))
  f240:=Tryz.func55.trans (congrArg some (by kernel_rfl))
  f241:=Tryz.func79.trans (congrArg some (by kernel_rfl))
  f276:=Tryz.func67.trans (congrArg some (by kernel_rfl))
  f277:=Tryz.func93.trans (congrArg some (by kernel_rfl))
  t0:=Tryz.underlying0
  a0:=Tryz.isAgg0
  z0:=Tryz.sizeOf0
  v0:=Tryz.zeroValue0
  t3:=Tryz.underlying3
  a3:=Tryz.isAgg3
  z3:=Tryz.sizeOf3
  v3:=Tryz.zeroValue3
  t4:=Tryz.underlying4
  a4:=Tryz.isAgg4
  z4:=Tryz.sizeOf4
  v4:=Tryz.zeroValue4
  t9:=Tryz.underlying9
  a9:=Tryz.isAgg9
  z9:=Tryz.sizeOf9
  v9:=Tryz.zeroValue9
  t20:=Tryz.underlying20
  a20:=Tryz.isAgg20
  z20:=Tryz.sizeOf20
  v20:=Tryz.zeroValue20
  t31:=Tryz.underlying44
  a31:=Tryz.isAgg44
  z31:=Tryz.sizeOf44
  v31:=Tryz.zeroValue44
  t37:=Tryz.underlying56
  a37:=Tryz.isAgg56
  z37:=Tryz.sizeOf56
  v37:=Tryz.zeroValue56
  t70:=Tryz.underlying55
  a70:=Tryz.isAgg55
  z70:=Tryz.sizeOf55
  v70:=Tryz.zeroValue55
  t72:=Tryz.underlying58
  a72:=Tryz.isAgg58
  z72:=Tryz.sizeOf58
  v72:=Tryz.zeroValue58
  t75:=Tryz.underlying63
  a75:=Tryz.isAgg63
  z75:=Tryz.sizeOf63
  v75:=Tryz.zeroValue63
  t76:=Tryz.underlying64
  a76:=Tryz.isAgg64
  z76:=Tryz.sizeOf64
  v76:=Tryz.zeroValue64
  t127:=Tryz.underlying98
  a127:=Tryz.isAgg98
  z127:=Tryz.sizeOf98
  v127:=Tryz.zeroValue98
  t164:=Tryz.underlying114
  a164:=Tryz.isAgg114
  z164:=Tryz.sizeOf114
  v164:=Tryz.zeroValue114 }
theorem dZ:Builder.Extra Tryz.prog ou:={
  sizeBuilder:=by kernel_rfl
  liesBuilder:=by kernel_rfl
  t5:=Tryz.underlying5
  a5:=Tryz.isAgg5
  z5:=Tryz.sizeOf5
  v5:=Tryz.zeroValue5
  infoByte:=by kernel_rfl
  cellsByte:=by kernel_rfl
  sizeByte:=by kernel_rfl
  neB5:=by decide }
open Go.RowKit in
theorem Tryz.strings_Join_none (a : Option Addr) (c : Nat) (sep : ByteArray) (w : World) :
    Calls Tryz.prog 50 #[.slice a 0 c, .string sep] w fun e w' => e = .returned (.string ⟨#[]⟩) ∧ w' = w := Any.strings_Join_none pd dZ a c sep w
open Go.RowKit in
theorem Tryz.strings_Join (bk o c : Nat) (xs : List ByteArray) (sep : ByteArray) (w : World) (hcells : ∀ (j : Nat) x, xs[j]? = some x → w.cell? ⟨bk, o + j, none⟩ = some (.string x)) (hbk : bk < w.heap.size) (hN : xs.length ≤ 140737488355328) (hcap : xs.length ≤ c) (hlen : (Lib.join (xs.map (·.data.toList)) sep.data.toList).length ≤ 140737488355328) :
    Calls Tryz.prog 50 #[.slice (some ⟨bk, o, none⟩) xs.length c, .string sep] w fun e w' => e = .returned (.string ⟨(Lib.join (xs.map (·.data.toList)) sep.data.toList).toArray⟩) ∧ Below w.heap.size w w' := Any.strings_Join pd dZ bk o c xs sep w hcells hbk hN hcap hlen
open Go.RowKit in
theorem Tryz.Builder_Len_f (B b : Nat) (bs : List Value) (w : World) (h : Lib.IsBuilderF 58 5 B b bs w) :
    Calls Tryz.prog 29 #[.pointer (some ⟨b, 0, none⟩)] w fun e w' => e = .returned (.int .i64 bs.length) ∧ w' = w := Any.Builder_Len_f CU B b bs w h
def uX:Go.Shelf.Ren:=⟨fun | 171=>43 | 243=>61 | 246=>73 | 283=>86 | 284=>87 | 285=>88 | 286=>89 | 129=>102 | 317=>101 | 318=>103 | 319=>104 | 320=>105 | 337=>109 | 338=>110 | n=>n,fun | 3=>3 | 9=>9 | 2=>2 | 4=>4 | 171=>127 | 0=>0 | 53=>31 | 37=>56 | 5=>5 | 173=>130 | 212=>143 | 51=>133 | 20=>20 | 213=>144 | 46=>108 | 232=>161 | 233=>162 | n=>n,fun | 17=>1 | 18=>6 | 19=>7 | n=>n⟩
theorem A5:Go.Proofs.LaysM.n171 Tryz.prog uX:={
  mixed:=by kernel_rfl
  f129:=Tryz.func102.trans (congrArg some (by kernel_rfl))
  f171:=Tryz.func43.trans (congrArg some (by kernel_rfl))
  f243:=Tryz.func61.trans (congrArg some (by kernel_rfl))
  f246:=Tryz.func73.trans (congrArg some (by kernel_rfl))
  f283:=Tryz.func86.trans (congrArg some (by kernel_rfl))
  f284:=Tryz.func87.trans (congrArg some (by kernel_rfl))
  f285:=Tryz.func88.trans (congrArg some (by kernel_rfl))
  f286:=Tryz.func89.trans (congrArg some (by kernel_rfl))
  f317:=Tryz.func101.trans (congrArg some (by kernel_rfl))
  f318:=Tryz.func103.trans (congrArg some (by kernel_rfl))
  f319:=Tryz.func104.trans (congrArg some (by kernel_rfl))
  f320:=Tryz.func105.trans (congrArg some (by kernel_rfl))
  f337:=Tryz.func109.trans (congrArg some (by kernel_rfl))
  f338:=Tryz.func110.trans (congrArg some (by kernel_rfl))
  t0:=Tryz.underlying0
  a0:=Tryz.isAgg0
  z0:=Tryz.sizeOf0
  v0:=Tryz.zeroValue0
  t2:=Tryz.underlying2
  a2:=Tryz.isAgg2
  z2:=Tryz.sizeOf2
  v2:=Tryz.zeroValue2
  t3:=Tryz.underlying3
  a3:=Tryz.isAgg3
  z3:=Tryz.sizeOf3
  v3:=Tryz.zeroValue3
  t4:=Tryz.underlying4
  a4:=Tryz.isAgg4
  z4:=Tryz.sizeOf4
  v4:=Tryz.zeroValue4
  t5:=Tryz.underlying5
  a5:=Tryz.isAgg5
  z5:=Tryz.sizeOf5
  v5:=Tryz.zeroValue5
  t9:=Tryz.underlying9
  a9:=Tryz.isAgg9
  z9:=Tryz.sizeOf9
  v9:=Tryz.zeroValue9
  t20:=Tryz.underlying20
  a20:=Tryz.isAgg20
  z20:=Tryz.sizeOf20
  v20:=Tryz.zeroValue20
  t37:=Tryz.underlying56
  a37:=Tryz.isAgg56
  z37:=Tryz.sizeOf56
  v37:=Tryz.zeroValue56
  t46:=Tryz.underlying108
  a46:=Tryz.isAgg108
  z46:=Tryz.sizeOf108
  v46:=Tryz.zeroValue108
  t51:=Tryz.underlying133
  a51:=Tryz.isAgg133
  z51:=Tryz.sizeOf133
  v51:=Tryz.zeroValue133
  t53:=Tryz.underlying31
  a53:=Tryz.isAgg31
  z53:=Tryz.sizeOf31
  v53:=Tryz.zeroValue31
  t171:=Tryz.underlying127
  a171:=Tryz.isAgg127
  z171:=Tryz.sizeOf127
  v171:=Tryz.zeroValue127
  t173:=Tryz.underlying130
  a173:=Tryz.isAgg130
  z173:=Tryz.sizeOf130
  v173:=Tryz.zeroValue130
  t212:=Tryz.underlying143
  a212:=Tryz.isAgg143
  z212:=Tryz.sizeOf143
  v212:=Tryz.zeroValue143
  t213:=Tryz.underlying144
  a213:=Tryz.isAgg144
  z213:=Tryz.sizeOf144
  t232:=Tryz.underlying161
  a232:=Tryz.isAgg161
  z232:=Tryz.sizeOf161
  v232:=Tryz.zeroValue161
  t233:=Tryz.underlying162
  a233:=Tryz.isAgg162
  z233:=Tryz.sizeOf162
  v233:=Tryz.zeroValue162
  g17:=by kernel_rfl
  g18:=by kernel_rfl
  g19:=by kernel_rfl
  i0:=by kernel_rfl
  i2:=by kernel_rfl
  i3:=by kernel_rfl
  i4:=by kernel_rfl
  i5:=by kernel_rfl
  i9:=by kernel_rfl
  i20:=by kernel_rfl
  i37:=by kernel_rfl
  i46:=by kernel_rfl
  i51:=by kernel_rfl
  i53:=by kernel_rfl
  i171:=by kernel_rfl
  i173:=by kernel_rfl
  i212:=by kernel_rfl
  i232:=by kernel_rfl
  i233:=by kernel_rfl
  m17:=by kernel_rfl
  m18:=by kernel_rfl
  m19:=by kernel_rfl }
open Go.RowKit Go.Sort Go.Lib in
theorem Tryz.strconv_Itoa (n : Int) (h0 : -9223372036854775808 ≤ n) (h1 : n ≤ 9223372036854775807) (w : World) (htab : Lib.TabIs Tryz.prog w "internal/strconv.uint64pow10" .u64 Lib.pow10Tab) :
    Calls Tryz.prog 43 #[.int .i64 n] w fun e w' => e = .returned (.string ⟨(Lib.itoa n).toArray⟩) ∧ ∃ k os, w' = grow (w.drewN k) os := Any.strconv_Itoa A5 n h0 h1 w htab
def uY:Go.Shelf.Ren:=⟨fun | 172=>69 | 244=>84 | 245=>85 | 247=>96 | 279=>97 | 280=>98 | 281=>99 | 282=>100 | 287=>106 | 316=>107 | 171=>43 | 205=>108 | 321=>111 | 322=>112 | 243=>61 | 246=>73 | 283=>86 | 284=>87 | 285=>88 | 286=>89 | 129=>102 | 317=>101 | 318=>103 | 319=>104 | 320=>105 | 337=>109 | 338=>110 | n=>n,fun | 9=>9 | 3=>3 | 75=>63 | 76=>64 | 4=>4 | 5=>5 | 167=>136 | 37=>56 | 0=>0 | 85=>137 | 2=>2 | 168=>139 | 53=>31 | 175=>150 | 46=>108 | 210=>154 | 127=>98 | 145=>160 | 143=>158 | 21=>21 | 171=>127 | 173=>130 | 212=>143 | 51=>133 | 20=>20 | 213=>144 | 232=>161 | 233=>162 | 80=>67 | n=>n,fun | 15=>4 | 16=>5 | 17=>1 | 18=>6 | 19=>7 | n=>n⟩
theorem nO:Go.Proofs.LaysC.n172 Tryz.prog uY:={
  mixed:=by kernel_rfl
  f129:=Tryz.func102.trans (congrArg some (by kernel_rfl))
  f171:=Tryz.func43.trans (congrArg some (by kernel_rfl))
  f172:=Tryz.func69.trans (congrArg some (by kernel_rfl))
  f205:=Tryz.func108.trans (congrArg some (by kernel_rfl))
  f243:=Tryz.func61.trans (congrArg some (by kernel_rfl))
  f244:=Tryz.func84.trans (congrArg some (by kernel_rfl))
  f245:=Tryz.func85.trans (congrArg some (by kernel_rfl))
  f246:=Tryz.func73.trans (congrArg some (by kernel_rfl))
  f247:=Tryz.func96.trans (congrArg some (by kernel_rfl))
  f279:=Tryz.func97.trans (congrArg some (by kernel_rfl))
  f280:=Tryz.func98.trans (congrArg some (by kernel_rfl))
  f281:=Tryz.func99.trans (congrArg some (by kernel_rfl))
  f282:=Tryz.func100.trans (congrArg some (by kernel_rfl))
  f283:=Tryz.func86.trans (congrArg some (by kernel_rfl))
  f284:=Tryz.func87.trans (congrArg some (by kernel_rfl))
  f285:=Tryz.func88.trans (congrArg some (by kernel_rfl))
  f286:=Tryz.func89.trans (congrArg some (by kernel_rfl))
  f287:=Tryz.func106.trans (congrArg some (by kernel_rfl))
  f316:=Tryz.func107.trans (congrArg some (by kernel_rfl))
  f317:=Tryz.func101.trans (congrArg some (by kernel_rfl))
  f318:=Tryz.func103.trans (congrArg some (by kernel_rfl))
  f319:=Tryz.func104.trans (congrArg some (by kernel_rfl))
  f320:=Tryz.func105.trans (congrArg some (by kernel_rfl))
  f321:=Tryz.func111.trans (congrArg some (by kernel_rfl))
  f322:=Tryz.func112.trans (congrArg some (by kernel_rfl))
  f337:=Tryz.func109.trans (congrArg some (by kernel_rfl))
  f338:=Tryz.func110.trans (congrArg some (by kernel_rfl))
  t0:=Tryz.underlying0
  a0:=Tryz.isAgg0
  z0:=Tryz.sizeOf0
  v0:=Tryz.zeroValue0
  t2:=Tryz.underlying2
  a2:=Tryz.isAgg2
  z2:=Tryz.sizeOf2
  v2:=Tryz.zeroValue2
  t3:=Tryz.underlying3
  a3:=Tryz.isAgg3
  z3:=Tryz.sizeOf3
  v3:=Tryz.zeroValue3
  t4:=Tryz.underlying4
  a4:=Tryz.isAgg4
  z4:=Tryz.sizeOf4
  v4:=Tryz.zeroValue4
  t5:=Tryz.underlying5
  a5:=Tryz.isAgg5
  z5:=Tryz.sizeOf5
  v5:=Tryz.zeroValue5
  t9:=Tryz.underlying9
  a9:=Tryz.isAgg9
  z9:=Tryz.sizeOf9
  v9:=Tryz.zeroValue9
  t20:=Tryz.underlying20
  a20:=Tryz.isAgg20
  z20:=Tryz.sizeOf20
  v20:=Tryz.zeroValue20
  t21:=Tryz.underlying21
  a21:=Tryz.isAgg21
  z21:=Tryz.sizeOf21
  v21:=Tryz.zeroValue21
  t37:=Tryz.underlying56
  a37:=Tryz.isAgg56
  z37:=Tryz.sizeOf56
  v37:=Tryz.zeroValue56
  t46:=Tryz.underlying108
  a46:=Tryz.isAgg108
  z46:=Tryz.sizeOf108
  v46:=Tryz.zeroValue108
  t51:=Tryz.underlying133
  a51:=Tryz.isAgg133
  z51:=Tryz.sizeOf133
  v51:=Tryz.zeroValue133
  t53:=Tryz.underlying31
  a53:=Tryz.isAgg31
  z53:=Tryz.sizeOf31
  v53:=Tryz.zeroValue31
  t75:=Tryz.underlying63
  a75:=Tryz.isAgg63
  z75:=Tryz.sizeOf63
  v75:=Tryz.zeroValue63
  t76:=Tryz.underlying64
  a76:=Tryz.isAgg64
  z76:=Tryz.sizeOf64
  v76:=Tryz.zeroValue64
  t85:=Tryz.underlying137
  a85:=Tryz.isAgg137
  z85:=Tryz.sizeOf137
  v85:=Tryz.zeroValue137
  t127:=Tryz.underlying98
  a127:=Tryz.isAgg98
  z127:=Tryz.sizeOf98
  v127:=Tryz.zeroValue98
  t143:=Tryz.underlying158
  a143:=Tryz.isAgg158
  z143:=Tryz.sizeOf158
  v143:=Tryz.zeroValue158
  t145:=Tryz.underlying160
  a145:=Tryz.isAgg160
  z145:=Tryz.sizeOf160
  v145:=Tryz.zeroValue160
  t167:=Tryz.underlying136
  a167:=Tryz.isAgg136
  z167:=Tryz.sizeOf136
  v167:=Tryz.zeroValue136
  t168:=Tryz.underlying139
  a168:=Tryz.isAgg139
  z168:=Tryz.sizeOf139
  v168:=Tryz.zeroValue139
  t171:=Tryz.underlying127
  a171:=Tryz.isAgg127
  z171:=Tryz.sizeOf127
  v171:=Tryz.zeroValue127
  t173:=Tryz.underlying130
  a173:=Tryz.isAgg130
  z173:=Tryz.sizeOf130
  v173:=Tryz.zeroValue130
  t175:=Tryz.underlying150
  a175:=Tryz.isAgg150
  z175:=Tryz.sizeOf150
  v175:=Tryz.zeroValue150
  t210:=Tryz.underlying154
  a210:=Tryz.isAgg154
  z210:=Tryz.sizeOf154
  v210:=Tryz.zeroValue154
  t212:=Tryz.underlying143
  a212:=Tryz.isAgg143
  z212:=Tryz.sizeOf143
  v212:=Tryz.zeroValue143
  t213:=Tryz.underlying144
  a213:=Tryz.isAgg144
  z213:=Tryz.sizeOf144
  t232:=Tryz.underlying161
  a232:=Tryz.isAgg161
  z232:=Tryz.sizeOf161
  v232:=Tryz.zeroValue161
  t233:=Tryz.underlying162
  a233:=Tryz.isAgg162
  z233:=Tryz.sizeOf162
  v233:=Tryz.zeroValue162
  g15:=by kernel_rfl
  g16:=by kernel_rfl
  g17:=by kernel_rfl
  g18:=by kernel_rfl
  g19:=by kernel_rfl
  t80:=Tryz.underlying67
  a80:=Tryz.isAgg67
  z80:=Tryz.sizeOf67
  v80:=Tryz.zeroValue67
  i0:=by kernel_rfl
  i2:=by kernel_rfl
  i3:=by kernel_rfl
  i4:=by kernel_rfl
  i5:=by kernel_rfl
  i9:=by kernel_rfl
  i20:=by kernel_rfl
  i21:=by kernel_rfl
  i37:=by kernel_rfl
  i46:=by kernel_rfl
  i51:=by kernel_rfl
  i53:=by kernel_rfl
  i75:=by kernel_rfl
  i76:=by kernel_rfl
  i80:=by kernel_rfl
  i85:=by kernel_rfl
  i127:=by kernel_rfl
  i143:=by kernel_rfl
  i145:=by kernel_rfl
  i167:=by kernel_rfl
  i168:=by kernel_rfl
  i171:=by kernel_rfl
  i173:=by kernel_rfl
  i175:=by kernel_rfl
  i210:=by kernel_rfl
  i212:=by kernel_rfl
  i232:=by kernel_rfl
  i233:=by kernel_rfl
  m15:=by kernel_rfl
  m16:=by kernel_rfl
  m17:=by kernel_rfl
  m18:=by kernel_rfl
  m19:=by kernel_rfl
  c0:=by kernel_rfl
  c2:=by kernel_rfl
  c3:=by kernel_rfl
  c4:=by kernel_rfl
  c5:=by kernel_rfl
  c9:=by kernel_rfl
  c20:=by kernel_rfl
  c21:=by kernel_rfl
  c37:=by kernel_rfl
  c46:=by kernel_rfl
  c51:=by kernel_rfl
  c53:=by kernel_rfl
  c75:=by kernel_rfl
  c76:=by kernel_rfl
  c80:=by kernel_rfl
  c85:=by kernel_rfl
  c127:=by kernel_rfl
  c143:=by kernel_rfl
  c145:=by kernel_rfl
  c167:=by kernel_rfl
  c168:=by kernel_rfl
  c171:=by kernel_rfl
  c173:=by kernel_rfl
  c175:=by kernel_rfl
  c210:=by kernel_rfl
  c212:=by kernel_rfl
  c213:=by kernel_rfl
  c232:=by kernel_rfl
  c233:=by kernel_rfl }
open Go.RowKit in
theorem Tryz.strconv_Atoi_ok (s : ByteArray) (hmax : s.size ≤ 9223372036854775806) (v : Int) (h : Lib.atoiAll s.data.toList = .ok v) (w : World) :
    Calls Tryz.prog 69 #[.string s] w fun e w' => e = .returned (.tuple #[.int .i64 v, .nilIface]) ∧ (w' = w ∨ ∃ t, w' = Lib.bytesWorld w 5 t) := Any.strconv_Atoi_ok nO s hmax v h w
open Go.RowKit in
theorem Tryz.strconv_Atoi_syntax (s : ByteArray) (hlim : s.size ≤ 281474976710656) (h : Lib.atoiAll s.data.toList = Lib.atoiAll []) (ev : Value) (w : World) (hv : w.cell? ⟨4, 0, none⟩ = some ev) (hev : ev = .nilIface ∨ ∃ te pe, ev = .iface te pe) :
    Calls Tryz.prog 69 #[.string s] w fun e w' => ∃ N, e = .returned (.tuple #[.int .i64 (0), .iface 139 (.pointer (some ⟨N, 0, none⟩))]) ∧ w.heap.size ≤ N ∧ w'.heap[N]? = some (.cells #[.string ⟨#[65, 116, 111, 105]⟩, .string s, ev] 154 (0, 0)) ∧ Below w.heap.size w w' := Any.strconv_Atoi_syntax nO s hlim h ev w hv hev
open Go.RowKit in
theorem Tryz.strconv_Atoi_range (s : ByteArray) (hlim : s.size ≤ 281474976710656) (h : Lib.atoiAll s.data.toList = .range) (ev : Value) (w : World) (hv : w.cell? ⟨5, 0, none⟩ = some ev) (hev : ev = .nilIface ∨ ∃ te pe, ev = .iface te pe) :
    Calls Tryz.prog 69 #[.string s] w fun e w' => ∃ N, e = .returned (.tuple #[.int .i64 (Lib.atoiSat s.data.toList), .iface 139 (.pointer (some ⟨N, 0, none⟩))]) ∧ w.heap.size ≤ N ∧ w'.heap[N]? = some (.cells #[.string ⟨#[65, 116, 111, 105]⟩, .string s, ev] 154 (0, 0)) ∧ Below w.heap.size w w' := Any.strconv_Atoi_range nO s hlim h ev w hv hev
def ww:Go.Shelf.Ren:=⟨fun | 143=>76 | 219=>68 | 217=>80 | 225=>81 | 224=>82 | 267=>83 | 266=>94 | 314=>95 | n=>n,fun | 9=>9 | 3=>3 | 4=>4 | 5=>5 | 46=>108 | 146=>134 | 51=>133 | n=>n,fun | 1=>0 | n=>n⟩
theorem CW:Go.Proofs.Lays.n143 Tryz.prog ww:={
  mixed:=by kernel_rfl
  f143:=Tryz.func76.trans (congrArg some (by kernel_rfl))
  f217:=Tryz.func80.trans (congrArg some (by kernel_rfl))
  f219:=Tryz.func68.trans (congrArg some (by kernel_rfl))
  f224:=Tryz.func82.trans (congrArg some (by kernel_rfl))
  f225:=Tryz.func81.trans (congrArg some (by kernel_rfl))
  f266:=Tryz.func94.trans (congrArg some (by kernel_rfl))
  f267:=Tryz.func83.trans (congrArg some (by kernel_rfl))
  f314:=Tryz.func95.trans (congrArg some (by kernel_rfl))
  t3:=Tryz.underlying3
  a3:=Tryz.isAgg3
  z3:=Tryz.sizeOf3
  v3:=Tryz.zeroValue3
  t4:=Tryz.underlying4
  a4:=Tryz.isAgg4
  z4:=Tryz.sizeOf4
  v4:=Tryz.zeroValue4
  t5:=Tryz.underlying5
  a5:=Tryz.isAgg5
  z5:=Tryz.sizeOf5
  v5:=Tryz.zeroValue5
  t9:=Tryz.underlying9
  a9:=Tryz.isAgg9
  z9:=Tryz.sizeOf9
  v9:=Tryz.zeroValue9
  t46:=Tryz.underlying108
  a46:=Tryz.isAgg108
  z46:=Tryz.sizeOf108
  v46:=Tryz.zeroValue108
  t51:=Tryz.underlying133
  a51:=Tryz.isAgg133
  z51:=Tryz.sizeOf133
  v51:=Tryz.zeroValue133
  t146:=Tryz.underlying134
  a146:=Tryz.isAgg134
  z146:=Tryz.sizeOf134
  v146:=Tryz.zeroValue134
  g1:=by kernel_rfl }
open Go.RowKit Go.Lib in
theorem Tryz.strings_Index_one (s : ByteArray) (c : UInt8) (w : World) :
    Calls Tryz.prog 76 #[.string s, .string ⟨#[c]⟩] w fun e w' => e = .returned (.int .i64 (Lib.indexByte s.data.toList c)) ∧ w' = w := Any.strings_Index_one CW s c w
end Go.Proofs
