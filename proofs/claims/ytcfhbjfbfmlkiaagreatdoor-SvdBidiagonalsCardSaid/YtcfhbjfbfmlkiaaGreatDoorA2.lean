/-
  Part 2 of what the claim leans on: an evaluator of the model, proved sound; the contracts of the functions.
-/
import Derived.Laws.BytesString
import GoSem.Instr.Lookup
import GoSem.Extern.MathSqrt
import GoSem.Extern.MathFloatBits
import GoSem.Extern.MathBitsCarry
import GoSem.Extern.BytealgIndexByte
import GoSem.Extern.BytealgCount
import Derived.OrdersIn
import Derived.LoopNIn
import Derived.RangeFuncRecord
import Derived.RangeFuncLeaves
import Derived.LoopN
import Derived.Scope
import Derived.RangeFuncIn
import Derived.Laws.Externs
import Derived.WalkKit
import Derived.ProofKit
import Derived.OpenShut
import Derived.Deep.Slices
import Derived.Test.YtcfhbjfbfmlkiaaGreatDoorChecked
import Derived.KernelRfl
import Derived.Test.YtcfhbjfbfmlkiaaGreatDoorA1
namespace Go.Plb
noncomputable section
set_option linter.unusedSimpArgs false
set_option linter.unusedVariables false
set_option linter.unusedSectionVars false
variable [Rom]
def CF(d:aU) :Nat→Nat→Option (List AV)
  | 0,_=>some []
  | n+1,x=>match d.cell? x,CF d n (x+1) with
    | some v,some l=>some (v::l)
    | _,_=>none
theorem Re{d:aU} :∀ {n x:Nat} {l:List AV},CF d n x=some l→l.length=n∧∀ j,j<n→d.cell? (x+j)=l[j]?
  | 0,x,l,h=>by simp only [CF,Option.some.injEq] at h;subst h;exact ⟨rfl,fun j hj=>absurd hj (Nat.not_lt_zero _)⟩
  | n+1,x,l,h=>by
    unfold CF at h
    split at h
    case h_2=>cases h
    rename_i v l' h1 h2
    simp only [Option.some.injEq] at h;subst h
    obtain ⟨a,b⟩:=Re h2
    refine ⟨by simp [a],fun j hj=>?_⟩
    cases j with
    | zero=>simpa using h1
    | succ j =>
      have:=b j (by omega)
      rw [show x+(j+1)=x+1+j by omega,this];simp
def cpL{α:Type}(xs:List α)(i k:Nat)(ys:List α) :List α:=xs.take i++(ys.take k++xs.drop (i+k))
def aqG(blk nb:aU)(w i k:Nat) :Option (aU×List Bool) :=
  match blk,nb with
  | .fl xs,.fl ys=>bif Nat.beq w 1 then some (.fl (cpL xs i k ys),[dK (i+k) xs.length,dK k ys.length]) else none
  | .ns kd xs,.ns kd' ys=>bif Nat.beq w 1&&dk kd kd' then some (.ns kd (cpL xs i k ys),[dK (i+k) xs.length,dK k ys.length]) else none
  | .bs xs,.bs ys=>bif Nat.beq w 1 then some (.bs (cpL xs i k ys),[dK (i+k) xs.length,dK k ys.length]) else none
  | blk,nb=>match CF nb k 0 with
    | some l=>bif kh l then blk.wrN w i l 0 else none
    | none=>none
theorem Uz{α:Type}{d:aU}{f:α→AV}{ys:List α}(hd:∀ x,d.cell? x=(ys[x]?).map f) :∀ {k x:Nat},x+k≤ys.length→CF d k x=some (((ys.drop x).take k).map f)
  | 0,x,h=>by simp [CF]
  | k+1,x,h=>by
    have e1:ys[x]? = some (ys[x]'(by omega)):=List.getElem?_eq_getElem (by omega)
    have e2:=Uz hd (k:=k) (x:=x+1) (by omega)
    unfold CF
    rw [hd,e1,e2]
    simp only [Option.map_some]
    rw [List.drop_eq_getElem_cons (show x<ys.length by omega),List.take_succ_cons,List.map_cons]
theorem akH{α:Type}{g:List α→aU}{f:α→AV}{i:Nat}(hg:∀ xs j z,(g xs).wr 1 i j (f z)=some (g (xs.set (ig j i) z),[eS (ig j i) xs.length])) :
    ∀ {zs xs:List α} {j:Nat},i+j+zs.length≤xs.length→∃ o,(g xs).wrN 1 i (zs.map f) j=some (g (xs.take (i+j)++(zs++xs.drop (i+j+zs.length))),o)∧aQ o
  | [],xs,j,h=>⟨[],by simp [aU.wrN],trivial⟩
  | z::zs,xs,j,h=>by
    rw [List.length_cons] at h
    have ad:ig j i=i+j:=by rw [pj];omega
    obtain ⟨o,h1,h2⟩:=akH hg (zs:=zs) (xs:=xs.set (ig j i) z) (j:=j+1) (by rw [List.length_set];omega)
    refine ⟨eS (ig j i) xs.length::o,?_,by rw [ad];unfold eS;exact decide_eq_true (by omega),h2⟩
    simp only [List.map_cons,aU.wrN,hg,h1,List.singleton_append,Option.some.injEq,Prod.mk.injEq,and_true]
    congr 1
    rw [ad]
    have hp:i+j<xs.length:=by omega
    rw [show i+(j+1)=i+j+1 by omega,show i+j+(z::zs).length=i+j+1+zs.length by rw [List.length_cons];omega]
    generalize i+j=p at hp
    rw [List.drop_set_of_lt (by omega),List.take_succ_eq_append_getElem (by rw [List.length_set];exact hp),List.take_set_of_le (Nat.le_refl p),List.getElem_set_self]
    simp
theorem UA{α:Type}{f:α→AV}(hf:∀ z,(f z).one=true) :∀ (zs:List α),kh (zs.map f)=true
  | []=>rfl
  | z::zs=>by simp only [List.map_cons,kh,hf,UA hf zs,Bool.and_self]
theorem abK{α:Type}{g:List α→aU}{f:α→AV}{i k:Nat}{xs ys:List α}(hg:∀ xs j z,(g xs).wr 1 i j (f z)=some (g (xs.set (ig j i) z),[eS (ig j i) xs.length]))(hd:∀ x,(g ys).cell? x=(ys[x]?).map f)(hf:∀ z,(f z).one=true) 
    (h1:dK (i+k) xs.length=true) (h2:dK k ys.length=true):∃ l o',CF (g ys) k 0=some l∧kh l=true∧(g xs).wrN 1 i l 0=some (g (cpL xs i k ys),o')∧aQ o':=by
  unfold dK at h1 h2
  rw [decide_eq_true_eq] at h1 h2
  have hlen:(ys.take k).length=k:=by rw [List.length_take];omega
  obtain ⟨o,w1,w2⟩:=akH hg (zs:=ys.take k) (xs:=xs) (j:=0) (by rw [hlen];omega)
  refine ⟨_,o,Uz hd (by omega),UA hf _,?_,w2⟩
  rw [List.drop_zero,w1,hlen];rfl
theorem alM{blk nb blk':aU}{w i k:Nat}{o:List Bool}(h:aqG blk nb w i k=some (blk',o))(ho:aQ o) :∃ l o',CF nb k 0=some l∧kh l=true∧blk.wrN w i l 0=some (blk',o')∧aQ o':=by
  unfold aqG at h
  split at h
  · cases e:Nat.beq w 1 with
    | false=>rw [e] at h;cases h
    | true =>
      rw [e] at h;cases h
      cases Nat.eq_of_beq_eq_true e
      exact abK (g:=.fl) (f:=.flt false) (fun _ _ _=>rfl) (fun _=>rfl) (fun _=>rfl) ho.1 ho.2.1
  · rename_i kd xs kd' ys
    cases e:Nat.beq w 1&&dk kd kd' with
    | false=>rw [e] at h;cases h
    | true =>
      rw [e] at h;cases h
      rw [Bool.and_eq_true] at e
      cases Nat.eq_of_beq_eq_true e.1
      have e2:kd=kd':=by have:=e.2;simpa [dk] using this
      cases e2
      exact abK (g:=.ns kd) (f:=.int kd) (fun xs j z=>by simp [aU.wr,dk]) (fun _=>rfl) (fun _=>rfl) ho.1 ho.2.1
  · cases e:Nat.beq w 1 with
    | false=>rw [e] at h;cases h
    | true =>
      rw [e] at h;cases h
      cases Nat.eq_of_beq_eq_true e
      exact abK (g:=.bs) (f:=.bool false) (fun _ _ _=>rfl) (fun _=>rfl) (fun _=>rfl) ho.1 ho.2.1
  · split at h
    case h_2=>cases h
    rename_i l hl
    cases e:kh l with
    | false=>rw [e] at h;cases h
    | true=>rw [e] at h;exact ⟨l,o,hl,e,h,ho⟩
def aad(P:Program)(g:Nat→Option aU)(t:TypeId)(d x:AV) :Option (Nat×Nat×aU×List Bool×List Nat) :=
  match P.underlying t,d with
  | some (.slice e),.sl b w es i len _ =>
    match P.info? e,g b,aed g x with
    | some inf,some blk,some (m,es',nb,obs,rs) =>
      bif Nat.beq inf.size 1&&Nat.beq es' 1 then (aqG blk nb w i (Nat.min m len)).map fun r=>(Nat.min m len,b,r.1,obs++r.2,b::rs) else none
    | _,_,_=>none
  | _,_=>none
theorem HR.same{ρ:aC}{w:World}{h:cD}{n b:Nat}{d:aU}(hh:HR ρ w h n)(hg:bD h b=some d) :HR ρ w (il h b d) n:=by
  have e:∀ c,bD (il h b d) c=bD h c:=by
    intro c;rw [dx];split
    · rename_i q;subst q;exact hg.symm
    · rfl
  exact ⟨fun c e' he=>hh.cell c e' (by rw [←e];exact he),fun a c d e' h1 h2=>hh.inj a c d e' (by rw [←e];exact h1) (by rw [←e];exact h2),hh.fresh,hh.liveLt,hh.outLt,hh.lt,hh.rom⟩
theorem aej{P:Program}{ρ:aC}{w:World}{h:cD}{n:Nat}(hh:HR ρ w h n){t t' T:TypeId}{d x:AV}{d' x':Value}(hd:VR ρ w d d')(hx:VR ρ w x x'){k b:Nat}{blk:aU}{obs:List Bool}{rs:List Nat} 
    (hc:aad P (bD h) t d x=some (k,b,blk,obs,rs)) (ho:aQ obs):∃ w',(Builtin.copy_ #[t,t'] T #[d',x']).run P w=.ok (.int .i64 (k:Int)) w'∧HR ρ w' (il h b blk) n∧ki ρ.live w w':=by
  unfold aad at hc
  split at hc
  case h_2=>cases hc
  rename_i e b' kk es i len cap ht
  split at hc
  case h_2=>cases hc
  rename_i inf blk0 m es' nb obs' rs' hi hg hsrc
  cases h1:Nat.beq inf.size 1&&Nat.beq es' 1 with
  | false=>rw [h1] at hc;cases hc
  | true =>
  rw [h1] at hc
  simp only [Bool.and_eq_true] at h1
  have hsz:=Nat.eq_of_beq_eq_true h1.1
  have hes:=Nat.eq_of_beq_eq_true h1.2
  subst hes
  simp only [cond_true,Option.map_eq_some_iff,Prod.mk.injEq] at hc
  obtain ⟨⟨blk',o'0⟩,hc2,rfl,rfl,rfl,rfl,rfl⟩:=hc
  rw [bI] at ho
  obtain ⟨l,o',hl,h2,hw,ho2⟩:=alM hc2 ho.2
  replace ho:aQ obs'∧aQ o':=⟨ho.1,ho2⟩
  have hS:=Uu hh hx hsrc ho.1
  obtain ⟨l1,l2⟩:=Re hl
  obtain ⟨a,c,rfl,hv⟩:=hS.val
  have hsize:P.cellsOf e=1:=by simp [Program.cellsOf,hi,hsz]
  by_cases hn0:Nat.min m len=0
  · have el:l=[]:=List.length_eq_zero_iff.1 (by rw [l1,hn0])
    subst el
    simp only [aU.wrN,Option.some.injEq,Prod.mk.injEq] at hw
    obtain ⟨rfl,rfl⟩:=hw
    refine ⟨w,?_,hh.same hg,ki.refl _ _⟩
    rw [hn0]
    cases hd with
    | sl _ _ _ _ _ _ cap' hb hcap hle c' t' hhh hss =>
      have hn0':min m len=0:=hn0
      cases a<;>simp [Builtin.copy_,run_underlying ht,sizeOf,typeInfo,hi,Builtin.lenOf,Builtin.firstCells,storeCells,loadCells,loadCellsFrom,hn0',goInt]<;>rfl
    | slEnd _ _ _ _ a' =>
      cases a<;>cases a'<;>simp [Builtin.copy_,run_underlying ht,sizeOf,typeInfo,hi,Builtin.lenOf,Builtin.firstCells,storeCells,loadCells,loadCellsFrom,goInt]<;>rfl
  · have hmn : ¬ m=0:=fun q=>hn0 (by subst q;exact Nat.zero_min _)
    rcases hv with q | ⟨bl,o,rfl,news,hnl,hnews,hone,hrel⟩
    · exact absurd q hmn
    have hle:Nat.min m len≤news.length:=by rw [hnl,Nat.mul_one];exact Nat.min_le_left _ _
    have hvs:dC ρ w l (news.take (Nat.min m len)):=by
      have key:∀ (l:List AV) (us:List Value),l.length=us.length→(∀ (j:Nat) (v:AV) (u:Value),l[j]? = some v→us[j]? = some u→VR ρ w v u)→dC ρ w l us:=by
        intro l
        induction l with
        | nil=>intro us h1 _;have:us=[]:=List.length_eq_zero_iff.1 h1.symm;subst this;exact .nil
        | cons v l ih =>
          intro us h1 h2
          cases us with
          | nil=>simp at h1
          | cons u us=>exact .cons _ _ _ _ (h2 0 v u rfl rfl) (ih us (by simpa using h1) fun j v' u' q1 q2=>h2 (j+1) v' u' (by simpa using q1) (by simpa using q2))
      refine key _ _ (by rw [l1,List.length_take];omega) fun j v u q1 q2=>?_
      have hj:j<Nat.min m len:=by
        rcases Nat.lt_or_ge j (Nat.min m len) with z | z
        · exact z
        · rw [List.getElem?_eq_none (by omega)] at q1;cases q1
      have:=l2 j hj
      rw [Nat.zero_add,q1] at this
      obtain ⟨u',r1,r2⟩:=hrel j v this
      rw [List.getElem?_take,if_pos hj,r1] at q2
      cases q2
      exact r2
    cases hd with
    | slEnd=>exact absurd (Nat.min_zero m) hn0
    | sl _ _ _ _ _ _ cap' hb hcap hle' c' t'' hhh hss =>
      obtain ⟨w',r1,r2,r3⟩:=Aw (P:=P) (x0:=0) (j:=0) hh hg hvs h2 hw ho.2
      refine ⟨w',?_,r2,r3⟩
      have hf:=run_firstCells_some (P:=P) w 1 (Nat.min m len) ⟨bl,o,none⟩ m c (news.take (Nat.min m len)) (by rw [List.length_take];omega) (fun j v hj=>by
        rw [List.getElem?_take] at hj
        split at hj
        · exact hnews j v hj
        · cases hj)
      simp only [Nat.add_zero] at r1
      have hf':(Builtin.firstCells 1 (min m len) (.slice (some ⟨bl,o,none⟩) m c)).run P w=.ok (news.take (min m len)).toArray w:=hf
      have r1':(storeCells ⟨ρ.at_ b',i*kk,none⟩ (news.take (min m len)) 0).run P w=.ok () w':=r1
      have hm:((Nat.min m len:Nat):Int)=((min m len:Nat):Int):=rfl
      simp [Builtin.copy_,run_underlying ht,sizeOf,typeInfo,hi,hsz,Builtin.lenOf,hf',r1',goInt,hm]
def anj:AV→Bool
  | .nsl | .esl | .zsl _=>true
  | _=>false
theorem ank{ρ:aC}{w:World}{x:AV}{u:Value}(h:VR ρ w x u)(hv:anj x=true) :∃ a c,u=.slice a 0 c:=by
  cases h<;>first | exact ⟨_,_,rfl⟩ | cases hv
def aae(P:Program)(g:Nat→Option aU)(t:TypeId)(d x:AV) :Option (Nat×Nat×aU×List Bool×List Nat) :=
  match anj x with
  | false=>aad P g t d x
  | true=>match P.underlying t,d with
    | some (.slice e),.sl b _ _ _ _ _=>match P.info? e,g b with
      | some _,some blk=>some (0,b,blk,[],[b])
      | _,_=>none
    | _,_=>none
theorem aek{P:Program}{ρ:aC}{w:World}{h:cD}{n:Nat}(hh:HR ρ w h n){t t' T:TypeId}{d x:AV}{d' x':Value}(hd:VR ρ w d d')(hx:VR ρ w x x'){k b:Nat}{blk:aU}{obs:List Bool}{rs:List Nat} 
    (hc:aae P (bD h) t d x=some (k,b,blk,obs,rs)) (ho:aQ obs):∃ w',(Builtin.copy_ #[t,t'] T #[d',x']).run P w=.ok (.int .i64 (k:Int)) w'∧HR ρ w' (il h b blk) n∧ki ρ.live w w':=by
  unfold aae at hc
  split at hc
  · exact aej hh hd hx hc ho
  · rename_i hvx
    obtain ⟨a,c,rfl⟩:=ank hx hvx
    split at hc
    case h_2=>cases hc
    rename_i e b' kk es i len cap ht
    split at hc
    case h_2=>cases hc
    rename_i inf blk0 hi hg
    simp only [Option.some.injEq,Prod.mk.injEq] at hc
    obtain ⟨rfl,rfl,rfl,rfl,rfl⟩:=hc
    refine ⟨w,?_,hh.same hg,ki.refl _ _⟩
    cases hd with
    | sl _ _ _ _ _ _ cap' hb hcap hle c' t' hhh hss =>
      cases a<;>simp [Builtin.copy_,run_underlying ht,sizeOf,typeInfo,hi,Builtin.lenOf,Builtin.firstCells,storeCells,loadCells,loadCellsFrom,goInt]<;>rfl
    | slEnd _ _ _ _ a' =>
      cases a<;>cases a'<;>simp [Builtin.copy_,run_underlying ht,sizeOf,typeInfo,hi,Builtin.lenOf,Builtin.firstCells,storeCells,loadCells,loadCellsFrom,goInt]<;>rfl
def arr(l:List Int) :ByteArray:=l.foldl (fun r n=>r.push (UInt8.ofNat n.toNat)) ByteArray.empty
def alN(P:Program)(g:Nat→Option aU)(s d:TypeId)(x:AV) :Option (ByteArray×List Bool×List Nat) :=
  match P.underlying s,P.underlying d with
  | some (.slice e),some .string =>
    match P.underlying e,aed g x with
    | some (.int .u8),some (m,es,.ns k ys,obs,rs)=>bif Nat.beq es 1&&dk k .u8 then some (arr ys,obs,rs) else none
    | _,_=>none
  | _,_=>none
theorem ah4{P:Program}{ρ:aC}{w:World}{h:cD}{n:Nat}(hh:HR ρ w h n){s d:TypeId}{x:AV}{x':Value}(hx:VR ρ w x x'){t:ByteArray}{obs:List Bool}{rs:List Nat} 
    (hc:alN P (bD h) s d x=some (t,obs,rs)) (ho:aQ obs):(convert s d x').run P w=.ok (.string t) w:=by
  unfold alN at hc
  split at hc
  case h_2=>cases hc
  rename_i e hs hd
  split at hc
  case h_2=>cases hc
  rename_i m es k ys obs' rs' he hsrc
  cases h1:Nat.beq es 1&&dk k .u8 with
  | false=>rw [h1] at hc;cases hc
  | true =>
  rw [h1] at hc
  simp only [Bool.and_eq_true] at h1
  have hes:=Nat.eq_of_beq_eq_true h1.1
  have hk:k=.u8:=by simpa [dk] using h1.2
  subst hes hk
  simp only [cond_true,Option.some.injEq,Prod.mk.injEq] at hc
  obtain ⟨rfl,rfl,rfl⟩:=hc
  have hS:=Uu hh hx hsrc ho
  obtain ⟨a,c,rfl,hv⟩:=hS.val
  have hlen:ys.length=m:=by
    have:=hS.count
    rw [Nat.mul_one] at this
    exact this
  rw [run_convert_bytes_string w s d e a m c hs he hd]
  rcases hv with h0 | ⟨bl,o,rfl,news,hnl,hnews,hone,hrel⟩
  · subst h0
    have hy:ys=[]:=List.length_eq_zero_iff.1 hlen
    subst hy
    cases a with
    | none=>rfl
    | some a=>exact run_bytesToString w a 0 c [] (by simp [loadCells,loadCellsFrom])
  · have hnews':news=ys.map (Value.int .u8):=by
      refine List.ext_getElem? fun j=>?_
      rw [List.getElem?_map]
      cases hj:ys[j]? with
      | none =>
        rw [List.getElem?_eq_none_iff] at hj
        rw [List.getElem?_eq_none (by omega)];rfl
      | some z =>
        obtain ⟨u,q1,q2⟩:=hrel j (.int .u8 z) (by show (ys[j]?).map _=_;rw [hj];rfl)
        rw [q1]
        cases q2
        rfl
    subst hnews'
    refine run_bytesToString w ⟨bl,o,none⟩ m c ys ?_
    have hf:=run_firstCells_some (P:=P) w 1 m ⟨bl,o,none⟩ m c (ys.map (Value.int .u8)) (by rw [hnl]) hnews
    simpa [Builtin.firstCells] using hf
def OU(P:Program)(g:Nat→Option aU)(t:TypeId)(x:AV)(lo hi:Option AV) :Option (AV×List Bool×List Nat) :=
  match P.underlying t,x with
  | some (.array n e),.ptr b 1 0 0 =>
    match g b,P.info? e,OL hi n,OL lo 0 with
    | some (.ns k xs),some ie,some h,some l =>
      bif Nat.beq ie.size 1 then some (.sl b 1 1 l.toNat (h.toNat-l.toNat) (n-l.toNat),[CC h n,CC l h.toNat,dK n xs.length],[b]) else none
    | _,_,_,_=>none
  | _,_=>none
theorem abL{P:Program}{ρ:aC}{w:World}{hp:cD}{m:Nat}(hh:HR ρ w hp m){e:Operand→AV}{g:Operand→Value}(hops:∀ x,VR ρ w (e x) (g x)){t:TypeId}{x:AV}{x':Value}{lo hi:Option Operand}{v:AV}{obs:List Bool}{rs:List Nat} 
    (hx:VR ρ w x x') (h:OU P (bD hp) t x (lo.map e) (hi.map e)=some (v,obs,rs)) (ho:aQ obs):lF P ρ w (Instr.sliceAt t x' (lo.map g) (hi.map g) none) v:=by
  unfold OU at h
  split at h
  case h_2=>cases h
  rename_i n el b hu
  split at h
  case h_2=>cases h
  rename_i k xs ie hh' ll hg hi' e1 e2
  cases hb1:Nat.beq ie.size 1 with
  | false=>rw [hb1] at h;cases h
  | true =>
  rw [hb1] at h
  simp only [cond_true,Option.some.injEq,Prod.mk.injEq] at h
  obtain ⟨rfl,rfl,rfl⟩:=h
  have hsz:ie.size=1:=Nat.eq_of_beq_eq_true hb1
  have b1:=kK ho.1
  have b2:=kK ho.2.1
  have b3:n≤xs.length:=by have:=ho.2.2.1;unfold dK at this;exact of_decide_eq_true this
  have hce:P.cellsOf el=1:=by simp [Program.cellsOf,hi',hsz]
  cases hx with
  | ptr _ _ _ _ hbo =>
  obtain ⟨hl,hr,c,ty,hc,hcv⟩:=hh.real hg hbo
  have hn:n≤c.size:=by
    rcases Nat.eq_zero_or_pos n with z | z
    · omega
    · have hlt:n-1<xs.length:=by omega
      obtain ⟨u,q,_⟩:=hcv (n-1) (.int k (xs[n-1]'hlt)) (by show (xs[n-1]?).map _=_;rw [List.getElem?_eq_getElem hlt];rfl)
      have:=(Array.getElem?_eq_some_iff.1 q).1
      omega
  have run:=mM (P:=P) (w:=w) false n n (lo.map g) (hi.map g) ll hh' (qk hops e2) (qk hops e1) b1 ⟨b2.1,by omega⟩
  have run2:(Instr.sliceAt t (.pointer (some ⟨ρ.at_ b,0*1+0,none⟩)) (lo.map g) (hi.map g) none).run P w=.ok (.slice (some (if n=ll.toNat then ⟨ρ.at_ b,0*1+0,none⟩ else (Addr.add ⟨ρ.at_ b,0*1+0,none⟩ (ll.toNat*P.cellsOf el)))) (hh'.toNat-ll.toNat) (n-ll.toNat)) w:=by
    simp only [Instr.sliceAt,Sem.run_bind,run_underlying hu,Result.andThen]
    simp [Instr.sureAddr,run,run_sizeOf w hi',hce,hsz,Sem.run_bind,Result.andThen,Sem.run_pure,Go.asAddr]
  refine .plain run2 ?_
  by_cases q:n=ll.toNat
  · rw [if_pos q]
    have z1:hh'.toNat-ll.toNat=0:=by omega
    have z2:n-ll.toNat=0:=by omega
    rw [z1,z2]
    exact .slEnd _ _ _ _ _
  · rw [if_neg q,oz,hce]
    have:0*1+0+ll.toNat*1=ll.toNat*1:=by omega
    rw [this]
    exact .sl _ _ _ _ _ _ _ hbo (Nat.le_refl _) (by omega) c ty hc (by omega)
theorem abM{P:Program}{g g':Nat→Option aU}{t:TypeId}{x:AV}{lo hi:Option AV}{r:AV×List Bool×List Nat}(h:OU P g t x lo hi=some r)(hg:∀ b∈r.2.2,g' b=g b) :OU P g' t x lo hi=some r:=by
  unfold OU at h ⊢
  split at h
  case h_2=>cases h
  rename_i n el b hu
  split at h
  case h_2=>cases h
  rename_i k xs ie hh' ll hgb hi' e1 e2
  cases hb1:Nat.beq ie.size 1 with
  | false=>rw [hb1] at h;cases h
  | true =>
  rw [hb1] at h
  simp only [cond_true,Option.some.injEq] at h
  subst h
  have:g' b=some (.ns k xs):=by rw [hg b (by simp)];exact hgb
  simp only [this,hi',e1,e2,hb1,cond_true]
def ef.like:ef→ef→Bool
  | .i k _,.i k' _=>dk k k'
  | .s _,.s _=>true
  | .p k _ _,.p k' _ _=>dk k k'
  | _,_=>false
def ef.same:ef→ef→Bool
  | .i _ n,.i _ m=>n==m
  | .s a,.s b=>decide (a=b)
  | .p _ x y,.p _ x' y'=>x==x'&&y==y'
  | _,_=>false
def ef.fits:TypeDesc→ef→Bool
  | .int _,.i ..=>true
  | .string,.s _=>true
  | _,_=>false
def MB(k:ef) :List ef→Bool
  | []=>true
  | q::l=>k.like q&&MB k l
def UB:List ef→Bool
  | []=>true
  | q::l=>(l.all fun r=>!q.same r)&&UB l
def aqH:AV→Option ef
  | .int k n=>some (.i k n)
  | .str s=>some (.s s)
  | .agg [.int k x,.int k' y]=>bif dk k k' then some (.p k x y) else none
  | _=>none
def UC(P:Program)(kt:TypeId) :ef→Bool
  | .p k _ _=>match P.underlying kt with
    | some (.array 2 et)=>match P.underlying et,(P.info? et).map (·.size) with
      | some (.int _),some 1=>true
      | _,_=>false
    | _=>false
  | _=>false
def anl:Value→AV
  | .agg c=>.agg (c.toList.map ik)
  | v=>ik v
def okV(cok:Bool)(v:AV)(b:Bool) :AV:=bif cok then .tup [v,.bool true b] else v
def MC(cok:Bool)(k:ef) :List ef→List AV→List zE
  | q::ks,v::vs=>⟨okV cok v true,[],[k.same q]⟩::MC cok k ks vs
  | _,_=>[]
def abN(P:Program)(t:TypeId)(x k:AV)(cok:Bool) :List zE :=
  match P.underlying t,x,aqH k with
  | some (.map kt et),.gmap ks vs,some key =>
    match P.underlying kt,(P.info? et).bind (·.zero) with
    | some d,some z=>bif (key.fits d||UC P kt key)&&MB key ks&&UB ks then MC cok key ks vs++[⟨okV cok (anl z) false,[],ks.map fun q=>!key.same q⟩] else []
    | _,_=>[]
  | _,_,_=>[]
theorem UD{P:Program}{w:World}{t:TypeId}{n:Nat}(h:(P.info? t).map (·.size)=some n) :(sizeOf t).run P w=.ok n w:=by
  obtain ⟨i,h1,h2⟩:=Option.map_eq_some_iff.1 h
  subst h2
  simp [sizeOf,typeInfo,Sem.run_bind,h1]
theorem MD{P:Program}{w:World}{et:TypeId}{k:IntKind}(he:P.underlying et=some (.int k)){cs:Array Value}{off:Nat}{v:Value}(hc:cs[off]? = some v) :(part et cs off).run P w=.ok v w:=by
  unfold part
  simp [isAgg,Sem.run_bind,run_underlying he,hc]
theorem apb{P:Program}{w:World}{kt et:TypeId}{k:IntKind}(hu:P.underlying kt=some (.array 2 et))(he:P.underlying et=some (.int k))(hs:(P.info? et).map (·.size)=some 1)(j:IntKind)(x y x' y':Int)(n:Nat) :
    (Op.equalIn (n+2) kt (.agg #[.int j x,.int j y]) (.agg #[.int j x',.int j y'])).run P w=.ok (x==x'&&y==y') w:=by
  unfold Op.equalIn
  rw [Sem.run_bind,run_underlying hu]
  simp only [Result.andThen_ok,Sem.run_bind,UD hs]
  have e1:∀ a b,(Op.equalIn (n+1) et (.int j a) (.int j b)).run P w=.ok (a==b) w:=fun a b=>by
    unfold Op.equalIn
    rw [Sem.run_bind,run_underlying he]
    simp
  have p0:∀ a b:Int,(part et #[.int j a,.int j b] 0).run P w=.ok (.int j a) w:=fun a b=>MD he rfl
  have p1:∀ a b:Int,(part et #[.int j a,.int j b] 1).run P w=.ok (.int j b) w:=fun a b=>MD he rfl
  simp [Std.Legacy.Range.forIn_eq_forIn_range',Std.Legacy.Range.size,List.range',Sem.run_bind,p0,p1,e1]
  cases h1:(x==x')<;>cases h2:(y==y')<;>simp_all [Sem.run_bind,p0,p1,e1]
theorem UE{P:Program}{w:World}{kt et:TypeId}{k:IntKind}(hu:P.underlying kt=some (.array 2 et))(he:P.underlying et=some (.int k))(hs:(P.info? et).map (·.size)=some 1)(j:IntKind)(x y:Int)(b:Bool)(n:Nat) :
    (Instr.checkKey b (n+2) kt (.agg #[.int j x,.int j y])).run P w=.ok () w:=by
  unfold Instr.checkKey
  rw [Sem.run_bind,run_underlying hu]
  have p0:∀ a b:Int,(part et #[.int j a,.int j b] 0).run P w=.ok (.int j a) w:=fun a b=>MD he rfl
  have p1:∀ a b:Int,(part et #[.int j a,.int j b] 1).run P w=.ok (.int j b) w:=fun a b=>MD he rfl
  have c1:∀ a,(Instr.checkKey b (n+1) et (.int j a)).run P w=.ok () w:=fun a=>by
    unfold Instr.checkKey
    rw [Sem.run_bind,run_underlying he]
    rfl
  simp [Std.Legacy.Range.forIn_eq_forIn_range',Std.Legacy.Range.size,List.range',Sem.run_bind,UD hs,p0,p1,c1]
theorem aaf{P:Program}{kt:TypeId}{key:ef}(h:UC P kt key=true) :∃ k x y et k',key=.p k x y∧P.underlying kt=some (.array 2 et)∧P.underlying et=some (.int k')∧(P.info? et).map (·.size)=some 1:=by
  unfold UC at h
  split at h
  case h_2=>cases h
  rename_i k x y
  split at h
  case h_2=>cases h
  rename_i et hu
  split at h
  case h_2=>cases h
  rename_i k' he hs
  exact ⟨k,x,y,et,k',rfl,hu,he,hs⟩
theorem sh{k:ef} :∀ {l:List ef},MB k l=true→∀ q∈l,k.like q=true
  | [],_,q,h=>by cases h
  | r::l,h,q,hq=>by
    simp only [MB,Bool.and_eq_true] at h
    rcases List.mem_cons.1 hq with rfl | hq
    · exact h.1
    · exact sh h.2 q hq
theorem ael(ρ:aC)(w:World)(v:Value) :VR ρ w (anl v) v:=by
  unfold anl
  split
  · exact .agg _ _ (EG ρ w _)
  · exact vw ρ w v
theorem anm{ρ:aC}{w:World}{k:AV}{k':Value}{key:ef}(h:VR ρ w k k')(hk:aqH k=some key) :k'=key.val:=by
  unfold aqH at hk
  split at hk
  · cases hk;cases h;rfl
  · cases hk;cases h;rfl
  · rename_i k x k' y
    cases hs:dk k k' with
    | false=>rw [hs] at hk;cases hk
    | true =>
      rw [hs] at hk
      have hkk:k=k':=by simpa [dk] using hs
      subst hkk
      cases hk
      cases h with | agg _ c h =>
      obtain ⟨c⟩:=c
      cases h with | cons _ _ _ _ h1 h2 =>
      cases h2 with | cons _ _ _ _ h2 h3 =>
      cases h3;cases h1;cases h2;rfl
  · cases hk
theorem DQ{k q:ef}(h:k.like q=true) :k.same q=true↔q.val=k.val:=by
  cases k with
  | i k n =>
    cases q with
    | i k' m =>
      have:k=k':=by simpa [ef.like,dk] using h
      subst this
      simp only [ef.same,ef.val,beq_iff_eq,Value.int.injEq,true_and]
      exact ⟨fun e=>e.symm,fun e=>e.symm⟩
    | s b=>cases h
    | p=>cases h
  | p k x y =>
    cases q with
    | p k' x' y' =>
      have:k=k':=by simpa [ef.like,dk] using h
      subst this
      simp only [ef.same,ef.val,Bool.and_eq_true,beq_iff_eq]
      exact ⟨fun ⟨h1,h2⟩=>by rw [h1,h2],fun h=>by simp at h;exact ⟨h.1.symm,h.2.symm⟩⟩
    | i=>cases h
    | s=>cases h
  | s a =>
    cases q with
    | i k' m=>cases h
    | p=>cases h
    | s b =>
      simp only [ef.same,ef.val,decide_eq_true_eq,Value.string.injEq]
      exact ⟨fun e=>e.symm,fun e=>e.symm⟩
theorem aqI(a b:ByteArray) :(a==b)=decide (a=b):=by
  have e:(a==b)=(a.data==b.data):=rfl
  rw [e]
  by_cases h:a=b
  · subst h;simp
  · rw [decide_eq_false h]
    have:a.data≠b.data:=fun c=>h (by cases a;cases b;simp at c;subst c;rfl)
    simpa using this
theorem apc{d:TypeDesc}{k q:ef}(hf:k.fits d=true)(h:k.like q=true) :Instr.sameNow d k.val q.val=some (k.same q):=by
  cases k with
  | i k n =>
    cases q with
    | i k' m =>
      have:k=k':=by simpa [ef.like,dk] using h
      subst this
      cases d<;>first | (cases hf;done) | simp [ef.val,Instr.sameNow,ef.same]
    | s b=>cases h
    | p=>cases h
  | p k x y=>cases d<;>cases hf
  | s a =>
    cases q with
    | i k' m=>cases h
    | p=>cases h
    | s b =>
      cases d<;>first | (cases hf;done) | (simp only [ef.val,Instr.sameNow,ef.same,aqI])
theorem ME{d:TypeDesc}{key:ef}(hf:key.fits d=true) :∀ (es:List MapEntry) (i:Nat),(∀ e∈es,∃ q:ef,key.like q=true∧e.key=q.val) →
    (Instr.findNow d key.val es i=some none∧∀ e∈es,e.key≠key.val)∨∃ j e,e∈es∧e.key=key.val∧Instr.findNow d key.val es i=some (some (j,e.val))
  | [],i,_=>.inl ⟨rfl,fun e h=>by cases h⟩
  | e::es,i,h=>by
    obtain ⟨q,hq,he⟩:=h e (by simp)
    have hn:Instr.sameNow d key.val e.key=some (key.same q):=by rw [he];exact apc hf hq
    cases hs:key.same q with
    | true =>
      refine .inr ⟨i,e,by simp,by rw [he];exact (DQ hq).1 hs,?_⟩
      simp only [Instr.findNow,hn,hs]
    | false =>
      have hne:e.key≠key.val:=by rw [he];intro c;rw [(DQ hq).2 c] at hs;cases hs
      rcases ME hf es (i+1) (fun e he=>h e (by simp [he])) with ⟨q1,q2⟩ | ⟨j,e',q1,q2,q3⟩
      · refine .inl ⟨by simp only [Instr.findNow,hn,hs];exact q1,fun e' he'=>?_⟩
        rcases List.mem_cons.1 he' with rfl | he'
        · exact hne
        · exact q2 e' he'
      · exact .inr ⟨j,e',by simp [q1],q2,by simp only [Instr.findNow,hn,hs];exact q3⟩
theorem MF{P:Program}{w:World}{kt et:TypeId}{k':IntKind}(hu:P.underlying kt=some (.array 2 et))(he:P.underlying et=some (.int k'))(hs:(P.info? et).map (·.size)=some 1){k:IntKind}{x y:Int} :∀ (es:List MapEntry) (i:Nat),(∀ e∈es,∃ q:ef,(ef.p k x y).like q=true∧e.key=q.val) →
    ((Instr.findAsking kt (ef.p k x y).val es i).run P w=.ok none w∧∀ e∈es,e.key≠(ef.p k x y).val)∨∃ j e,e∈es∧e.key=(ef.p k x y).val∧(Instr.findAsking kt (ef.p k x y).val es i).run P w=.ok (some (j,e.val)) w
  | [],i,_=>.inl ⟨by simp [Instr.findAsking],fun e h=>by cases h⟩
  | e::es,i,h=>by
    obtain ⟨q,hq,hk⟩:=h e (by simp)
    obtain ⟨k2,x',y',rfl⟩:∃ k2 x' y',q=.p k2 x' y':=by cases q<;>first | exact ⟨_,_,_,rfl⟩ | cases hq
    have hkk:k=k2:=by simpa [ef.like,dk] using hq
    subst hkk
    have heq:(Op.equal kt (ef.p k x y).val e.key).run P w=.ok (x==x'&&y==y') w:=by
      rw [hk];exact apb hu he hs k x y x' y' _
    have hfa:(Instr.findAsking kt (ef.p k x y).val (e::es) i).run P w=if (x==x'&&y==y')=true then .ok (some (i,e.val)) w else (Instr.findAsking kt (ef.p k x y).val es (i+1)).run P w:=by
      rw [Instr.findAsking]
      simp only [Sem.run_bind,heq,Result.andThen_ok]
      split<;>simp
    cases hb:(x==x'&&y==y') with
    | true =>
      refine .inr ⟨i,e,by simp,?_,by rw [hfa,hb];rfl⟩
      simp only [Bool.and_eq_true,beq_iff_eq] at hb
      rw [hk,hb.1,hb.2]
    | false =>
      have hne:e.key≠(ef.p k x y).val:=by
        rw [hk]
        intro c
        simp [ef.val] at c
        rw [c.1,c.2] at hb
        simp at hb
      rw [hb] at hfa
      simp only [Bool.false_eq_true,if_false] at hfa
      rcases MF hu he hs es (i+1) (fun e he=>h e (by simp [he])) with ⟨q1,q2⟩ | ⟨j,e',q1,q2,q3⟩
      · refine .inl ⟨by rw [hfa];exact q1,fun e' he'=>?_⟩
        rcases List.mem_cons.1 he' with rfl | he'
        · exact hne
        · exact q2 e' he'
      · exact .inr ⟨j,e',by simp [q1],q2,by rw [hfa];exact q3⟩
theorem alO{P:Program}{w:World}{kt:TypeId}{d:TypeDesc}(hu:P.underlying kt=some d){key:ef}(hf:key.fits d=true)(b:Bool)(n:Nat) :(Instr.checkKey b (n+1) kt key.val).run P w=.ok () w:=by
  unfold Instr.checkKey
  rw [Sem.run_bind,run_underlying hu]
  cases key<;>cases d<;>first | (cases hf;done) | rfl
theorem aag{P:Program}{w:World}{kt:TypeId}{d:TypeDesc}(hu:P.underlying kt=some d){key:ef}(hf:(key.fits d||UC P kt key)=true)(b:Bool)(n:Nat) :(Instr.checkKey b (n+2) kt key.val).run P w=.ok () w:=by
  rcases Bool.or_eq_true _ _ ▸ hf with h | h
  · exact alO hu h b (n+1)
  · obtain ⟨k,x,y,et,k',rfl,h1,h2,h3⟩:=aaf h
    exact UE h1 h2 h3 k x y b n
theorem MG{P:Program}{w:World}{kt:TypeId}{d:TypeDesc}(hu:P.underlying kt=some d){key:ef}(hf:(key.fits d||UC P kt key)=true)(es:List MapEntry)(h:∀ e∈es,∃ q:ef,key.like q=true∧e.key=q.val) :
    ((Instr.findKey kt key.val es).run P w=.ok none w∧∀ e∈es,e.key≠key.val)∨∃ j e,e∈es∧e.key=key.val∧(Instr.findKey kt key.val es).run P w=.ok (some (j,e.val)) w:=by
  unfold Instr.findKey
  rcases Bool.or_eq_true _ _ ▸ hf with hk | hk
  · rcases ME hk es 0 h with ⟨q1,q2⟩ | ⟨j,e,q1,q2,q3⟩
    · exact .inl ⟨by simp only [Sem.run_bind,run_underlying hu,Result.andThen_ok,q1];rfl,q2⟩
    · exact .inr ⟨j,e,q1,q2,by simp only [Sem.run_bind,run_underlying hu,Result.andThen_ok,q3];rfl⟩
  · obtain ⟨k,x,y,et,k',rfl,h1,h2,h3⟩:=aaf hk
    have hd:d=.array 2 et:=by rw [hu] at h1;exact Option.some.inj h1
    subst hd
    cases es with
    | nil=>exact .inl ⟨by simp only [Sem.run_bind,run_underlying hu,Result.andThen_ok,Instr.findNow];rfl,fun e h=>by cases h⟩
    | cons e es =>
      have hn:Instr.findNow (.array 2 et) (ef.p k x y).val (e::es) 0=none:=rfl
      simp only [Sem.run_bind,run_underlying hu,Result.andThen_ok,hn]
      exact MF h1 h2 h3 (e::es) 0 h
theorem EO{cok:Bool}{k:ef} :∀ {ks:List ef} {vs:List AV} {r:zE},r∈MC cok k ks vs→∃ (i:Nat) (q:ef) (v:AV),ks[i]? = some q∧vs[i]? = some v∧r=⟨okV cok v true,[],[k.same q]⟩
  | q::ks,v::vs,r,h=>by
    simp only [MC,List.mem_cons] at h
    rcases h with rfl | h
    · exact ⟨0,q,v,rfl,rfl,rfl⟩
    · obtain ⟨i,q',v',h1,h2,h3⟩:=EO h
      exact ⟨i+1,q',v',by simpa using h1,by simpa using h2,h3⟩
  | [],_,r,h=>by cases h
  | _::_,[],r,h=>by cases h
theorem Lf:∀ {l:List ef},UB l=true→∀ {i j:Nat} {q r:ef},l[i]? = some q→l[j]? = some r→i<j→q.same r=false
  | [],_,i,j,q,r,h1,_,_=>by simp at h1
  | x::l,hn,i,j,q,r,h1,h2,hlt=>by
    simp only [UB,Bool.and_eq_true,List.all_eq_true,Bool.not_eq_true'] at hn
    cases j with
    | zero=>omega
    | succ j =>
      cases i with
      | zero =>
        simp at h1 h2;subst h1
        exact hn.1 r (List.mem_of_getElem? h2)
      | succ i=>exact Lf hn.2 (i:=i) (j:=j) (by simpa using h1) (by simpa using h2) (by omega)
theorem UF{P:Program}{w:World}{t kt et:TypeId}(ht:P.underlying t=some (.map kt et)){bl cl:Nat}{es:Array MapEntry}(hh:w.heap[bl]? = some (.map es cl)){key:ef}(hck:∀ b,(Instr.checkKey b 10000 kt key.val).run P w=.ok () w) 
    {r:Option (Nat×Value)} (hfk:(Instr.findKey kt key.val es.toList).run P w=.ok r w) {z:Value} (hz:(zeroValue et).run P w=.ok z w) (cok:Bool) :
    (Instr.lookup t (.map (some bl)) key.val cok).run P w=.ok (if cok then .tuple #[(r.map Prod.snd).getD z,.bool r.isSome] else (r.map Prod.snd).getD z) w:=by
  unfold Instr.lookup
  simp only [Sem.run_bind,run_underlying ht,Result.andThen_ok]
  have hg:(getObj bl).run P w=.ok (.map es cl) w:=by simp [getObj,Sem.run,hh]
  simp only [Sem.run_bind,hg,Result.andThen_ok,Sem.run_pure,hck]
  simp only [hfk,Result.andThen_ok]
  cases r with
  | none=>simp only [Sem.run_bind,hz,Result.andThen_ok,Sem.run_pure];cases cok<;>rfl
  | some p=>obtain ⟨j,v⟩:=p;simp only [Sem.run_bind,Result.andThen_ok,Sem.run_pure];cases cok<;>rfl
theorem Yx{P:Program}{ρ:aC}{w:World}{t:TypeId}{x k:AV}{x' k':Value}{cok:Bool}{r:zE}(hx:VR ρ w x x')(hk:VR ρ w k k')(h:r∈abN P t x k cok)(ho:aQ r.obs) :
    lF P ρ w (Instr.lookup t x' k' cok) r.v:=by
  unfold abN at h
  split at h
  case h_2=>cases h
  rename_i kt et ks vs key ht hkey
  split at h
  case h_2=>cases h
  rename_i d z hd hz
  cases hb:(key.fits d||UC P kt key)&&MB key ks&&UB ks with
  | false=>rw [hb] at h;cases h
  | true =>
  rw [hb] at h
  simp only [cond_true,List.mem_append,List.mem_singleton] at h
  simp only [Bool.and_eq_true] at hb
  obtain ⟨⟨hf,hl⟩,hn⟩:=hb
  have hkv:=anm hk hkey
  subst hkv
  cases hx with | gmap _ _ bl es cl u ha hb' hh hin hex hv hlen hkept =>
  simp only [Option.bind_eq_some_iff] at hz
  obtain ⟨inf,hi,hz⟩:=hz
  have hzv:(zeroValue et).run P w=.ok z w:=by simp [zeroValue,typeInfo,hi,hz]
  have hes:∀ e∈es.toList,∃ q:ef,key.like q=true∧e.key=q.val:=fun e he=>by
    obtain ⟨i,q,h1,h2,_⟩:=hin e he
    exact ⟨q,sh hl q (List.mem_of_getElem? h1),h2⟩
  rcases MG hd hf es.toList hes with ⟨q1,q2⟩ | ⟨j,e,q1,q2,q3⟩
  · have run:=UF ht hh (fun b=>aag hd hf b 9998) q1 hzv cok
    rcases h with h | rfl
    · obtain ⟨i,q,v,h1,h2,rfl⟩:=EO h
      obtain ⟨e,he,h3,_⟩:=hex i q h1
      exact absurd (h3.trans ((DQ (sh hl q (List.mem_of_getElem? h1))).1 ho.1)) (q2 e he)
    · refine .plain run ?_
      cases cok
      · exact ael ρ w z
      · exact .tup _ #[_,_] (.cons _ _ _ _ (ael ρ w z) (.cons _ _ _ _ (.bool _ _) .nil))
  · have run:=UF ht hh (fun b=>aag hd hf b 9998) q3 hzv cok
    obtain ⟨i,q,h1,h2,h3⟩:=hin e q1
    have hsame:key.same q=true:=(DQ (sh hl q (List.mem_of_getElem? h1))).2 (h2.symm.trans q2)
    rcases h with h | rfl
    · obtain ⟨i',q',v,k1,k2,rfl⟩:=EO h
      have hij:i=i':=by
        have l1:=sh hl q (List.mem_of_getElem? h1)
        have l2:=sh hl q' (List.mem_of_getElem? k1)
        have e1:=(DQ l1).1 hsame
        have e2:=(DQ l2).1 ho.1
        have lk:∀ {a b:ef},key.like a=true→key.like b=true→a.val=b.val→a.same b=true:=by
          intro a b ha hb e
          cases key<;>cases a<;>cases b<;>simp_all [ef.like,ef.same,ef.val]
        rcases Nat.lt_trichotomy i i' with c | c | c
        · have:=Lf hn h1 k1 c
          rw [lk l1 l2 (e1.trans e2.symm)] at this;cases this
        · exact c
        · have:=Lf hn k1 h1 c
          rw [lk l2 l1 (e2.trans e1.symm)] at this;cases this
      subst hij
      refine .plain run ?_
      have hvr:VR ρ w v e.val:=by rw [h3];exact hv i v k2
      cases cok
      · exact hvr
      · exact .tup _ #[_,_] (.cons _ _ _ _ hvr (.cons _ _ _ _ (.bool _ _) .nil))
    · exfalso
      have:∀ (l:List ef),aQ (l.map fun q=>!key.same q)→∀ q∈l,key.same q=false:=by
        intro l
        induction l with
        | nil=>intro _ q hq;cases hq
        | cons a l ih =>
          intro h q hq
          simp only [List.map_cons,aQ,Bool.not_eq_true'] at h
          rcases List.mem_cons.1 hq with rfl | hq
          · exact h.1
          · exact ih h.2 q hq
      have:=this ks ho q (List.mem_of_getElem? h1)
      rw [hsame] at this;cases this
inductive RU where
  | sqrt | bits | frombits | add64 | sub64 | idxb | cntb
def aqJ(s:ByteArray)(c:Int) :Int:=match (List.range s.size).find? fun i=>s[i]! == c.toNat.toUInt8 with
  | some i=>(i:Int)
  | none=>-1
def aqK(s:ByteArray)(c:Int) :Int:=s.foldl (fun n x=>if x==c.toNat.toUInt8 then n+1 else n) (0:Int)
def HM:RU→Array Value→Sem Value
  | .sqrt=>Extern.MathSqrt.sqrt
  | .bits=>Extern.MathFloatBits.float64bits
  | .frombits=>Extern.MathFloatBits.float64frombits
  | .add64=>fun args=>do
    let (x, y, c) ← Extern.MathBitsCarry.three "Add64" args
    pure (Extern.MathBitsCarry.pair ((x+y+c)%Extern.MathBitsCarry.m64) ((x+y+c)/Extern.MathBitsCarry.m64))
  | .sub64=>fun args=>do
    let (x, y, b) ← Extern.MathBitsCarry.three "Sub64" args
    pure (Extern.MathBitsCarry.pair ((x+Extern.MathBitsCarry.m64-y-b)%Extern.MathBitsCarry.m64) (if x<y+b then 1 else 0))
  | .idxb=>Extern.BytealgIndexByte.indexByte
  | .cntb=>Extern.BytealgCount.count
def apd(k:RU)(args:List AV) :List zE :=
  match k,args with
  | .sqrt,[.flt _ x]=>[⟨.flt false (xr x),[],[]⟩]
  | .bits,[.flt true x]=>[⟨.int .u64 x,[],[]⟩]
  | .bits,[.flt false x]=>[⟨.int .u64 x,[],[!isNaN x]⟩,⟨.nan,[],[isNaN x]⟩]
  | .frombits,[.int .u64 n]=>[⟨.flt true n.toNat,[],[]⟩]
  | .add64,[.int _ x,.int _ y,.int _ c]=>[⟨.tup [.int .u64 (((x.toNat+y.toNat+c.toNat)%18446744073709551616:Nat):Int),.int .u64 (((x.toNat+y.toNat+c.toNat)/18446744073709551616:Nat):Int)],[],[dK c.toNat 1]⟩]
  | .sub64,[.int _ x,.int _ y,.int _ c]=>[⟨.tup [.int .u64 (((x.toNat+18446744073709551616-y.toNat-c.toNat)%18446744073709551616:Nat):Int),.int .u64 (bif Nat.blt x.toNat (y.toNat+c.toNat) then 1 else 0)],[],[dK c.toNat 1]⟩]
  | .idxb,[.str s,.int .u8 c]=>[⟨.int .i64 (aqJ s c),[],[]⟩]
  | .cntb,[.str s,.int .u8 c]=>[⟨.int .i64 (aqK s c),[],[]⟩]
  | _,_=>[]
abbrev fC:=Option (List Nat)
structure ann where
  mask:List Bool
  keep:Bool
abbrev gr:=FuncId→List aU→List AV→fC→Option (ib×List Bool×fC)
structure BO where
  P:Program
  ext:FuncId→Option RU
  mode:FuncId→ann
  wrap:Bool
structure BO.Ok (C:BO):Prop where
  mixed:C.P.follows .mixedOrders=true
  enter:∀ (f:FuncId) (fn:Func) (args:Array Value) (w:World),C.P.funcs[f]? = some fn→fn.body.isSome=true→(callFunc f args).run C.P w=.ok (.enter f args) w
  ext:∀ (f:FuncId) (k:RU) (args:Array Value) (w:World),C.ext f=some k→(callFunc f args).run C.P w=(do pure (Next.value (←HM k args)):Sem Next).run C.P w
def UG(P:Program)(run:gr) :Prop :=
  ∀ f lent args p r obs p',run f lent args p=some (r,obs,p')→aQ obs→∀ (ρ:aC) (w:World) (us:List Value),kG ρ w lent→dC ρ w args us →
    (∃ fn,P.funcs[f]? = some fn∧fn.body.isSome=true)∧Calls P f us.toArray w fun e w'=>∃ u,e=.returned u∧ki ρ.live w w'∧r.Holds ρ w w' lent.length u
structure OpR where
  v:AV
  sets:List (Nat×Option aU)
  reads:List Nat
  obs:List Bool
  path:fC
def abO:List Bool→Bool
  | []=>true
  | b::l=>b&&abO l
theorem OV:∀ {l:List Bool},abO l=true→aQ l
  | [],_=>trivial
  | b::l,h=>by simp only [abO,Bool.and_eq_true] at h;exact ⟨h.1,OV h.2⟩
def EP(alts:List zE)(p:fC) :Option (zE×fC) :=
  match alts,p with
  | [a],p=>some (a,p)
  | alts,none=>(alts.find? fun a=>abO a.obs).map fun a=>(a,none)
  | alts,some (k::r)=>(alts[k]?).map fun a=>(a,some r)
  | _,_=>none
theorem BP{alts:List zE}{p p':fC}{a:zE}(h:EP alts p=some (a,p')) :a∈alts:=by
  unfold EP at h
  split at h
  · simp only [Option.some.injEq,Prod.mk.injEq] at h;rw [←h.1];simp
  · simp only [Option.map_eq_some_iff,Prod.mk.injEq] at h;obtain ⟨b,h1,rfl,_⟩:=h;exact List.mem_of_find?_eq_some h1
  · simp only [Option.map_eq_some_iff,Prod.mk.injEq] at h;obtain ⟨b,h1,rfl,_⟩:=h;exact List.mem_of_getElem? h1
  · cases h
def kw:Nat:=100000
mutual
def abP:AV→List Nat
  | .ptr b ..=>[b]
  | .sl b ..=>[b]
  | .fn _ l1 l2=>kL l1++kL l2
  | .agg l | .tup l=>kL l
  | .iface _ v=>abP v
  | _=>[]
def kL:List AV→List Nat
  | []=>[]
  | v::l=>abP v++kL l
end
def ape:aU→List Nat
  | .vs l=>kL l
  | _=>[]
def yv:List Nat→Nat→Bool
  | [],_=>false
  | k::l,b=>bif Nat.beq k b then true else yv l b
def qm(g:Nat→Option aU) :Nat→List Nat→List Nat→List Nat
  | 0,_,acc=>acc
  | _+1,[],acc=>acc
  | n+1,b::t,acc=>match yv acc b with
    | true=>qm g n t acc
    | false=>qm g n ((match g b with | some d=>ape d | none=>[])++t) (acc++[b])
def sT:List Bool→List AV→List AV
  | true::m,v::l=>v::sT m l
  | false::m,_::l=>sT m l
  | _,_=>[]
def mO(σ:Nat→Option Nat)(g:Nat→Option aU) :List Bool→List AV→List AV×List Nat
  | _,[]=>([],[])
  | true::m,v::l=>let s:=mO σ g m l;(T5 σ v::s.1,s.2)
  | false::m,v::l=>let r:=OS σ g kw v;let s:=mO σ g m l;(r.1::s.1,r.2++s.2)
  | [],v::l=>let r:=OS σ g kw v;let s:=mO σ g [] l;(r.1::s.1,r.2++s.2)
theorem BQ{ρ τ:aC}{w:World}{h:cD}{m:Nat}{σ:Nat→Option Nat}(hh:HR ρ w h m)(L:aeh ρ τ w h σ) :∀ (k:List Bool) {l:List AV} {c:List Value},dC ρ w l c→dC τ w (mO σ (bD h) k l).1 c
  | k,[],c,hv=>by cases hv;cases k<;>exact .nil
  | true::k,v::l,c,hv=>by cases hv with | cons _ u _ c' h1 h2=>exact .cons _ _ _ _ (mg L h1) (BQ hh L k h2)
  | false::k,v::l,c,hv=>by cases hv with | cons _ u _ c' h1 h2=>exact .cons _ _ _ _ (abJ hh L _ h1) (BQ hh L k h2)
  | [],v::l,c,hv=>by cases hv with | cons _ u _ c' h1 h2=>exact .cons _ _ _ _ (abJ hh L _ h1) (BQ hh L [] h2)
def CG:List Nat→Bool
  | []=>true
  | k::l=>bif yv l k then false else CG l
def sU(g:Nat→Option aU)(nid:Nat) :List Nat→Bool
  | []=>true
  | b::l=>(match g b with | some _=>Nat.blt b nid||Nat.ble (nid+xu) b | none=>false)&&sU g nid l
theorem Lg:∀ {l:List Nat} {i b:Nat},l[i]? = some b→yv l b=true
  | [],i,b,h=>by simp at h
  | k::l,0,b,h=>by simp at h;subst h;simp [yv,sN]
  | k::l,i+1,b,h=>by
    simp only [yv]
    cases Nat.beq k b with
    | true=>rfl
    | false=>simp only [cond_false];exact Lg (i:=i) (by simpa using h)
theorem EQ:∀ {l:List Nat},CG l=true→∀ {i j b:Nat},l[i]? = some b→l[j]? = some b→i=j
  | [],_,i,j,b,h1,_=>by simp at h1
  | k::l,hn,i,j,b,h1,h2=>by
    simp only [CG] at hn
    cases e:yv l k with
    | true=>rw [e] at hn;cases hn
    | false =>
      rw [e] at hn;simp only [cond_false] at hn
      cases i with
      | zero =>
        cases j with
        | zero=>rfl
        | succ j=>simp at h1 h2;subst h1;rw [Lg h2] at e;cases e
      | succ i =>
        cases j with
        | zero=>simp at h1 h2;subst h2;rw [Lg h1] at e;cases e
        | succ j=>have:=EQ hn (i:=i) (j:=j) (b:=b) (by simpa using h1) (by simpa using h2);omega
theorem CH{g:Nat→Option aU}{nid:Nat} :∀ {l:List Nat},sU g nid l=true→∀ b,b∈l→(∃ d,g b=some d)∧(b<nid∨nid+xu≤b)
  | [],_,b,hb=>by cases hb
  | k::l,h,b,hb=>by
    simp only [sU,Bool.and_eq_true] at h
    rcases List.mem_cons.1 hb with rfl | q
    · have:=h.1
      cases e:g b with
      | none=>rw [e] at this;cases this
      | some d =>
        rw [e] at this
        simp only [Bool.or_eq_true] at this
        refine ⟨⟨d,rfl⟩,this.imp (fun q=>by simpa [Nat.blt_eq] using q) (fun q=>Nat.le_of_ble_eq_true q)⟩
    · exact CH h.2 b q
def HN(e:Operand→AV)(f:Operand)(args:Array Operand) :Option (FuncId×List AV) :=
  match e f with
  | .fn (.func fid) first caps=>some (fid,first++args.toList.map e++caps)
  | _=>none
def UH(C:BO)(run:gr)(g:Nat→Option aU)(nid:Nat)(p:fC)(fid:FuncId)(vals:List AV) :Option OpR :=
  let bs:=qm g kw (kL (sT (C.mode fid).mask vals)) []
  let la:=mO (oC bs 0) g (C.mode fid).mask vals
  bif CG bs&&sU g nid bs then
    match run fid (yu (oC bs 0) g bs) la.1 p with
    | some (r,obs,p') =>
      bif Nat.ble r.own.length (bs.length+xu) then
        some { v:=ql (ii bs nid) r.v,sets:=mN (ii bs nid) 0 r.own,reads:=bs++la.2,obs,path:=p' }
      else none
    | none=>none
  else none
def opM(C:BO)(run:gr)(e:Operand→AV)(g:Nat→Option aU)(nid:Nat)(p:fC)(op:Op) :Option OpR :=
  match Au C.wrap C.P e op with
  | some (v,obs)=>some { v,sets:=[],reads:=[],obs,path:=p }
  | none =>
    match op with
    | .load t x=>(J6 C.P g t (e x)).map fun r=>{ v:=r.1,sets:=[],reads:=r.2.2,obs:=r.2.1,path:=p }
    | .convert t d x=>(alN C.P g t d (e x)).map fun r=>{ v:=.str r.1,sets:=[],reads:=r.2.2,obs:=r.2.1,path:=p }
    | .slice t x lo hi none=>(OU C.P g t (e x) (lo.map e) (hi.map e)).map fun r=>{ v:=r.1,sets:=[],reads:=r.2.2,obs:=r.2.1,path:=p }
    | .store t x v=>(K9 C.P g t (e x) (e v)).map fun r=>{ v:=.any,sets:=[(r.1,some r.2.1)],reads:=[r.1],obs:=r.2.2,path:=p }
    | .lookup t x k cok=>(EP (abN C.P t (e x) (e k) cok) p).map fun r=>{ v:=r.1.v,sets:=[],reads:=[],obs:=r.1.obs,path:=r.2 }
    | .alloc t=>(aby C.P nid t).map fun r=>{ v:=r.1,sets:=[(nid,some r.2)],reads:=[],obs:=[],path:=p }
    | .box t x=>(ao9 C.P nid t (e x)).map fun r=>{ v:=r.1,sets:=[(nid,some r.2)],reads:=[],obs:=[],path:=p }
    | .makeSlice t l c=>(anb C.P nid t (e l) (e c)).map fun r=>{ v:=r.1,sets:=[(nid,some r.2.1)],reads:=[],obs:=r.2.2,path:=p }
    | .build t parts=>(ahX C.P t (parts.toList.map fun x=>(x.1,e x.2))).map fun v=>{ v,sets:=[],reads:=[],obs:=[],path:=p }
    | .buildSlice t len parts=>(HI C.P nid t len (parts.toList.map fun x=>(x.1,e x.2))).map fun r=>{ v:=r.1,sets:=[(nid,some r.2)],reads:=[],obs:=[],path:=p }
    | .call { callee:=.builtin .append,args,argTypes } =>
      match args.toList,argTypes.toList with
      | [s,x],[t,t']=>bif Nat.beq t t' then
          match Jj C.P g nid t (e s) (e x) with
          | some (alts,rs)=>(EP alts p).map fun r=>{ v:=r.1.v,sets:=r.1.sets,reads:=rs,obs:=r.1.obs,path:=r.2 }
          | none=>none
        else match Jk C.P g nid t t' (e s) (e x) with
          | some (alts,rs)=>(EP alts p).map fun r=>{ v:=r.1.v,sets:=r.1.sets,reads:=rs,obs:=r.1.obs,path:=r.2 }
          | none=>none
      | _,_=>none
    | .call { callee:=.builtin .copy,args,argTypes } =>
      match args.toList,argTypes.toList with
      | [s,x],[t,_]=>(aae C.P g t (e s) (e x)).map fun r=>{ v:=.int .i64 (r.1:Int),sets:=[(r.2.1,some r.2.2.1)],reads:=r.2.2.2.2,obs:=r.2.2.2.1,path:=p }
      | _,_=>none
    | .call { callee:=.value f,args,.. } =>
      match HN e f args with
      | some (fid,l) =>
        match C.ext fid with
        | some k=>(EP (apd k l) p).map fun r=>{ v:=r.1.v,sets:=[],reads:=[],obs:=r.1.obs,path:=r.2 }
        | none=>UH C run g nid p fid l
      | none=>none
    | _=>none
def CI(p:fC)(r:Option (AV×List Bool)) :Option OpR:=match r with | some (v,obs)=>some { v,sets:=[],reads:=[],obs,path:=p } | none=>none
def aqL(P:Program)(g:Nat→Option aU)(p:fC)(t:TypeId)(v:AV) :Option OpR:=(J6 P g t v).map fun r=>{ v:=r.1,sets:=[],reads:=r.2.2,obs:=r.2.1,path:=p }
def apf(P:Program)(g:Nat→Option aU)(p:fC)(t:TypeId)(x v:AV) :Option OpR:=(K9 P g t x v).map fun r=>{ v:=.any,sets:=[(r.1,some r.2.1)],reads:=[r.1],obs:=r.2.2,path:=p }
def apg(P:Program)(nid:Nat)(p:fC)(t:TypeId) :Option OpR:=(aby P nid t).map fun r=>{ v:=r.1,sets:=[(nid,some r.2)],reads:=[],obs:=[],path:=p }
def ars(P:Program)(nid:Nat)(p:fC)(t:TypeId)(x:AV) :Option OpR:=(ao9 P nid t x).map fun r=>{ v:=r.1,sets:=[(nid,some r.2)],reads:=[],obs:=[],path:=p }
def art(C:BO)(run:gr)(e:Operand→AV)(g:Nat→Option aU)(nid:Nat)(p:fC)(f:Operand)(args:Array Operand) :Option OpR :=
  match HN e f args with
  | some (fid,l) =>
    match C.ext fid with
    | some k=>(EP (apd k l) p).map fun r=>{ v:=r.1.v,sets:=[],reads:=[],obs:=r.1.obs,path:=r.2 }
    | none=>UH C run g nid p fid l
  | none=>none
def aqM(C:BO)(run:gr)(e:Operand→AV)(g:Nat→Option aU)(nid:Nat)(p:fC)(c:Call) :Option OpR :=
  match c.callee with
  | .value f=>art C run e g nid p f c.args
  | _=>opM C run e g nid p (.call c)
def opF(C:BO)(run:gr)(e:Operand→AV)(g:Nat→Option aU)(nid:Nat)(p:fC)(op:Op) :Option OpR :=
  match op with
  | .move x=>some { v:=e x,sets:=[],reads:=[],obs:=[],path:=p }
  | .assign x=>some { v:=e x,sets:=[],reads:=[],obs:=[],path:=p }
  | .binOp op t x y _=>CI p (am3 C.wrap C.P op t (e x) (e y))
  | .unOp op _ x=>CI p (unA op (e x))
  | .load t x=>aqL C.P g p t (e x)
  | .store t x v=>apf C.P g p t (e x) (e v)
  | .fieldAddr s x f=>CI p (Gl (EE C.P s (e x) f))
  | .field t x f=>CI p (Gl (abp C.P t (e x) f))
  | .indexAddr t x ix=>CI p (EF C.P t (e x) (e ix))
  | .alloc t=>apg C.P nid p t
  | .box t x=>ars C.P nid p t (e x)
  | .call c=>aqM C run e g nid p c
  | op=>opM C run e g nid p op
theorem ano(C:BO)(run:gr)(e:Operand→AV)(g:Nat→Option aU)(nid:Nat)(p:fC)(op:Op) :opF C run e g nid p op=opM C run e g nid p op:=by
  cases op with
  | binOp op t x y _=>simp only [opF,opM,Au,CI]
  | unOp op t x=>simp only [opF,opM,Au,CI]
  | fieldAddr s x f=>simp only [opF,opM,Au,CI]
  | field s x f=>simp only [opF,opM,Au,CI]
  | indexAddr s x f=>simp only [opF,opM,Au,CI]
  | call c =>
    obtain ⟨callee,args,ats⟩:=c
    cases callee<;>rfl
  | _=>rfl
theorem aem{x:Nat}(h:isNaN x=true) :FloatKind.f64.format.sqrt x=none:=by
  obtain ⟨s,t,e⟩:=Ar h
  simp [Ieee.Format.sqrt,e,Ieee.Datum.root]
theorem UI{ρ:aC}{w:World}{k1 k2 k3:IntKind}{x y z:Int}{c:Array Value}(hl:dC ρ w [.int k1 x,.int k2 y,.int k3 z] c.toList) :c = #[.int k1 x,.int k2 y,.int k3 z]:=by
  have h:c.toList=[.int k1 x,.int k2 y,.int k3 z]:=by
    generalize c.toList=l at hl
    cases hl with | cons _ u1 _ _ h1 t1 =>
    cases t1 with | cons _ u2 _ _ h2 t2 =>
    cases t2 with | cons _ u3 _ _ h3 t3 =>
    cases t3;cases h1;cases h2;cases h3;rfl
  rw [←c.toArray_toList,h]
theorem aah{P:Program}{w:World}(name:String){k1 k2 k3:IntKind}{x y z:Int}(hz:z.toNat≤1) :(Extern.MathBitsCarry.three name #[.int k1 x,.int k2 y,.int k3 z]).run P w=.ok (x.toNat,y.toNat,z.toNat) w:=by
  have e:Extern.MathBitsCarry.three name #[.int k1 x,.int k2 y,.int k3 z]=(do
      if z.toNat > 1 then unsupported (.noEntry ("extern/math/bits." ++ name ++ ": a carry that is neither 0 nor 1"))
      pure (x.toNat,y.toNat,z.toNat):Sem (Nat×Nat×Nat)):=rfl
  rw [e,if_neg (by omega)]
  rfl
theorem ah6{P:Program}{ρ:aC}{w:World}{k:RU}{l:List AV}{c:Array Value}{r:zE}(hl:dC ρ w l c.toList)(h:r∈apd k l)(ho:aQ r.obs) :lF P ρ w (HM k c) r.v:=by
  have one:∀ {a:AV},dC ρ w [a] c.toList→∃ u,c = #[u]∧VR ρ w a u:=by
    intro a h
    generalize hc:c.toList=l at h
    cases h with | cons _ u _ _ h1 h2=>cases h2;exact ⟨u,by rw [←hc],h1⟩
  unfold apd at h
  split at h
  · simp only [List.mem_singleton] at h;subst h
    obtain ⟨u,rfl,hu⟩:=one hl
    cases hu with | flt _ _ y hf =>
    rename_i ex x
    have es:HM .sqrt #[.float .f64 y]=(match FloatKind.f64.format.sqrt y with
      | some r=>pure (.float .f64 r)
      | none=>do pure (.float .f64 (←choose (.nanBits .f64 y y)))):=rfl
    rw [es]
    have e:FloatKind.f64.format.sqrt y=FloatKind.f64.format.sqrt x:=by
      rcases hf with rfl | ⟨_,h2,h3⟩
      · rfl
      · rw [aem h2,aem h3]
    cases hr:FloatKind.f64.format.sqrt y with
    | some r=>exact ⟨.float .f64 r,w.drawn,rfl,.flt _ _ _ (.inl (by rw [e] at hr;simp [xr,hr]))⟩
    | none=>exact ⟨_,w.drawn+1,rfl,.flt _ _ _ (.inr ⟨rfl,by rw [e] at hr;simp [xr,hr,ED],akt y y _⟩)⟩
  · simp only [List.mem_singleton] at h;subst h
    obtain ⟨u,rfl,hu⟩:=one hl
    cases hu with | flt _ _ y hf =>
    rcases hf with rfl | ⟨h1,_⟩
    · exact ⟨_,w.drawn,rfl,.int _ _⟩
    · cases h1
  · simp only [List.mem_cons,List.not_mem_nil,or_false] at h
    obtain ⟨u,rfl,hu⟩:=one hl
    cases hu with | flt _ _ y hf =>
    rcases h with rfl | rfl
    · rcases hf with rfl | ⟨_,h2,_⟩
      · exact ⟨_,w.drawn,rfl,.int _ _⟩
      · have:=ho.1;rw [h2] at this;cases this
    · have hy:isNaN y=true:=by
        rcases hf with rfl | ⟨_,_,h3⟩
        · exact ho.1
        · exact h3
      exact ⟨_,w.drawn,rfl,.nan _ hy⟩
  · simp only [List.mem_singleton] at h;subst h
    obtain ⟨u,rfl,hu⟩:=one hl
    cases hu
    exact ⟨_,w.drawn,rfl,.flt _ _ _ (.inl rfl)⟩
  · simp only [List.mem_singleton] at h;subst h
    have hz:=ho.1
    replace hz:=of_decide_eq_true hz
    cases UI hl
    refine ⟨_,w.drawn,?_,.tup _ #[_,_] (.cons _ _ _ _ (.int _ _) (.cons _ _ _ _ (.int _ _) .nil))⟩
    simp only [HM, Sem.run_bind, aah "Add64" hz, Result.andThen_ok]
    rfl
  · simp only [List.mem_singleton] at h;subst h
    have hz:=ho.1
    replace hz:=of_decide_eq_true hz
    cases UI hl
    refine ⟨_,w.drawn,?_,.tup _ #[_,_] (.cons _ _ _ _ (.int _ _) (.cons _ _ _ _ (.int _ _) .nil))⟩
    simp only [HM, Sem.run_bind, aah "Sub64" hz, Result.andThen_ok]
    rename_i x _ y _ z
    have e:(bif Nat.blt x.toNat (y.toNat+z.toNat) then (1:Int) else 0)=Int.ofNat (if x.toNat<y.toNat+z.toNat then 1 else 0):=by
      by_cases q:x.toNat<y.toNat+z.toNat
      · rw [if_pos q,show Nat.blt x.toNat (y.toNat+z.toNat)=true by rw [Nat.blt_eq];exact q];rfl
      · rw [if_neg q]
        have:Nat.blt x.toNat (y.toNat+z.toNat)=false:=by
          cases h:Nat.blt x.toNat (y.toNat+z.toNat) with
          | false=>rfl
          | true=>rw [Nat.blt_eq] at h;exact absurd h q
        rw [this];rfl
    rw [e]
    rfl
  · simp only [List.mem_singleton] at h;subst h
    rename_i s b
    obtain ⟨u,rfl⟩:∃ u,c=u:=⟨c,rfl⟩
    have hc:c = #[.string s,.int .u8 b]:=by
      have h:c.toList=[.string s,.int .u8 b]:=by
        generalize c.toList=l at hl
        cases hl with | cons _ u1 _ _ h1 t1 =>
        cases t1 with | cons _ u2 _ _ h2 t2 =>
        cases t2;cases h1;cases h2;rfl
      rw [←c.toArray_toList,h]
    subst hc
    refine ⟨.int .i64 (aqJ s b),w.drawn,?_,.int _ _⟩
    have e:HM .idxb #[.string s,.int .u8 b]=(match (List.range s.size).find? fun i=>s[i]! == b.toNat.toUInt8 with
      | some i=>pure (goInt i)
      | none=>pure (goInt (-1))):=rfl
    rw [e]
    unfold aqJ
    cases (List.range s.size).find? fun i=>s[i]! == b.toNat.toUInt8<;>rfl
  · simp only [List.mem_singleton] at h;subst h
    rename_i s b
    have hc:c = #[.string s,.int .u8 b]:=by
      have h:c.toList=[.string s,.int .u8 b]:=by
        generalize c.toList=l at hl
        cases hl with | cons _ u1 _ _ h1 t1 =>
        cases t1 with | cons _ u2 _ _ h2 t2 =>
        cases t2;cases h1;cases h2;rfl
      rw [←c.toArray_toList,h]
    subst hc
    refine ⟨.int .i64 (aqK s b),w.drawn,?_,.int _ _⟩
    have e:HM .cntb #[.string s,.int .u8 b]=(do
      let b' ← Extern.Bytes.bytesOf (.string s)
      let c ← Extern.Bytes.asByte (.int .u8 b)
      pure (goInt (b'.foldl (fun n x=>if x==c then n+1 else n) (0:Nat)))):=rfl
    rw [e]
    simp [Extern.Bytes.bytesOf,Extern.Bytes.asByte,Sem.run_bind,Sem.run_pure,goInt,aqK]
  · simp at h
theorem alQ{C:BO}(hC:C.Ok){run:gr}(hrun:UG C.P run){e:Operand→AV}{h:cD}{nid:Nat}{p:fC}{o:Oper}{r:OpR}(hr:opM C run e (bD h) nid p o.op=some r)(ho:aQ r.obs) 
    {ρ:aC} {w:World} {n:Nat} (hh:HR ρ w h n) (hid:∀ x,nid≤x→x<nid+xu→¬ ρ.ok x) (hn0:nid+xu≤n) {a:Act} (hops:∀ x,VR ρ w (e x) (a.eval x)) {next:Act→World→Prop} {Q:Exit→Act→World→Prop}
    (hK:∀ ρ' w' u,oj ρ ρ' w→ki ρ.live w w'→HR ρ' w' (dy r.sets h) n→VR ρ' w' r.v u→(∀ b,ρ'.ok b→ρ.ok b∨(nid≤b∧b<nid+xu))→next (a.put o.dst u) w'):o.wp C.P a w next Q:=by
  have hS:0<xu:=by decide
  have hb : ¬ ρ.ok nid:=hid nid (Nat.le_refl _) (by omega)
  have hn:nid<n:=by omega
  have one:∀ {b:Nat},b=nid→nid≤b∧b<nid+xu:=fun e=>by omega
  have plain:∀ {v:AV},(∃ u k,(execOp a.eval o).run C.P w=.ok (.value u) { w with drawn:=k }∧VR ρ w v u)→r.v=v→r.sets=[]→o.wp C.P a w next Q:=by
    intro v ⟨u,k,h1,h2⟩ hv hs
    unfold Oper.wp
    rw [h1]
    have E:=oj.refl ρ w
    have W:=ki.drawn ρ.live w k
    exact hK ρ _ u E W (by rw [hs];exact hh.drawn k) (by rw [hv];exact h2.mono E W) (fun b q=>.inl q)
  have made:∀ {s:Sem Value} {v:AV} {h':cD},(execOp a.eval o).run C.P w=(do pure (Next.value (←s)):Sem Next).run C.P w→Gm C.P ρ w h n nid s v h'→r.v=v→dy r.sets h=h'→o.wp C.P a w next Q:=by
    intro s v h' he ⟨u,w',ρ',h1,h2,h3,h4,h5,h6⟩ hv hs
    unfold Oper.wp
    rw [he,dG h1]
    exact hK ρ' w' u h2 h3 (by rw [hs];exact h4) (by rw [hv];exact h5) (fun b q=>(h6 b q).imp id one)
  unfold opM at hr
  split at hr
  · rename_i v obs hp
    simp only [Option.some.injEq] at hr;subst hr
    exact plain (abu hops hp ho) rfl rfl
  · rename_i hpo
    clear hpo
    generalize hop:o.op=op at hr
    split at hr
    · rename_i t x
      simp only [Option.map_eq_some_iff] at hr
      obtain ⟨⟨v,obs,rs⟩,hl,rfl⟩:=hr
      obtain ⟨u,k,h1,h2⟩:=ad4 (P:=C.P) hh (hops x) hl ho
      exact plain ⟨u,k,by simp only [execOp,hop];exact dG h1,h2⟩ rfl rfl
    · rename_i t d x
      simp only [Option.map_eq_some_iff] at hr
      obtain ⟨⟨z,obs,rs⟩,hc,rfl⟩:=hr
      exact plain ⟨.string z,w.drawn,by simp only [execOp,hop];exact dG (ah4 hh (hops x) hc ho),.str _⟩ rfl rfl
    · rename_i t x lo hi
      simp only [Option.map_eq_some_iff] at hr
      obtain ⟨⟨v,obs,rs⟩,hc,rfl⟩:=hr
      obtain ⟨u,k,q1,q2⟩:=abL (P:=C.P) hh hops (hops x) hc ho
      exact plain ⟨u,k,by simp only [execOp,hop];exact dG q1,q2⟩ rfl rfl
    · rename_i t x v
      simp only [Option.map_eq_some_iff] at hr
      obtain ⟨⟨b,d,obs⟩,hl,rfl⟩:=hr
      obtain ⟨w',h1,h2,h3⟩:=abv (P:=C.P) hh (hops x) (hops v) hl ho
      unfold Oper.wp
      have:(execOp a.eval o).run C.P w=.ok .skip w':=by
        simp only [execOp,hop];rw [Sem.run_bind,h1];rfl
      rw [this]
      exact hK ρ w' undef (oj.refl _ _) h3 h2 (.any _) (fun b q=>.inl q)
    · rename_i t x k cok
      simp only [Option.map_eq_some_iff] at hr
      obtain ⟨⟨a,_⟩,hl,rfl⟩:=hr
      obtain ⟨u,kk,q1,q2⟩:=Yx (P:=C.P) (hops x) (hops k) (BP hl) ho
      exact plain ⟨u,kk,by simp only [execOp,hop];exact dG q1,q2⟩ rfl rfl
    · rename_i t
      simp only [Option.map_eq_some_iff] at hr
      obtain ⟨⟨v,d⟩,hl,rfl⟩:=hr
      exact made (by simp only [execOp,hop]) (abz hh hb hn hl true) rfl rfl
    · rename_i t x
      simp only [Option.map_eq_some_iff] at hr
      obtain ⟨⟨v,d⟩,hl,rfl⟩:=hr
      exact made (by simp only [execOp,hop]) (ahV hh hb hn (hops x) hl) rfl rfl
    · rename_i t l c
      simp only [Option.map_eq_some_iff] at hr
      obtain ⟨⟨v,d,obs⟩,hl,rfl⟩:=hr
      exact made (by simp only [execOp,hop]) (ad6 hh hb hn (hops l) (hops c) hl ho) rfl rfl
    · rename_i t parts
      simp only [Option.map_eq_some_iff] at hr
      obtain ⟨v,hl,rfl⟩:=hr
      have h1:(parts.toList.map fun x=>(x.1,e x.2)).map Prod.fst=(parts.map fun (x:Nat×Operand)=>(x.1,a.eval x.2)).toList.map Prod.fst:=by simp
      have h2:dC ρ w ((parts.toList.map fun x=>(x.1,e x.2)).map Prod.snd) ((parts.map fun (x:Nat×Operand)=>(x.1,a.eval x.2)).toList.map Prod.snd):=by
        have:=dC.map hops (parts.toList.map Prod.snd)
        simpa [Function.comp_def] using this
      obtain ⟨u,k,q1,q2⟩:=abE (P:=C.P) h1 h2 hl
      exact plain ⟨u,k,by simp only [execOp,hop];exact dG q1,q2⟩ rfl rfl
    · rename_i t len parts
      simp only [Option.map_eq_some_iff] at hr
      obtain ⟨⟨v,d⟩,hl,rfl⟩:=hr
      have h1:(parts.toList.map fun x=>(x.1,e x.2)).map Prod.fst=(parts.map fun (x:Nat×Operand)=>(x.1,a.eval x.2)).toList.map Prod.fst:=by simp
      have h2:dC ρ w ((parts.toList.map fun x=>(x.1,e x.2)).map Prod.snd) ((parts.map fun (x:Nat×Operand)=>(x.1,a.eval x.2)).toList.map Prod.snd):=by
        have:=dC.map hops (parts.toList.map Prod.snd)
        simpa [Function.comp_def] using this
      exact made (by simp only [execOp,hop]) (Mv hh hb hn h1 h2 hl) rfl rfl
    · rename_i args argTypes
      split at hr
      case h_2=>cases hr
      rename_i s x t t' e1 e2
      cases ht:Nat.beq t t' with
      | false =>
        rw [ht] at hr
        simp only [cond_false] at hr
        split at hr
        case h_2=>cases hr
        rename_i alts rs ha
        simp only [Option.map_eq_some_iff] at hr
        obtain ⟨⟨alt,p'⟩,hp,rfl⟩:=hr
        have ea:args = #[s,x]:=by rw [←e1]
        have et:argTypes = #[t,t']:=by rw [←e2]
        subst ea;subst et
        have hm:=Yv hh hb hn (hops s) (hops x) ha (BP hp) ho o.type
        refine made (s:=Builtin.append_ #[t,t'] o.type #[a.eval s,a.eval x]) ?_ hm rfl rfl
        simp only [execOp,hop]
        rw [kE a.eval .append #[s,x] #[t,t'] o.type _ rfl]
        simp [invoke,builtin]
      | true =>
      rw [ht] at hr
      have:=Nat.eq_of_beq_eq_true ht
      subst this
      simp only [cond_true] at hr
      split at hr
      case h_2=>cases hr
      rename_i alts rs ha
      simp only [Option.map_eq_some_iff] at hr
      obtain ⟨⟨alt,p'⟩,hp,rfl⟩:=hr
      have ea:args = #[s,x]:=by rw [←e1]
      have et:argTypes = #[t,t]:=by rw [←e2]
      subst ea;subst et
      have hm:=Yu hh hb hn (hops s) (hops x) ha (BP hp) ho o.type
      refine made (s:=Builtin.append_ #[t,t] o.type #[a.eval s,a.eval x]) ?_ hm rfl rfl
      simp only [execOp,hop]
      rw [kE a.eval .append #[s,x] #[t,t] o.type _ rfl]
      simp [invoke,builtin]
    · rename_i args argTypes
      split at hr
      case h_2=>cases hr
      rename_i s x t t' e1 e2
      simp only [Option.map_eq_some_iff] at hr
      obtain ⟨⟨k,b,d,obs,rs⟩,hc,rfl⟩:=hr
      have ea:args = #[s,x]:=by rw [←e1]
      have et:argTypes = #[t,t']:=by rw [←e2]
      subst ea;subst et
      obtain ⟨w',h1,h2,h3⟩:=aek (P:=C.P) (T:=o.type) (t':=t') hh (hops s) (hops x) hc ho
      refine made (s:=Builtin.copy_ #[t,t'] o.type #[a.eval s,a.eval x]) ?_ ⟨_,w',ρ,h1,oj.refl _ _,h3,h2,.int _ _,fun b q=>.inl q⟩ rfl rfl
      simp only [execOp,hop]
      rw [kE a.eval .copy #[s,x] #[t,t'] o.type _ rfl]
      simp [invoke,builtin]
    · rename_i f args ats
      split at hr
      case h_2=>cases hr
      rename_i fid l hca
      unfold HN at hca
      split at hca
      case h_2=>cases hca
      rename_i fid' first caps hef
      simp only [Option.some.injEq,Prod.mk.injEq] at hca
      obtain ⟨rfl,rfl⟩:=hca
      have hf:=hops f
      rw [hef] at hf
      generalize hgf:a.eval f=gf at hf
      cases hf with | fn _ _ _ c1 c2 v1 v2 =>
      have hargs:dC ρ w (first++args.toList.map e++caps) (c1++args.map a.eval++c2).toList:=by
        simp only [Array.toList_append,Array.toList_map]
        exact dC.append v2 (dC.append (dC.map hops args.toList) v1)
      have hex:∀ w0,(execOp a.eval o).run C.P w0=(callFunc fid' (c1++args.map a.eval++c2)).run C.P w0:=by
        intro w0
        simp only [execOp,hop,resolve,hgf,Deferred.ofValue]
        rfl
      split at hr
      · rename_i k hk
        simp only [Option.map_eq_some_iff] at hr
        obtain ⟨⟨a,_⟩,hl,rfl⟩:=hr
        obtain ⟨u,kk,q1,q2⟩:=ah6 (P:=C.P) hargs (BP hl) ho
        refine plain ⟨u,kk,?_,q2⟩ rfl rfl
        rw [hex,hC.ext fid' k _ w hk]
        exact dG q1
      · unfold UH at hr
        simp only at hr
        generalize hbs:qm (bD h) kw (kL (sT (C.mode fid').mask (first++args.toList.map e++caps))) []=bs at hr
        cases hlen:(CG bs&&sU (bD h) nid bs) with
        | false=>rw [hlen] at hr;cases hr
        | true =>
        rw [hlen] at hr
        simp only [cond_true] at hr
        rw [Bool.and_eq_true] at hlen
        split at hr
        case h_2=>cases hr
        rename_i r' obs p' hl
        cases hle:Nat.ble r'.own.length (bs.length+xu) with
        | false=>rw [hle] at hr;cases hr
        | true =>
        rw [hle] at hr
        simp only [cond_true,Option.some.injEq] at hr;subst hr
        have hLs:aei h bs:=⟨fun q1 q2=>EQ hlen.1 q1 q2,fun b q=>(CH hlen.2 b q).1⟩
        have L:=akF hh hLs
        have hcall:=hrun fid' _ _ p r' obs p' hl ho
        obtain ⟨⟨fn,hfn,hbody⟩,hcalls⟩:=hcall (ρ.lend bs) w _ (ah3 hh hLs) (BQ hh L _ hargs)
        unfold Oper.wp
        rw [hex,hC.enter fid' fn _ w hfn hbody]
        simp only [Oper.upon]
        have hl2:(c1++args.map a.eval++c2).toList.toArray=c1++args.map a.eval++c2:=by simp
        rw [hl2] at hcalls
        refine hcalls.mono ?_
        rintro e' w' ⟨u,rfl,W,ρ',E,hbk,H,hv⟩
        rw [wN] at hbk
        obtain ⟨q1,q2,q3,q4,q5⟩:=ani hh hLs hid (fun b q=>(CH hlen.2 b q).2) hn0 (Nat.le_of_ble_eq_true hle) W E hbk H hv
        exact hK _ w' u q1 q2 q3 q4 q5
    · cases hr
def FW(ro:Option Nat) :Fence:={ Fence.wide with round:=ro }
theorem aru(ro:Option Nat)(f:FuncId) :(FW ro).fn f:=trivial
theorem T6{ro:Option Nat}{n:Nat} :(FW ro).depth.isSome=true→1≤n:=fun h=>by simp [FW,Fence.wide] at h
theorem ah7{ro:Option Nat}{n:Nat}{P:Program}{f:FuncId}{args:Array Value}{w:World}{R:Ending→World→Prop}(h:Calls P f args w R) :CallsIn (FW ro) n P f args w R :=
  callsIn_wide.2 h
theorem abQ{P:Program}{o:Oper}{a:Act}{w:World}{next:Act→World→Prop}{Q:Exit→Act→World→Prop}{ro:Option Nat}{n:Nat}(hd:∀ c,o.op ≠ .defer c)(h:o.wp P a w next Q) :o.wpIn (FW ro) n P a w next Q:=by
  refine ⟨fun _ _=>trivial,?_⟩
  have e:(FW ro).round=ro:=rfl
  rw [e,Oper.semAt_eq ro a.eval o hd]
  unfold Oper.wp at h
  generalize (execOp a.eval o).run P w=r at h ⊢
  cases r with
  | ok x w' =>
    cases x with
    | value v=>exact h
    | skip=>exact h
    | defer d=>exact h
    | enter f args=>exact ⟨T6,ah7 h⟩
    | row row args =>
      refine ⟨T6,fun c cs _=>?_⟩
      obtain ⟨v,w2,h1,h2⟩:=h c cs
      exact ⟨v,w2,h1,stepsIn_wide.2 h2⟩
    | _=>exact h.elim
  | halt x w'=>cases x<;>exact h
structure Ay (w w':World):Prop where
  os:w'.os=w.os
  tape:w'.tape=w.tape
  output:w'.output=w.output
  size:w'.heap.size=w.heap.size
  same:∀ b:Nat,w'.heap[b]? = w.heap[b]?∨((∃ o,w.heap[b]? = some o∧((∃ r,o=Obj.loop r)∨∃ r,o=Obj.deferred r))∧∃ o,w'.heap[b]? = some o∧((∃ r,o=Obj.loop r)∨∃ r,o=Obj.deferred r))
theorem Ay.cells{w w':World}(h:Ay w w'){b:Nat}{c:Array Value}{t:TypeId}{z:Nat×Nat}(hb:w.heap[b]? = some (.cells c t z)) :w'.heap[b]? = some (.cells c t z):=by
  rcases h.same b with q | ⟨⟨o,h1,h2⟩,_⟩
  · rw [q];exact hb
  · rw [hb] at h1;cases h1
    rcases h2 with ⟨r,h2⟩ | ⟨r,h2⟩<;>cases h2
theorem Ay.map{w w':World}(h:Ay w w'){b:Nat}{es:Array MapEntry}{cl:Nat}(hb:w.heap[b]? = some (.map es cl)) :w'.heap[b]? = some (.map es cl):=by
  rcases h.same b with q | ⟨⟨o,h1,h2⟩,_⟩
  · rw [q];exact hb
  · rw [hb] at h1;cases h1
    rcases h2 with ⟨r,h2⟩ | ⟨r,h2⟩<;>cases h2
theorem Ay.cell{w w':World}(h:Ay w w'){a:Addr}{u:Value}(hu:w.cell? a=some u) :w'.cell? a=some u:=by
  have key:w'.heap[a.block]? = w.heap[a.block]?:=by
    rcases h.same a.block with q | ⟨⟨o,h1,h2⟩,_⟩
    · exact q
    · exfalso
      unfold World.cell? at hu
      rw [h1] at hu
      rcases h2 with ⟨r,rfl⟩ | ⟨r,rfl⟩<;>simp at hu
  rw [CA key];exact hu
theorem Ay.put{w:World}{b:Nat}{o o':Obj}(h:w.heap[b]? = some o)(ho:(∃ r,o=Obj.loop r)∨∃ r,o=Obj.deferred r)(ho':(∃ r,o'=Obj.loop r)∨∃ r,o'=Obj.deferred r) :Ay w (w.putObj b o'):=by
  refine ⟨rfl,rfl,rfl,by simp,fun c=>?_⟩
  by_cases e:c=b
  · subst e
    exact .inr ⟨⟨o,h,ho⟩,o',World.putObj_heap_same (Array.getElem?_eq_some_iff.1 h).1,ho'⟩
  · exact .inl (World.putObj_heap_other e)
theorem Ay.wle{M:Nat→Prop}{w w':World}(h:Ay w w')(hM:∀ b,b<w.heap.size→¬ M b→w'.heap[b]? = w.heap[b]?) :ki M w w' :=
  ⟨h.os,h.tape,h.output,Nat.le_of_eq h.size.symm,hM,fun b c t z hc=>⟨c,h.cells hc,rfl⟩⟩
theorem VR.soft{ρ:aC}{w w':World}(W:Ay w w'){v:AV}{u:Value}(h:VR ρ w v u) :VR ρ w' v u:=by
  induction h using VR.rec (motive_2:=fun l c _=>dC ρ w' l c) with
  | int k n=>exact .int k n
  | bool kn b=>exact .bool kn b
  | flt ex x y h=>exact .flt ex x y h
  | str s=>exact .str s
  | nptr=>exact .nptr
  | ptr b k i j hb=>exact .ptr b k i j hb
  | iptr bw d k i j bl o u ha hb hc hv hr hk hg ih=>exact .iptr bw d k i j bl o u ha (by rw [W.size];exact hb) (fun x v hx=>W.cell (hc x v hx)) ih hr hk hg
  | nsl=>exact .nsl
  | esl a=>exact .esl a
  | zsl a c=>exact .zsl a c
  | nan n h=>exact .nan n h
  | sl b k es i len cap cap' hb hcap hl c t hh hs=>exact .sl b k es i len cap cap' hb hcap hl c t (W.cells hh) hs
  | slEnd b k es i a=>exact .slEnd b k es i a
  | imm bw d k es i len cap bl o u ha hb hc hv hl hr hk hg ih=>exact .imm bw d k es i len cap bl o u ha (by rw [W.size];exact hb) (fun x v hx=>W.cell (hc x v hx)) ih hl hr hk hg
  | immEnd bw d k es i cap a hr hk hg=>exact .immEnd bw d k es i cap a hr hk hg
  | fn f l1 l2 c1 c2 h1 h2 i1 i2=>exact .fn f l1 l2 c1 c2 i1 i2
  | nfn=>exact .nfn
  | gmap ks vs bl es cl u ha hb hh hin hex hv hl hk ih=>exact .gmap ks vs bl es cl u ha (by rw [W.size];exact hb) (W.map hh) hin hex ih hl hk
  | gvar c bl t fr ha hb hh=>exact .gvar c bl t fr ha (by rw [W.size];exact hb) (W.cells hh)
  | agg l c h ih=>exact .agg l c ih
  | tup l c h ih=>exact .tup l c ih
  | iface t v u h ih=>exact .iface t v u ih
  | niface=>exact .niface
  | yld b L h=>exact .yld b L h
  | any u=>exact .any u
  | nil=>exact dC.nil
  | cons v u l c h t i1 i2=>exact dC.cons v u l c i1 i2
theorem dC.soft{ρ:aC}{w w':World}(W:Ay w w') :∀ {l:List AV} {c:List Value},dC ρ w l c→dC ρ w' l c
  | _,_,.nil=>.nil
  | _,_,.cons v u l c h t=>.cons v u l c (h.soft W) (dC.soft W t)
theorem HR.soft{ρ:aC}{w w':World}{h:cD}{n:Nat}(W:Ay w w')(hh:HR ρ w h n) :HR ρ w' h n :=
  ⟨fun b d e=>(hh.cell b d e).imp (fun ⟨q1,q2,q3,c,t,q4,q5⟩=>⟨q1,q2,q3,c,t,W.cells q4,fun x v hx=>by obtain ⟨u,k1,k2⟩:=q5 x v hx;exact ⟨u,k1,k2.soft W⟩⟩) id,hh.inj,hh.fresh,
   fun bl hl=>by rw [W.size];exact hh.liveLt bl hl,fun j bl hl=>by rw [W.size];exact hh.outLt j bl hl,hh.lt,fun x hx=>(hh.rom x hx).soft W⟩
mutual
def AV.noYld:AV→Bool
  | .yld _=>false
  | .fn _ l1 l2=>sV l1&&sV l2
  | .agg l | .tup l=>sV l
  | .iface _ v=>v.noYld
  | _=>true
def sV:List AV→Bool
  | []=>true
  | v::l=>v.noYld&&sV l
end
mutual
theorem eT:∀ (v:AV),v.foreign=true→v.noYld=true
  | .fn _ l1 l2,h=>by simp only [AV.foreign,AV.noYld,Bool.and_eq_true] at h ⊢;exact ⟨oD l1 h.1,oD l2 h.2⟩
  | .agg l,h=>by simp only [AV.foreign,AV.noYld] at h ⊢;exact oD l h
  | .tup l,h=>by simp only [AV.foreign,AV.noYld] at h ⊢;exact oD l h
  | .iface _ v,h=>by simp only [AV.foreign,AV.noYld] at h ⊢;exact eT v h
  | .yld _,h=>by simp [AV.foreign] at h
  | .int ..,_ | .bool ..,_ | .flt ..,_ | .str _,_ | .nptr,_ | .ptr ..,_ | .iptr ..,_ | .nsl,_ | .esl,_ | .zsl _,_ | .nan,_ | .sl ..,_ | .imm ..,_ | .nfn,_ | .gmap ..,_ | .gvar _,_ | .niface,_ | .any,_=>rfl
theorem oD:∀ (l:List AV),cG l=true→sV l=true
  | [],_=>rfl
  | v::l,h=>by simp only [cG,sV,Bool.and_eq_true] at h ⊢;exact ⟨eT v h.1,oD l h.2⟩
end
theorem UJ:∀ {l:List AV},sV l=true→∀ (x:Nat) (v:AV),l[x]? = some v→v.noYld=true
  | [],_,x,v,h=>by simp at h
  | a::l,ha,0,v,h=>by simp at h;subst h;simp only [sV,Bool.and_eq_true] at ha;exact ha.1
  | a::l,ha,x+1,v,h=>by simp only [sV,Bool.and_eq_true] at ha;exact UJ ha.2 x v (by simpa using h)
def aC.pinned(ρ:aC)(x:Nat×Option (Nat×Nat)) :aC:={ ρ with pin:=x }
theorem VR.pinned{ρ:aC}{w:World}(x:Nat×Option (Nat×Nat)){v:AV}{u:Value}(h:VR ρ w v u) :v.noYld=true→VR (ρ.pinned x) w v u:=by
  induction h using VR.rec (motive_2:=fun l c _=>sV l=true→dC (ρ.pinned x) w l c) with
  | int k n=>exact fun _=>.int k n
  | bool kn b=>exact fun _=>.bool kn b
  | flt ex x y h=>exact fun _=>.flt ex x y h
  | str s=>exact fun _=>.str s
  | nptr=>exact fun _=>.nptr
  | ptr b k i j hb=>exact fun _=>VR.ptr (ρ:=ρ.pinned x) b k i j hb
  | iptr bw d k i j bl o u ha hb hc hv hr hk hg ih=>exact fun _=>.iptr bw d k i j bl o u ha hb hc (fun x v hx=>ih x v hx (eT v (bp hr hg x v hx))) hr hk hg
  | nsl=>exact fun _=>.nsl
  | esl a=>exact fun _=>.esl a
  | zsl a c=>exact fun _=>.zsl a c
  | nan n h=>exact fun _=>.nan n h
  | sl b k es i len cap cap' hb hcap hl c t hh hs=>exact fun _=>VR.sl (ρ:=ρ.pinned x) b k es i len cap cap' hb hcap hl c t hh hs
  | slEnd b k es i a=>exact fun _=>.slEnd b k es i a
  | imm bw d k es i len cap bl o u ha hb hc hv hl hr hk hg ih=>exact fun _=>.imm bw d k es i len cap bl o u ha hb hc (fun x v hx=>ih x v hx (eT v (bp hr hg x v hx))) hl hr hk hg
  | immEnd bw d k es i cap a hr hk hg=>exact fun _=>.immEnd bw d k es i cap a hr hk hg
  | fn f l1 l2 c1 c2 h1 h2 i1 i2=>intro hk;simp only [AV.noYld,Bool.and_eq_true] at hk;exact .fn f l1 l2 c1 c2 (i1 hk.1) (i2 hk.2)
  | nfn=>exact fun _=>.nfn
  | gmap ks vs bl es cl u ha hb hh hin hex hv hl hk ih=>exact fun _=>.gmap ks vs bl es cl u ha hb hh hin hex (fun x v hx=>ih x v hx (eT v (jH (sf hk x v hx)))) hl hk
  | gvar c bl t fr ha hb hh=>exact fun _=>.gvar c bl t fr ha hb hh
  | agg l c h ih=>intro hk;exact .agg l c (ih hk)
  | tup l c h ih=>intro hk;exact .tup l c (ih hk)
  | iface t v u h ih=>intro hk;exact .iface t v u (ih hk)
  | niface=>exact fun _=>.niface
  | yld b L h=>intro hk;simp [AV.noYld] at hk
  | any u=>exact fun _=>.any u
  | nil=>exact dC.nil
  | cons v u l c h t i1 i2=>rename_i hk;simp only [sV,Bool.and_eq_true] at hk;exact dC.cons v u l c (i1 hk.1) (i2 hk.2)
theorem dC.pinned{ρ:aC}{w:World}(x:Nat×Option (Nat×Nat)) :∀ {l:List AV} {c:List Value},dC ρ w l c→sV l=true→dC (ρ.pinned x) w l c
  | _,_,.nil,_=>.nil
  | _,_,.cons v u l c h t,hk=>by simp only [sV,Bool.and_eq_true] at hk;exact .cons v u l c (h.pinned x hk.1) (dC.pinned x t hk.2)
def ah8:aU→Bool
  | .vs l=>sV l
  | _=>true
def Lh:cD→Bool
  | []=>true
  | x::l=>ah8 x.2&&Lh l
theorem UK:∀ {h:cD} {b:Nat} {d:aU},Lh h=true→bD h b=some d→ah8 d=true
  | [],b,d,_,h=>by simp [gC,eZ] at h
  | (a1,a2)::l,b,d,hc,h=>by
    simp only [Lh,Bool.and_eq_true] at hc
    simp only [gC,eZ] at h
    cases e:Nat.beq a1 b with
    | true=>rw [e] at h;simp only [cond_true,Option.some.injEq] at h;rw [←h];exact hc.1
    | false=>rw [e] at h;exact UK hc.2 h
theorem Yy{d:aU}(hr:d.recKept)(hk:ah8 d=true)(x:Nat)(v:AV)(hx:d.cell? x=some v) :v.noYld=true:=by
  cases d with
  | vs l=>exact UJ hk x v hx
  | fl xs=>exact eT v (bp (d:=.fl xs) hr rfl x v hx)
  | ns k xs=>exact eT v (bp (d:=.ns k xs) hr rfl x v hx)
  | bs xs=>exact eT v (bp (d:=.bs xs) hr rfl x v hx)
  | ss xs=>exact eT v (bp (d:=.ss xs) hr rfl x v hx)
  | rows k m get=>exact eT v (bp (d:=.rows k m get) hr rfl x v hx)
  | cols m cs=>exact eT v (bp (d:=.cols m cs) hr rfl x v hx)
theorem HR.pinned{ρ:aC}{w:World}{h:cD}{n:Nat}(x:Nat×Option (Nat×Nat))(hh:HR ρ w h n)(hc:Lh h=true) :HR (ρ.pinned x) w h n :=
  ⟨fun b d e=>(hh.cell b d e).imp (fun ⟨q1,q2,q3,c,t,q4,q5⟩=>⟨q1,q2,q3,c,t,q4,fun y v hx=>by
      obtain ⟨u,k1,k2⟩:=q5 y v hx
      exact ⟨u,k1,k2.pinned x (Yy q3 (UK hc e) y v hx)⟩⟩) id,hh.inj,hh.fresh,hh.liveLt,hh.outLt,hh.lt,
   fun y hy=>(hh.rom y hy).pinned x (eT _ (jH (Rom.kept y hy)))⟩
theorem VR.noPin{ρ:aC}{w:World}(hp:ρ.pin.2=none)(x:Nat×Option (Nat×Nat)){v:AV}{u:Value}(h:VR ρ w v u) :VR (ρ.pinned x) w v u:=by
  induction h using VR.rec (motive_2:=fun l c _=>dC (ρ.pinned x) w l c) with
  | int k n=>exact .int k n
  | bool kn b=>exact .bool kn b
  | flt ex x y h=>exact .flt ex x y h
  | str s=>exact .str s
  | nptr=>exact .nptr
  | ptr b k i j hb=>exact VR.ptr (ρ:=ρ.pinned x) b k i j hb
  | iptr bw d k i j bl o u ha hb hc hv hr hk hg ih=>exact .iptr bw d k i j bl o u ha hb hc ih hr hk hg
  | nsl=>exact .nsl
  | esl a=>exact .esl a
  | zsl a c=>exact .zsl a c
  | nan n h=>exact .nan n h
  | sl b k es i len cap cap' hb hcap hl c t hh hs=>exact VR.sl (ρ:=ρ.pinned x) b k es i len cap cap' hb hcap hl c t hh hs
  | slEnd b k es i a=>exact .slEnd b k es i a
  | imm bw d k es i len cap bl o u ha hb hc hv hl hr hk hg ih=>exact .imm bw d k es i len cap bl o u ha hb hc ih hl hr hk hg
  | immEnd bw d k es i cap a hr hk hg=>exact .immEnd bw d k es i cap a hr hk hg
  | fn f l1 l2 c1 c2 h1 h2 i1 i2=>exact .fn f l1 l2 c1 c2 i1 i2
  | nfn=>exact .nfn
  | gmap ks vs bl es cl u ha hb hh hin hex hv hl hk ih=>exact .gmap ks vs bl es cl u ha hb hh hin hex ih hl hk
  | gvar c bl t fr ha hb hh=>exact .gvar c bl t fr ha hb hh
  | agg l c h ih=>exact .agg l c ih
  | tup l c h ih=>exact .tup l c ih
  | iface t v u h ih=>exact .iface t v u ih
  | niface=>exact .niface
  | yld b L h=>rw [hp] at h;cases h
  | any u=>exact .any u
  | nil=>exact dC.nil
  | cons v u l c h t i1 i2=>exact dC.cons v u l c i1 i2
theorem dC.noPin{ρ:aC}{w:World}(hp:ρ.pin.2=none)(x:Nat×Option (Nat×Nat)) :∀ {l:List AV} {c:List Value},dC ρ w l c→dC (ρ.pinned x) w l c
  | _,_,.nil=>.nil
  | _,_,.cons v u l c h t=>.cons v u l c (h.noPin hp x) (dC.noPin hp x t)
theorem HR.noPin{ρ:aC}{w:World}{h:cD}{n:Nat}(hp:ρ.pin.2=none)(x:Nat×Option (Nat×Nat))(hh:HR ρ w h n) :HR (ρ.pinned x) w h n :=
  ⟨fun b d e=>(hh.cell b d e).imp (fun ⟨q1,q2,q3,c,t,q4,q5⟩=>⟨q1,q2,q3,c,t,q4,fun y v hx=>by obtain ⟨u,k1,k2⟩:=q5 y v hx;exact ⟨u,k1,k2.noPin hp x⟩⟩) id,hh.inj,hh.fresh,hh.liveLt,hh.outLt,hh.lt,
   fun y hy=>(hh.rom y hy).noPin hp x⟩
theorem mL.shut{ρ:aC}{w:World} :∀ {ds:List Deferred},mL ρ w ds→∀ {D:Nat},(∀ e∈ds,e ≠ { target:=.collected D,args:=#[] })→∀ {o:Obj},mL ρ (w.putObj D o) ds
  | [],h,D,_,o=>by simpa [mL] using h
  | d::ds,⟨⟨E,h1,hb,h2,h3,h4,h5⟩,h⟩,D,hn,o=>by
    have hne:E≠D:=fun e=>hn d (by simp) (by rw [h1,e])
    exact ⟨⟨E,h1,hb,by simpa using h2,h3,(World.putObj_heap_other hne).trans h4,h5⟩,mL.shut h fun e he=>hn e (by simp [he])⟩
theorem HO{P:Program}{fn:Func}{tmps:Array Value}{R:Ending→World→Prop}{ro:Option Nat}{n:Nat}{ρ:aC} :∀ (ds:List Deferred) {w:World},mL ρ w ds →
    (∀ w',Ay w w'→(∀ b,b<ρ.pin.1→w'.heap[b]? = w.heap[b]?)→(∀ b,ρ.live b→w'.heap[b]? = w.heap[b]?)→∃ v,(results fn tmps).run P w'=.ok v w'∧R (.returned v) w')→LeavesInM (FW ro) n P fn tmps R ds .returning w
  | [],w,hm,h=>by
    obtain ⟨v,h1,h2⟩:=h w ⟨rfl,rfl,rfl,rfl,fun _=>.inl rfl⟩ (fun _ _=>rfl) (fun _ _=>rfl)
    exact ⟨v,h1,h2⟩
  | d::ds,w,⟨⟨D,h1,hb,h2,h3,h4,h5⟩,hm⟩,h=>by
    have S:=Ay.put h4 (.inr ⟨_,rfl⟩) (o':=.deferred none) (.inr ⟨_,rfl⟩)
    refine ⟨by simp,.inl ⟨D,w.putObj D (.deferred none),by rw [h1],run_takeDeferred h4,HO ds (hm.shut h5) fun w' S' hb' hl'=>h w' ?_ (fun b q=>?_) (fun b q=>?_)⟩⟩
    · refine ⟨S'.os,S'.tape,S'.output,S'.size.trans S.size,fun b=>?_⟩
      rcases S'.same b with q | ⟨⟨o,q1,q2⟩,q3⟩
      · rcases S.same b with r | ⟨r1,r2⟩
        · exact .inl (q.trans r)
        · rw [←q] at r2;exact .inr ⟨r1,r2⟩
      · rcases S.same b with r | ⟨r1,r2⟩
        · rw [r] at q1;exact .inr ⟨⟨o,q1,q2⟩,q3⟩
        · exact .inr ⟨r1,q3⟩
    · rw [hb' b q];exact World.putObj_heap_other (by omega)
    · rw [hl' b q];exact World.putObj_heap_other (fun e=>h3 (e ▸ q))
structure wO where
  v:AV
  sets:List (Nat×Option aU)
  reads:List Nat
def Jm(ops:Array Oper)(j:Nat) :Option Nat:=(ops[j]?).bind (·.dst)
def ER(ops:Array Oper)(o:Oper)(T:List AV) :Option Bool :=
  match o.guard with
  | none=>some true
  | some (j,want) =>
    match Jm ops j with
    | none=>some false
    | some d =>
      match ao8 T d with
      | some (.bool true b)=>some (b==want)
      | some (.tup _) | none=>some false
      | _=>none
def abR(ops:Array Oper)(i:Nat) :Bool:=ops.toList.any fun o=>match o.guard with | some (j,_)=>Nat.beq j i | none=>false
def T7(v:AV)(p:fC) :Option (Bool×List Bool×fC) :=
  match v,p with
  | .bool true b,p=>some (b,[],p)
  | .bool false b,none=>some (b,[],none)
  | .bool false b,some (k::r)=>some (Nat.beq k 1,[b==Nat.beq k 1],some r)
  | _,_=>none
theorem Li{ρ:aC}{w:World}{v:AV}{u:Value}{p p':fC}{b:Bool}{obs:List Bool}(hv:VR ρ w v u)(h:T7 v p=some (b,obs,p'))(ho:aQ obs) :u=.bool b:=by
  unfold T7 at h
  split at h
  · simp only [Option.some.injEq,Prod.mk.injEq] at h;obtain ⟨rfl,rfl,rfl⟩:=h;cases hv;rfl
  · simp only [Option.some.injEq,Prod.mk.injEq] at h;obtain ⟨rfl,rfl,rfl⟩:=h;cases hv;rfl
  · simp only [Option.some.injEq,Prod.mk.injEq] at h;obtain ⟨rfl,rfl,rfl⟩:=h;cases hv
    have:=ho.1
    simp only [beq_iff_eq] at this
    rw [this]
  · cases h
def xv(ops:Array Oper)(i:Nat)(v:AV)(p:fC) :Option (AV×List Bool×fC) :=
  bif abR ops i then (T7 v p).map fun r=>(.bool true r.1,r.2.1,r.2.2) else some (v,[],p)
def MH(C:BO)(run:gr)(ops:Array Oper)(n0 i:Nat)(o:Oper)(T:List AV)(h:cD)(p:fC) :Option (wO×List Bool×fC) :=
  match ER ops o T with
  | none=>none
  | some false=>some ({ v:=.tup [],sets:=[],reads:=[] },[],p)
  | some true =>
    match opF C run (evA T) (bD h) (n0+i*xu) p o.op with
    | none=>none
    | some r =>
      match xv ops i r.v r.path with
      | none=>none
      | some (v,obs,p')=>some ({ v,sets:=r.sets,reads:=r.reads },r.obs++obs,p')
def Lj(T:List AV)(d:Option Nat)(v:AV) :List AV :=
  match d with
  | some d=>alD T d v
  | none=>T
theorem abS{ρ:aC}{w:World}{T:List AV}{a:Act}{v:AV}{u:Value}(h:dC ρ w T a.tmps.toList)(hv:VR ρ w v u)(d:Option Nat) :dC ρ w (Lj T d v) (a.put d u).tmps.toList:=by
  cases d with
  | none=>exact h
  | some d=>simp only [Lj,Je,Act.put,Array.toList_setIfInBounds];exact h.set hv d
theorem ES{ρ:aC}{w:World}{ops:Array Oper}{o:Oper}{T:List AV}{a:Act}(h:dC ρ w T a.tmps.toList){b:Bool}(hw:ER ops o T=some b) :Region.wanted o (yielded ops a.tmps)=b:=by
  unfold ER at hw
  simp only [abi] at hw
  unfold Region.wanted
  split at hw
  · rename_i hg;cases hw;simp [hg]
  · rename_i j want hg
    simp only [hg]
    unfold Jm at hw
    split at hw
    · rename_i hs;cases hw;simp [yielded,hs]
    · rename_i d hs
      split at hw
      · rename_i b' hT
        cases hw
        obtain ⟨u,h1,h2⟩:=h.get d _ hT
        rw [Array.getElem?_toList] at h1
        cases h2
        simp only [yielded,hs,Option.bind_some,h1]
        cases b'<;>cases want<;>rfl
      · rename_i l hT
        cases hw
        obtain ⟨u,h1,h2⟩:=h.get d _ hT
        rw [Array.getElem?_toList] at h1
        cases h2
        simp [yielded,hs,h1]
      · rename_i hT
        cases hw
        have : a.tmps[d]? = none := by
          have hl:=h.length
          rw [Array.getElem?_eq_none]
          have : T.length ≤ d := by rcases Nat.lt_or_ge d T.length with q | q; · rw [List.getElem?_eq_getElem q] at hT; cases hT
                                    · exact q
          simp at hl;omega
        simp [yielded,hs,this]
      · cases hw
theorem HR.congr{ρ:aC}{w:World}{h h':cD}{n:Nat}(hh:HR ρ w h n)(e:∀ b,bD h' b=bD h b) :HR ρ w h' n :=
  ⟨fun b d q=>hh.cell b d (by rw [←e];exact q),fun b c d f q r=>hh.inj b c d f (by rw [←e];exact q) (by rw [←e];exact r),hh.fresh,hh.liveLt,hh.outLt,hh.lt,hh.rom⟩
theorem alR{C:BO}{run:gr}{e:Operand→AV}{g:Nat→Option aU}{nid:Nat}{p:fC}{c:Call} :opM C run e g nid p (.defer c)=none:=rfl
theorem Rf{C:BO}(hC:C.Ok){run:gr}(hrun:UG C.P run){ops:Array Oper}{n0 i:Nat}{o:Oper}(hi:ops[i]? = some o){T:List AV}{h:cD}{p p':fC}{r:wO}{obs:List Bool} 
    (hr:MH C run ops n0 i o T h p=some (r,obs,p')) (ho:aQ obs) {ρ:aC} {w:World} {n:Nat} (hh:HR ρ w h n) (hid:∀ x,n0+i*xu≤x→x<n0+i*xu+xu→¬ ρ.ok x) (hn:n0+i*xu+xu≤n) {a:Act} (hT:dC ρ w T a.tmps.toList)
    {ro:Option Nat} {nn:Nat} {K:Act→World→Prop} {Q:Exit→Act→World→Prop}
    (hK:∀ ρ' w' a',oj ρ ρ' w→ki ρ.live w w'→HR ρ' w' (dy r.sets h) n→a'.defers=a.defers→dC ρ' w' (Lj T o.dst r.v) a'.tmps.toList→(∀ b,ρ'.ok b→ρ.ok b∨(n0+i*xu≤b∧b<n0+i*xu+xu))→K a' w'):wpOpIn (FW ro) nn C.P ops Q i K a w:=by
  have dput:∀ u,(a.put o.dst u).defers=a.defers:=by intro u;cases hdst:o.dst<;>simp [Act.put]
  unfold MH at hr
  simp only [ano] at hr
  unfold wpOpIn
  simp only [hi]
  split at hr
  · cases hr
  · rename_i hw
    simp only [Option.some.injEq,Prod.mk.injEq] at hr;obtain ⟨rfl,rfl,rfl⟩:=hr
    rw [ES hT hw]
    simp only [Bool.false_eq_true,if_false]
    exact ⟨fun _ _=>trivial,hK ρ w _ (oj.refl _ _) (ki.refl _ _) hh (dput _) (abS hT (.tup _ _ .nil) o.dst) (fun b q=>.inl q)⟩
  · rename_i hw
    rw [ES hT hw]
    simp only [if_true]
    split at hr
    · cases hr
    · rename_i r' hop
      split at hr
      · cases hr
      · rename_i v obs' p'' hg
        simp only [Option.some.injEq,Prod.mk.injEq] at hr;obtain ⟨rfl,rfl,rfl⟩:=hr
        rw [bI] at ho
        refine abQ (fun c e=>by rw [e,alR] at hop;cases hop) (alQ hC hrun hop ho.1 hh hid hn (fun x=>HF hh.rom hT x) ?_)
        intro ρ' w' u E W hh' hv hok
        refine hK ρ' w' _ E W hh' (dput _) (abS (hT.mono E W) ?_ o.dst) hok
        unfold xv at hg
        cases hgd:abR ops i with
        | false=>rw [hgd] at hg;simp only [cond_false,Option.some.injEq,Prod.mk.injEq] at hg;rw [←hg.1];exact hv
        | true =>
          rw [hgd] at hg
          simp only [cond_true,Option.map_eq_some_iff,Prod.mk.injEq] at hg
          obtain ⟨⟨b,ob,pp⟩,hd',rfl,rfl,rfl⟩:=hg
          rw [Li hv hd' ho.2]
          exact .bool _ _
structure YI where
  b:Nat
  saved:List AV
  ps:Array Tmp
  assign:Code
  body:Code
def aC.wm(ρ:aC)(y:Option YI)(b:Nat) :Prop:=ρ.live b∨(y.isSome=true∧∃ k,ρ.pin.2=some (b,k))
theorem aph{ρ:aC}{b:Nat} :ρ.wm none b↔ρ.live b:=by simp [aC.wm]
theorem api{ρ ρ':aC}{w:World}{y:Option YI}(E:oj ρ ρ' w){b:Nat}(hb:b<w.heap.size)(h:ρ'.wm y b) :ρ.wm y b :=
  h.imp (E.new b hb) fun ⟨q,k,r⟩=>⟨q,k,by rw [←E.pin];exact r⟩
structure T8 (y:Option YI) (ρ:aC) (w:World) (ρ':aC) (w':World):Prop where
  ext:oj ρ ρ' w
  wle:ki (ρ.wm y) w w'
  vr:∀ v u,VR ρ w v u→VR ρ' w' v u
  marks:∀ ds,mL ρ w ds→mL ρ' w' ds
theorem T8.of{y:Option YI}{ρ ρ':aC}{w w':World}(E:oj ρ ρ' w)(W:ki ρ.live w w') :T8 y ρ w ρ' w' :=
  ⟨E,W.mono fun _ _ q=>.inl q,fun v u h=>h.mono E W,fun ds h=>h.mono E W⟩
theorem T8.refl(y:Option YI)(ρ:aC)(w:World) :T8 y ρ w ρ w:=.of (oj.refl _ _) (ki.refl _ _)
theorem T8.trans{y:Option YI}{ρ ρ1 ρ2:aC}{w w1 w2:World}(h:T8 y ρ w ρ1 w1)(k:T8 y ρ1 w1 ρ2 w2) :T8 y ρ w ρ2 w2 :=
  ⟨h.ext.trans k.ext h.wle.size,h.wle.trans k.wle (fun _ hx q=>api h.ext hx q),fun v u q=>k.vr v u (h.vr v u q),fun ds q=>k.marks ds (h.marks ds q)⟩
theorem T8.live{ρ ρ':aC}{w w':World}(h:T8 none ρ w ρ' w') :ki ρ.live w w':=h.wle.mono fun _ _ q=>aph.1 q
theorem dC.stp{ρ ρ':aC}{w w':World}(h:∀ v u,VR ρ w v u→VR ρ' w' v u) :∀ {l:List AV} {c:List Value},dC ρ w l c→dC ρ' w' l c
  | _,_,.nil=>.nil
  | _,_,.cons v u l c a t=>.cons v u l c (h v u a) (dC.stp h t)
theorem mL.soft{ρ:aC}{w:World}{L:Nat}{r:Loop}(hL:w.heap[L]? = some (.loop r)){o:Obj} :∀ {ds:List Deferred},mL ρ w ds→mL ρ (w.putObj L o) ds
  | [],h=>by simpa [mL] using h
  | d::ds,⟨⟨D,h1,hb,h2,h3,h4,h5⟩,h⟩=>⟨⟨D,h1,hb,by simpa using h2,h3,(World.putObj_heap_other (fun e=>by rw [e,hL] at h4;cases h4)).trans h4,h5⟩,mL.soft hL h⟩
def aen(ρ:aC)(w:World)(L:Nat)(y:YI)(s:LoopState)(pe:Option Code) :Prop :=
  ∃ rec:Loop,w.heap[L]? = some (.loop rec)∧rec.state=s∧rec.pending=pe∧rec.params=y.ps∧rec.assign=y.assign∧rec.body=y.body∧dC ρ w y.saved rec.tmps.toList
def zG:Option aU→Option (LoopState×Option Code)
  | some (.vs [])=>some (.ready,none)
  | some (.fl [])=>some (.done,some .ret)
  | some (.rows id 0 _)=>some (.done,some (.exit id))
  | _=>none
def sW(y:Option YI)(ρ:aC)(w:World)(h:cD)(m:Nat) :Prop :=
  match y with
  | none=>True
  | some y=>¬ ρ.ok y.b∧y.b<m∧∃ L,ρ.pin.2=some (L,y.b)∧¬ ρ.live L∧∃ s pe,zG (bD h y.b)=some (s,pe)∧aen ρ w L y s pe
theorem aen.mono{ρ ρ':aC}{w w':World}{L:Nat}{y:YI}{s:LoopState}{pe:Option Code}(h:aen ρ w L y s pe)(E:oj ρ ρ' w)(W:ki ρ.live w w')(hL : ¬ ρ.live L) :aen ρ' w' L y s pe:=by
  obtain ⟨rec,h1,h2,h3,h4,h5,h6,h7⟩:=h
  exact ⟨rec,(W.same L (Array.getElem?_eq_some_iff.1 h1).1 hL).trans h1,h2,h3,h4,h5,h6,h7.mono E W⟩
theorem sW.mono{y:Option YI}{ρ ρ':aC}{w w':World}{h h':cD}{m:Nat}(hp:sW y ρ w h m)(E:oj ρ ρ' w)(W:ki ρ.live w w')(hb:∀ yi,y=some yi→ρ'.ok yi.b→ρ.ok yi.b∨m≤yi.b)(hg:∀ yi,y=some yi→bD h' yi.b=bD h yi.b) :sW y ρ' w' h' m:=by
  cases y with
  | none=>trivial
  | some y =>
    obtain ⟨h1,h2,L,h3,h4,s,pe,h5,h6⟩:=hp
    have hlt:L<w.heap.size:=by obtain ⟨rec,q,_⟩:=h6;exact (Array.getElem?_eq_some_iff.1 q).1
    refine ⟨fun q=>(hb y rfl q).elim h1 (by omega),h2,L,by rw [E.pin];exact h3,fun q=>h4 (E.new L hlt q),s,pe,by rw [hg y rfl];exact h5,h6.mono E W h4⟩
theorem sW.le{y:Option YI}{ρ:aC}{w:World}{h:cD}{m m':Nat}(hp:sW y ρ w h m)(hm:m≤m') :sW y ρ w h m':=by
  cases y with
  | none=>trivial
  | some y=>obtain ⟨h1,h2,h3⟩:=hp;exact ⟨h1,Nat.lt_of_lt_of_le h2 hm,h3⟩
abbrev alS:=List AV→cD→Nat→fC→Option (AV×cD×Nat×List Bool×fC)
def ah9(P:Program)(y:Option YI)(yr:alS) :Prop :=
  ∀ args h nx p v h' nx' obs p',yr args h nx p=some (v,h',nx',obs,p')→aQ obs→∃ yi,y=some yi∧∀ (ρ:aC) (w:World) (us:Array Value) (m:Nat),HR ρ w h nx→ρ.pin.1≤w.heap.size→sW y ρ w h m→m≤nx→dC ρ w args us.toList →
    ∀ (L:Nat),ρ.pin.2=some (L,yi.b)→∃ rec:Loop,w.heap[L]? = some (.loop rec)∧us.size=rec.params.size∧∀ (ro:Option Nat) (nn:Nat) (R:Ending→World→Prop),
      (∀ ρ' w' u,T8 y ρ w ρ' w'→HR ρ' w' h' nx'→sW y ρ' w' h' m→VR ρ' w' v u→(∀ b,ρ'.ok b→ρ.ok b∨nx≤b)→nx≤nx'→R (.returned u) w') →
      RoundIn (FW ro) nn P L rec.fn ((rec.params.zip us).foldl (fun tmps (t,a)=>tmps.setIfInBounds t a) rec.tmps) rec.assign rec.body w R
def akI(ops:Array Oper)(o:Oper)(T:List AV) :Option (List AV) :=
  match o.op with
  | .call { callee:=.value f,args,.. } =>
    match evA T f with
    | .yld _=>match ER ops o T with
      | some true=>some (args.toList.map (evA T))
      | _=>none
    | _=>none
  | _=>none
def Az(y:Option YI)(s:List (Nat×Option aU)) :Bool :=
  match y with
  | none=>true
  | some y=>!(yv (s.map Prod.fst) y.b)
theorem MI{y:Option YI}{s:List (Nat×Option aU)}(h:Az y s=true)(hp:cD) :∀ yi,y=some yi→bD (dy s hp) yi.b=bD hp yi.b:=by
  intro yi e
  subst e
  simp only [Az,Bool.not_eq_true'] at h
  have key:∀ (s:List (Nat×Option aU)) (hp:cD),yv (s.map Prod.fst) yi.b=false→bD (dy s hp) yi.b=bD hp yi.b:=by
    intro s
    induction s with
    | nil=>intro hp _;rfl
    | cons x s ih =>
      intro hp h
      obtain ⟨c,d⟩:=x
      simp only [List.map_cons,yv] at h
      cases e:Nat.beq c yi.b with
      | true=>rw [e] at h;cases h
      | false =>
        rw [e] at h
        simp only [cond_false] at h
        have hne : ¬ c=yi.b:=fun q=>by rw [q,sN] at e;cases e
        cases d with
        | some d=>simp only [dy];rw [ih _ h,dx,if_neg hne]
        | none=>simp only [dy];rw [ih _ h,sa,if_neg hne]
  exact key s hp h
def OW(C:BO)(run:gr)(y:Option YI)(yr:alS)(ops:Array Oper)(n0:Nat) :Nat→List Oper→List AV→cD→Nat→fC→Option (List AV×cD×Nat×List Bool×fC)
  | _,[],T,h,nx,p=>some (T,h,nx,[],p)
  | i,o::l,T,h,nx,p =>
    match akI ops o T with
    | some args =>
      match yr args h nx p with
      | none=>none
      | some (v,h1,nx1,obs1,p1) =>
        match xv ops i v p1 with
        | none=>none
        | some (v,obs2,p2) =>
          match OW C run y yr ops n0 (i+1) l (Lj T o.dst v) h1 nx1 p2 with
          | none=>none
          | some (T',h',nx',obs',p'')=>some (T',h',nx',obs1++obs2++obs',p'')
    | none =>
      match MH C run ops n0 i o T h p with
      | none=>none
      | some (r,obs,p') =>
        bif Az y r.sets then
          match OW C run y yr ops n0 (i+1) l (Lj T o.dst r.v) (dy r.sets h) nx p' with
          | none=>none
          | some (T',h',nx',obs',p'')=>some (T',h',nx',obs++obs',p'')
        else none
structure UL (ρ:aC) (w:World) (n:Nat) (st:aM) (ρ':aC) (a':Act) (w':World):Prop where
  ext:oj ρ ρ' w
  wle:ki ρ.live w w'
  sr:SR ρ' st a' w'
  le:n≤st.next
  back:∀ b,ρ'.ok b→ρ.ok b∨n≤b
theorem UM{ρ:aC}{w:World}{ops:Array Oper}{i:Nat}{v v':AV}{u:Value}{p p':fC}{obs:List Bool}(hv:VR ρ w v u)(hg:xv ops i v p=some (v',obs,p'))(ho:aQ obs) :VR ρ w v' u:=by
  unfold xv at hg
  cases hgd:abR ops i with
  | false=>rw [hgd] at hg;simp only [cond_false,Option.some.injEq,Prod.mk.injEq] at hg;rw [←hg.1];exact hv
  | true =>
    rw [hgd] at hg
    simp only [cond_true,Option.map_eq_some_iff,Prod.mk.injEq] at hg
    obtain ⟨⟨b,ob,pp⟩,hd',rfl,rfl,rfl⟩:=hg
    rw [Li hv hd' ho]
    exact .bool _ _
theorem ET{C:BO}(hC:C.Ok){run:gr}(hrun:UG C.P run){y:Option YI}{yr:alS}(hyr:ah9 C.P y yr){ops:Array Oper}{n0:Nat}{ro:Option Nat}{nn:Nat}{Q:Exit→Act→World→Prop} :∀ (l:List Oper) (i:Nat) {T T':List AV} {h h':cD} {nx nx':Nat} {p p':fC} {obs:List Bool},
    (∀ j,l[j]? = ops[i+j]?)→OW C run y yr ops n0 i l T h nx p=some (T',h',nx',obs,p')→aQ obs→∀ {ρ:aC} {w:World},HR ρ w h nx→n0+ops.size*xu≤nx→sW y ρ w h n0→ρ.pin.1≤w.heap.size→(∀ b,ρ.ok b→b<n0+i*xu∨n0+ops.size*xu≤b)→∀ {a:Act},dC ρ w T a.tmps.toList →
    (∀ ρ' w' a',T8 y ρ w ρ' w'→HR ρ' w' h' nx'→nx≤nx'→sW y ρ' w' h' n0→a'.defers=a.defers→dC ρ' w' T' a'.tmps.toList→(∀ b,ρ'.ok b→ρ.ok b∨n0≤b)→Q .normal a' w')→wpOpsIn (FW ro) nn C.P ops Q (List.range' i l.length) a w
  | [],i,T,T',h,h',nx,nx',p,p',obs,hl,hr,ho,ρ,w,hh,hnx,hpin,hpn,hok,a,hT,hQ=>by
    simp only [OW,Option.some.injEq,Prod.mk.injEq] at hr;obtain ⟨rfl,rfl,rfl,rfl,rfl⟩:=hr
    simp only [List.length_nil,List.range'_zero,wpOpsIn]
    exact hQ ρ w a (T8.refl _ _ _) hh (Nat.le_refl _) hpin rfl hT (fun b q=>.inl q)
  | o::l,i,T,T',h,h',nx,nx',p,p',obs,hl,hr,ho,ρ,w,hh,hnx,hpin,hpn,hok,a,hT,hQ=>by
    have hi:ops[i]? = some o:=by have:=hl 0;simpa using this.symm
    have hlt:i<ops.size:=(Array.getElem?_eq_some_iff.1 hi).1
    simp only [List.length_cons,List.range'_succ]
    rw [wpOpsIn_cons]
    have hS:i*xu+xu≤ops.size*xu:=by rw [←Nat.succ_mul];exact Nat.mul_le_mul_right _ hlt
    have hi1:(i+1)*xu=i*xu+xu:=Nat.succ_mul _ _
    have hl':∀ j,l[j]? = ops[i+1+j]?:=fun j=>by have:=hl (j+1);rw [show i+1+j=i+(j+1) from by omega];simpa using this
    simp only [OW] at hr
    split at hr
    · rename_i args hya
      split at hr
      case h_1=>cases hr
      rename_i v h1 nx1 obs1 p1 hy1
      split at hr
      case h_1=>cases hr
      rename_i v2 obs2 p2 hg
      split at hr
      case h_1=>cases hr
      rename_i T2 h2 nx2 obs3 p3 h3
      simp only [Option.some.injEq,Prod.mk.injEq] at hr;obtain ⟨rfl,rfl,rfl,rfl,rfl⟩:=hr
      rw [bI,bI] at ho
      unfold akI at hya
      split at hya
      case h_2=>cases hya
      rename_i f avs ats hop
      split at hya
      case h_2=>cases hya
      rename_i b hef
      split at hya
      case h_2=>cases hya
      rename_i hw
      simp only [Option.some.injEq] at hya;subst hya
      have hf:=HF hh.rom hT f
      rw [hef] at hf
      generalize hgf:a.eval f=gf at hf
      cases hf with | yld _ L hL =>
      obtain ⟨yi,rfl,hyr1⟩:=hyr _ _ _ _ _ _ _ _ _ hy1 ho.1.1
      have hb:b=yi.b:=by
        obtain ⟨_,_,L',q,_⟩:=hpin
        rw [hL] at q;cases q;rfl
      subst hb
      obtain ⟨rec,hrec,hsz,hround⟩:=hyr1 ρ w (avs.map a.eval) n0 hh hpn hpin (by omega) (by rw [Array.toList_map];exact dC.map (fun x=>HF hh.rom hT x) avs.toList) L hL
      unfold wpOpIn
      simp only [hi]
      rw [ES hT hw]
      simp only [if_true]
      refine ⟨fun _ _=>trivial,?_⟩
      have hex:(o.semAt (FW ro).round a.eval).run C.P w=.ok (.round L rec.fn ((rec.params.zip (avs.map a.eval)).foldl (fun tmps (t,a)=>tmps.setIfInBounds t a) rec.tmps) rec.assign rec.body) w:=by
        rw [Oper.semAt_eq _ _ _ (fun c e=>by rw [hop] at e;cases e)]
        have:=run_yield (P:=C.P) (args:=avs.map a.eval) hrec hsz
        simp only [execOp,hop,resolve,hgf,Deferred.ofValue]
        simpa [invoke,Sem.run_bind,Result.andThen] using this
      rw [hex]
      refine ⟨T6,hround ro _ _ fun ρ' w' u S hh' hpin' hv hok' hle=>?_⟩
      refine ET hC hrun hyr l (i+1) hl' h3 ho.2 hh' (by omega) hpin' (by rw [S.ext.pin];exact Nat.le_trans hpn S.wle.size) (fun b q=>?_) (abS (dC.stp S.vr hT) (UM hv hg ho.1.2) o.dst) ?_
      · rcases hok' b q with q | q
        · rcases hok b q with q | q
          · exact .inl (by omega)
          · exact .inr q
        · exact .inr (by omega)
      · intro ρ'' w'' a'' S' hh'' hle' hpin'' hd'' hT'' hb''
        refine hQ ρ'' w'' a'' (S.trans S') hh'' (by omega) hpin'' (hd''.trans (by cases hdst:o.dst<;>simp [Act.put])) hT'' (fun b q=>?_)
        rcases hb'' b q with q | q
        · rcases hok' b q with q | q
          · exact .inl q
          · exact .inr (by omega)
        · exact .inr q
    · split at hr
      case h_1=>cases hr
      rename_i r obs1 p1 h1
      cases hkp:Az y r.sets with
      | false=>rw [hkp] at hr;cases hr
      | true =>
      rw [hkp] at hr
      simp only [cond_true] at hr
      split at hr
      case h_1=>cases hr
      rename_i T2 h2 nx2 obs2 p2 h3
      simp only [Option.some.injEq,Prod.mk.injEq] at hr;obtain ⟨rfl,rfl,rfl,rfl,rfl⟩:=hr
      rw [bI] at ho
      refine Rf hC hrun hi h1 ho.1 hh (fun x h1 h2 q=>by have:=hok _ q;omega) (by omega) hT ?_
      intro ρ' w' a' E W hh' hd' hT' hok'
      have S:=T8.of (y:=y) E W
      refine ET hC hrun hyr l (i+1) hl' h3 ho.2 hh' hnx (hpin.mono E W (fun yi e q=>?_) (MI hkp h)) (by rw [E.pin];exact Nat.le_trans hpn W.size) (fun b q=>?_) hT' ?_
      · rcases hok' _ q with q | q
        · exact .inl q
        · exact .inr (by omega)
      · rcases hok' b q with q | q
        · rcases hok b q with q | q
          · exact .inl (by omega)
          · exact .inr q
        · exact .inl (by omega)
      intro ρ'' w'' a'' S' hh'' hle' hpin'' hd'' hT'' hb''
      exact hQ ρ'' w'' a'' (S.trans S') hh'' hle' hpin'' (hd''.trans hd') hT'' (fun b q=>by
        rcases hb'' b q with q | q
        · rcases hok' b q with q | q
          · exact .inl q
          · exact .inr (by omega)
        · exact .inr q)
theorem Jn{e e':Operand→AV}{l:List Operand}(h:∀ x∈l,e x=e' x) :l.map e=l.map e':=List.map_congr_left h
theorem abT{wr:Bool}{P:Program}{e e':Operand→AV}{op:Op}(h:∀ x∈op.operands,e x=e' x) :Au wr P e op=Au wr P e' op:=by
  unfold Au
  split
  all_goals simp only [Op.operands,Call.operands] at h
  case h_1=>rw [h _ (by simp)]
  case h_2=>rw [h _ (by simp)]
  case h_3=>rw [h _ (by simp),h _ (by simp),h _ (by simp)]
  case h_4=>rw [h _ (by simp)]
  case h_5=>rw [h _ (by simp),h _ (by simp)]
  case h_6=>rw [h _ (by simp)]
  case h_7=>rw [h _ (by simp)]
  case h_8=>rw [h _ (by simp)]
  case h_9 =>
    rename_i fn first caps
    rw [Jn (l:=first.toList) (fun x hx=>h x (by simp at hx;simp [hx])),Jn (l:=caps.toList) (fun x hx=>h x (by simp at hx;simp [hx]))]
  case h_10 =>
    rename_i t x lo hi
    rw [h x (by simp)]
    cases lo<;>cases hi<;>simp only [Option.map_none,Option.map_some]<;>first | rfl | (rw [h _ (by simp),h _ (by simp)]) | (rw [h _ (by simp)])
  case h_11 =>
    rename_i t x lo hi mx
    rw [h x (by simp),h mx (by simp)]
    cases lo<;>cases hi<;>simp only [Option.map_none,Option.map_some]<;>first | rfl | (rw [h _ (by simp),h _ (by simp)]) | (rw [h _ (by simp)])
  case h_12=>rw [h _ (by simp)]
  case h_13=>rw [h _ (by simp)]
  case h_14=>rw [h _ (by simp),h _ (by simp)]
  case h_15=>rw [h _ (by simp),h _ (by simp)]
  case h_16=>rw [h _ (by simp)]
  case h_17 =>
    rename_i xs ts
    split
    · rename_i x t hx ht
      have:xs = #[x]:=by rw [←hx]
      subst this
      rw [h x (by simp)]
    · rfl
  case h_18 =>
    rename_i xs ts
    split
    · rename_i x l hx
      have:xs=(x::l).toArray:=by rw [←hx]
      subst this
      rw [h x (by simp),Jn (l:=l) (fun y hy=>h y (by simp [hy]))]
    · rfl
  case h_19 =>
    rename_i xs ts
    split
    · rename_i x l hx
      have:xs=(x::l).toArray:=by rw [←hx]
      subst this
      rw [h x (by simp),Jn (l:=l) (fun y hy=>h y (by simp [hy]))]
    · rfl
  case h_20=>rfl
theorem aeo{P:Program}{g g':Nat→Option aU}{t:TypeId}{x:AV}{r:AV×List Bool×List Nat}(h:J6 P g t x=some r)(hg:∀ b∈r.2.2,g' b=g b) :J6 P g' t x=some r:=by
  unfold J6 at h ⊢
  simp only at h ⊢
  split at h
  · rename_i b w i j
    split at h
    · rename_i d hd
      simp only [Option.map_eq_some_iff] at h
      obtain ⟨r',h1,rfl⟩:=h
      have:g' b=some d:=by rw [hg b (by simp)];exact hd
      simp only [this,h1];rfl
    · cases h
  · exact h
  · cases h
theorem abU{P:Program}{g g':Nat→Option aU}{t:TypeId}{x v:AV}{r:Nat×aU×List Bool}(h:K9 P g t x v=some r)(hg:g' r.1=g r.1) :K9 P g' t x v=some r:=by
  unfold K9 at h ⊢
  split at h
  · rename_i b w i j l inf h1 h2
    split at h
    · rename_i d hd
      cases e:Nat.beq l.length inf.size with
      | false=>rw [e] at h;cases h
      | true =>
        rw [e] at h
        simp only [cond_true,Option.map_eq_some_iff] at h
        obtain ⟨r',h3,rfl⟩:=h
        have:g' b=some d:=by rw [hg];exact hd
        simp only [h1,this,e,cond_true,h3];rfl
    · cases h
  · cases h
theorem Lk{g g':Nat→Option aU}{x:AV}{r:Nat×Nat×aU×List Bool×List Nat}(h:aed g x=some r)(hg:∀ b∈r.2.2.2.2,g' b=g b) :aed g' x=some r:=by
  unfold aed at h ⊢
  split at h
  · rename_i b w es i len cap
    split at h
    · rename_i d hd
      simp only [Option.map_eq_some_iff] at h
      obtain ⟨r',h1,rfl⟩:=h
      have:g' b=some d:=by rw [hg b (by simp)];exact hd
      simp only [this,h1];rfl
    · cases h
  · exact h
  · cases h
theorem CJ{P:Program}{g g':Nat→Option aU}{nid:Nat}{e:TypeId}{inf:TypeInfo}{s:AV}{m es':Nat}{nb:aU}{obs:List Bool}{rs:List Nat}{r:List zE×List Nat}(h:EJ P g nid e inf s m es' nb obs rs=some r)(hg:∀ b∈r.2,g' b=g b) :
    EJ P g' nid e inf s m es' nb obs rs=some r∧∀ b∈rs,b∈r.2:=by
  unfold EJ at h ⊢
  split at h
  · refine ⟨h,?_⟩
    cases hes:Nat.beq es' inf.size with
    | false=>rw [hes] at h;cases h
    | true =>
      rw [hes] at h
      simp only [cond_true,Option.some.injEq] at h;subst h
      exact fun b hb=>hb
  · refine ⟨h,?_⟩
    cases hes:Nat.beq es' inf.size with
    | false=>rw [hes] at h;cases h
    | true =>
      rw [hes] at h
      simp only [cond_true,Option.some.injEq] at h;subst h
      exact fun b hb=>hb
  · rename_i b w es len cap
    split at h
    case h_2=>cases h
    rename_i d hd
    cases hes:(Nat.beq es inf.size&&Nat.beq es' es) with
    | false=>rw [hes] at h;cases h
    | true =>
    rw [hes] at h
    simp only [cond_true] at h
    split at h
    case h_2=>cases h
    rename_i old obs' hsub
    simp only [Option.map_eq_some_iff] at h
    obtain ⟨d',happ,rfl⟩:=h
    have h2:g' b=some d:=by rw [hg b (by simp)];exact hd
    refine ⟨?_,fun b hb=>by simp [hb]⟩
    simp only [h2,cond_true,hsub,happ,hes];rfl
  · cases h
theorem Yz{P:Program}{g g':Nat→Option aU}{nid:Nat}{t t':TypeId}{s x:AV}{r:List zE×List Nat}(h:Jk P g nid t t' s x=some r)(hg:∀ b∈r.2,g' b=g b) :Jk P g' nid t t' s x=some r:=by
  unfold Jk at h ⊢
  split at h
  case h_2=>cases h
  rename_i e y ht ht'
  split at h
  case h_2=>cases h
  rename_i inf he hi
  split at h
  case h_2=>cases h
  rename_i z hz
  cases hzs:(Nat.beq z.cells.size inf.size&&Nat.beq inf.size 1) with
  | false=>rw [hzs] at h;cases h
  | true =>
  rw [hzs] at h
  simp only [cond_true] at h ⊢
  exact (CJ h hg).1
theorem YA{P:Program}{g g':Nat→Option aU}{nid:Nat}{t:TypeId}{s x:AV}{r:List zE×List Nat}(h:Jj P g nid t s x=some r)(hg:∀ b∈r.2,g' b=g b) :Jj P g' nid t s x=some r:=by
  unfold Jj at h ⊢
  split at h
  case h_2=>cases h
  rename_i e ht
  split at h
  case h_2=>cases h
  rename_i inf hi
  split at h
  case h_2=>cases h
  rename_i z hz
  cases hzs:Nat.beq z.cells.size inf.size with
  | false=>rw [hzs] at h;cases h
  | true =>
  rw [hzs] at h
  simp only [cond_true] at h ⊢
  split at h
  · exact h
  · exact h
  · exact h
  · exact h
  · split at h
    case h_2=>cases h
    rename_i m es nb obs rs hs
    have q:∀ b∈rs,b∈r.2:=(CJ (g':=g) h (fun _ _=>rfl)).2
    have:=Lk (g':=g') hs (fun b hb=>hg b (q b hb))
    simp only [this]
    exact (CJ h hg).1
mutual
theorem EU {σ:Nat→Option Nat} {g g':Nat→Option aU}:∀ (n:Nat) (v:AV),(∀ b∈(OS σ g n v).2,g' b=g b)→OS σ g' n v=OS σ g n v
  | 0,_,_=>rfl
  | n + 1, v, h => by
    cases v<;>simp only [OS] at h ⊢
    · rename_i b w i j
      cases hs:σ b with
      | some c=>rfl
      | none =>
      rw [hs] at h
      simp only at h ⊢
      have hb:g' b=g b:=by
        cases q:g b with
        | none=>rw [q] at h;have:=h b (by simp);rw [this,q]
        | some d=>rw [q] at h;have:=h b (by simp);rw [this,q]
      rw [hb]
      cases q:g b with
      | none=>rfl
      | some d =>
        rw [q] at h
        have:=UN (σ:=σ) (g:=g) (g':=g') n d (fun b' hb'=>h b' (by simp only [List.mem_cons];exact .inr hb'))
        simp only [this]
    · rename_i b w es i len cap
      cases hs:σ b with
      | some c=>rfl
      | none =>
      rw [hs] at h
      simp only at h ⊢
      have hb:g' b=g b:=by
        cases q:g b with
        | none=>rw [q] at h;have:=h b (by simp);rw [this,q]
        | some d=>rw [q] at h;have:=h b (by simp);rw [this,q]
      rw [hb]
      cases q:g b with
      | none=>rfl
      | some d =>
        rw [q] at h
        have:=UN (σ:=σ) (g:=g) (g':=g') n d (fun b' hb'=>h b' (by simp only [List.mem_cons];exact .inr hb'))
        simp only [this]
    · rename_i f l1 l2
      rw [vz n l1 (fun b hb=>h b (by simp [hb])),vz n l2 (fun b hb=>h b (by simp [hb]))]
    · rename_i l;rw [vz n l h]
    · rename_i l;rw [vz n l h]
    · rename_i t v;rw [EU n v h]
theorem vz {σ:Nat→Option Nat} {g g':Nat→Option aU}:∀ (n:Nat) (l:List AV),(∀ b∈(MA σ g n l).2,g' b=g b)→MA σ g' n l=MA σ g n l
  | 0,_,_=>rfl
  | n+1,[],_=>rfl
  | n+1,v::l,h=>by
    simp only [MA] at h ⊢
    rw [EU n v (fun b hb=>h b (by simp [hb])),vz n l (fun b hb=>h b (by simp [hb]))]
theorem UN {σ:Nat→Option Nat} {g g':Nat→Option aU}:∀ (n:Nat) (d:aU),(∀ b∈(Ld σ g n d).2,g' b=g b)→Ld σ g' n d=Ld σ g n d
  | 0,_,_=>rfl
  | n+1,d,h=>by
    cases d<;>simp only [Ld] at h ⊢
    rename_i l;rw [vz n l h]
end
theorem sX{σ:Nat→Option Nat}{g g':Nat→Option aU} :∀ (m:List Bool) (l:List AV),(∀ b∈(mO σ g m l).2,g' b=g b)→mO σ g' m l=mO σ g m l
  | m,[],_=>by cases m<;>rfl
  | true::m,v::l,h=>by
    simp only [mO] at h ⊢
    rw [sX m l h]
  | false::m,v::l,h=>by
    simp only [mO] at h ⊢
    rw [EU _ v (fun b hb=>h b (by simp [hb])),sX m l (fun b hb=>h b (by simp [hb]))]
  | [],v::l,h=>by
    simp only [mO] at h ⊢
    rw [EU _ v (fun b hb=>h b (by simp [hb])),sX [] l (fun b hb=>h b (by simp [hb]))]
theorem OX{g:Nat→Option aU} :∀ (n:Nat) (t acc:List Nat),∀ b∈acc,b∈qm g n t acc
  | 0,t,acc,b,h=>h
  | n+1,[],acc,b,h=>h
  | n+1,x::t,acc,b,h=>by
    simp only [qm]
    split
    · exact OX n _ _ b h
    · exact OX n _ _ b (by simp [h])
theorem HP{g g':Nat→Option aU} :∀ (n:Nat) (t acc:List Nat),(∀ b∈qm g n t acc,g' b=g b)→qm g' n t acc=qm g n t acc
  | 0,t,acc,_=>rfl
  | n+1,[],acc,_=>rfl
  | n+1,x::t,acc,h=>by
    simp only [qm] at h ⊢
    split
    · rename_i e;rw [e] at h;exact HP n _ _ h
    · rename_i e
      rw [e] at h
      simp only at h
      have hx:g' x=g x:=h x (OX n _ _ x (by simp))
      rw [hx]
      exact HP n _ _ h
theorem MJ{σ:Nat→Option Nat}{g g':Nat→Option aU} :∀ (l:List Nat),(∀ b∈l,g' b=g b)→yu σ g' l=yu σ g l
  | [],_=>rfl
  | b::l,h=>by simp only [yu];rw [h b (by simp),MJ l (fun x hx=>h x (by simp [hx]))]
theorem HQ{g g':Nat→Option aU}{nid:Nat} :∀ (l:List Nat),(∀ b∈l,g' b=g b)→sU g' nid l=sU g nid l
  | [],_=>rfl
  | b::l,h=>by simp only [sU];rw [h b (by simp),HQ l (fun x hx=>h x (by simp [hx]))]
theorem aep{C:BO}{run:gr}{g g':Nat→Option aU}{nid:Nat}{p:fC}{fid:FuncId}{vals:List AV}{r:OpR}(h:UH C run g nid p fid vals=some r)(hg:∀ b∈r.reads,g' b=g b) :UH C run g' nid p fid vals=some r:=by
  have hreads:r.reads=qm g kw (kL (sT (C.mode fid).mask vals)) []++(mO (oC (qm g kw (kL (sT (C.mode fid).mask vals)) []) 0) g (C.mode fid).mask vals).2:=by
    unfold UH at h
    simp only at h
    generalize (CG (qm g kw (kL (sT (C.mode fid).mask vals)) [])&&sU g nid (qm g kw (kL (sT (C.mode fid).mask vals)) []))=c at h
    cases c with
    | false=>cases h
    | true =>
      simp only [cond_true] at h
      split at h
      case h_2=>cases h
      rename_i r' obs p' hl
      cases hle:Nat.ble r'.own.length ((qm g kw (kL (sT (C.mode fid).mask vals)) []).length+xu) with
      | false=>rw [hle] at h;cases h
      | true=>rw [hle] at h;simp only [cond_true,Option.some.injEq] at h;rw [←h]
  rw [hreads] at hg
  have e1:=HP (g:=g) (g':=g') kw (kL (sT (C.mode fid).mask vals)) [] (fun b hb=>hg b (by simp [hb]))
  have e2:=sX (σ:=oC (qm g kw (kL (sT (C.mode fid).mask vals)) []) 0) (g:=g) (g':=g') (C.mode fid).mask vals (fun b hb=>hg b (by simp [hb]))
  have e3:=MJ (σ:=oC (qm g kw (kL (sT (C.mode fid).mask vals)) []) 0) (g:=g) (g':=g') (qm g kw (kL (sT (C.mode fid).mask vals)) []) (fun b hb=>hg b (by simp [hb]))
  have e4:=HQ (nid:=nid) (g:=g) (g':=g') (qm g kw (kL (sT (C.mode fid).mask vals)) []) (fun b hb=>hg b (by simp [hb]))
  unfold UH at h ⊢
  simp only at h ⊢
  rw [e1,e2,e3,e4]
  exact h
theorem aeq{P:Program}{g g':Nat→Option aU}{t:TypeId}{s x:AV}{r:Nat×Nat×aU×List Bool×List Nat}(h:aad P g t s x=some r)(hg:∀ b∈r.2.2.2.2,g' b=g b) :aad P g' t s x=some r:=by
  unfold aad at h ⊢
  split at h
  case h_2=>cases h
  rename_i e b w es i len cap ht
  split at h
  case h_2=>cases h
  rename_i inf blk m es' nb obs rs hi hb hsrc
  have hr:r.2.2.2.2=b::rs:=by
    cases h1:Nat.beq inf.size 1&&Nat.beq es' 1 with
    | false=>rw [h1] at h;cases h
    | true =>
      rw [h1] at h
      simp only [cond_true,Option.map_eq_some_iff] at h
      obtain ⟨_,_,rfl⟩:=h
      rfl
  have q1:g' b=some blk:=by rw [hg b (by rw [hr];simp)];exact hb
  have q2:=Lk hsrc (g':=g') (fun c hc=>hg c (by rw [hr];exact List.mem_cons_of_mem _ hc))
  rw [hi,q1,q2]
  exact h
theorem aer{P:Program}{g g':Nat→Option aU}{t:TypeId}{s x:AV}{r:Nat×Nat×aU×List Bool×List Nat}(h:aae P g t s x=some r)(hg:∀ b∈r.2.2.2.2,g' b=g b) :aae P g' t s x=some r:=by
  unfold aae at h ⊢
  cases hv:anj x with
  | false=>rw [hv] at h;exact aeq h hg
  | true =>
    rw [hv] at h
    simp only at h ⊢
    split at h
    case h_2=>cases h
    rename_i e b w es i len cap ht
    split at h
    case h_2=>cases h
    rename_i inf blk hi hb
    cases h
    have:=hg b (by simp)
    simp only [hi,this,hb]
theorem aia{P:Program}{g g':Nat→Option aU}{s d:TypeId}{x:AV}{r:ByteArray×List Bool×List Nat}(h:alN P g s d x=some r)(hg:∀ b∈r.2.2,g' b=g b) :alN P g' s d x=some r:=by
  unfold alN at h ⊢
  split at h
  case h_2=>cases h
  rename_i e hs hd
  split at h
  case h_2=>cases h
  rename_i m es k ys obs rs he hsrc
  have hr:r.2.2=rs:=by
    cases h1:Nat.beq es 1&&dk k .u8 with
    | false=>rw [h1] at h;cases h
    | true =>
      rw [h1] at h
      simp only [cond_true,Option.some.injEq] at h
      rw [←h]
  have q2:=Lk hsrc (g':=g') (fun c hc=>hg c (by rw [hr];exact hc))
  rw [he,q2]
  exact h
theorem alT{C:BO}{run:gr}{e e':Operand→AV}{g g':Nat→Option aU}{nid:Nat}{p:fC}{op:Op}{r:OpR}(h:opM C run e g nid p op=some r)(he:∀ x∈op.operands,e' x=e x)(hg:∀ b∈r.reads,g' b=g b) :
    opM C run e' g' nid p op=some r:=by
  unfold opM at h ⊢
  rw [abT he]
  split at h
  · exact h
  · rename_i hp
    clear hp
    split at h
    all_goals simp only [Op.operands,Call.operands] at he
    · rename_i t x
      simp only [Option.map_eq_some_iff] at h ⊢
      obtain ⟨r',h1,rfl⟩:=h
      exact ⟨r',by rw [he x (by simp)];exact aeo h1 hg,rfl⟩
    · rename_i t d x
      simp only [Option.map_eq_some_iff] at h ⊢
      obtain ⟨r',h1,rfl⟩:=h
      exact ⟨r',by rw [he x (by simp)];exact aia h1 hg,rfl⟩
    · rename_i t x lo hi
      have h1:lo.map e'=lo.map e:=by
        cases lo with
        | none=>rfl
        | some y=>simp only [Option.map_some];rw [he y (by simp)]
      have h2:hi.map e'=hi.map e:=by
        cases hi with
        | none=>rfl
        | some y=>simp only [Option.map_some];rw [he y (by simp)]
      simp only [Option.map_eq_some_iff] at h ⊢
      obtain ⟨r',q,rfl⟩:=h
      exact ⟨r',by rw [he x (by simp),h1,h2];exact abM q hg,rfl⟩
    · rename_i t x v
      simp only [Option.map_eq_some_iff] at h ⊢
      obtain ⟨r',h1,rfl⟩:=h
      exact ⟨r',by rw [he x (by simp),he v (by simp)];exact abU h1 (hg _ (by simp)),rfl⟩
    · rename_i t x k cok;rw [he x (by simp),he k (by simp)];exact h
    · exact h
    · rename_i t x;rw [he x (by simp)];exact h
    · rename_i t l c;rw [he l (by simp),he c (by simp)];exact h
    · rename_i t parts
      have:(parts.toList.map fun x=>(x.1,e' x.2))=(parts.toList.map fun x=>(x.1,e x.2)):=List.map_congr_left fun x hx=>by rw [he x.2 (by simp;exact ⟨x.1,by simpa using hx⟩)]
      rw [this];exact h
    · rename_i t len parts
      have:(parts.toList.map fun x=>(x.1,e' x.2))=(parts.toList.map fun x=>(x.1,e x.2)):=List.map_congr_left fun x hx=>by rw [he x.2 (by simp;exact ⟨x.1,by simpa using hx⟩)]
      rw [this];exact h
    · rename_i args ats
      split at h
      case h_2=>cases h
      rename_i s x t t' e1 e2
      have ea:args = #[s,x]:=by rw [←e1]
      subst ea
      cases ht:Nat.beq t t' with
      | false =>
        rw [ht] at h
        simp only [cond_false] at h ⊢
        rw [he s (by simp),he x (by simp)]
        split at h
        case h_2=>cases h
        rename_i alts rs ha
        simp only [Option.map_eq_some_iff] at h ⊢
        obtain ⟨r',h1,rfl⟩:=h
        have:=Yz (g':=g') ha hg
        simp only [this,Option.map_eq_some_iff]
        exact ⟨r',h1,rfl⟩
      | true =>
      rw [ht] at h
      simp only [cond_true] at h ⊢
      rw [he s (by simp),he x (by simp)]
      split at h
      case h_2=>cases h
      rename_i alts rs ha
      simp only [Option.map_eq_some_iff] at h ⊢
      obtain ⟨r',h1,rfl⟩:=h
      have:=YA (g':=g') ha hg
      simp only [this,Option.map_eq_some_iff]
      exact ⟨r',h1,rfl⟩
    · rename_i args ats
      split at h
      case h_2=>cases h
      rename_i s x t t' e1 e2
      have ea:args = #[s,x]:=by rw [←e1]
      subst ea
      rw [he s (by simp),he x (by simp)]
      simp only [Option.map_eq_some_iff] at h ⊢
      obtain ⟨r',h1,rfl⟩:=h
      exact ⟨r',aer h1 hg,rfl⟩
    · rename_i f args ats
      have hf:e' f=e f:=he f (by simp)
      have hargs:args.toList.map e'=args.toList.map e:=List.map_congr_left fun x hx=>he x (by simp at hx;simp [hx])
      split at h
      case h_2=>cases h
      rename_i fid l hca
      have:HN e' f args=some (fid,l):=by
        unfold HN at hca ⊢
        rw [hf,hargs];exact hca
      simp only [this]
      split at h
      · exact h
      · exact aep h hg
    · cases h
def aib(l:List Operand) :List Nat:=l.filterMap fun | .tmp t=>some t | _=>none
def qD(ops:Array Oper)(o:Oper) :List Nat :=
  (match o.dst with | some d=>[d] | none=>[])++(aib o.op.operands.toList++(match o.guard with | some (j,_)=>(match Jm ops j with | some d=>[d] | none=>[]) | none=>[]))
def mh(s:List (Nat×Option aU)) :List Nat:=s.map Prod.fst
def wP(ms:List Nat)(o:Oper) :Nat:=o.after.toList.foldl (fun m e=>bif Region.binds .any e then m ||| (2^e.on ||| ms.getD e.on 0) else m) 0
def aic(x:Nat) :List Nat→Bool
  | []=>false
  | y::l=>Nat.beq x y||aic x l
def Ll:List Nat→List Nat→Bool
  | [],_=>true
  | x::l,m=>!aic x m&&Ll l m
theorem UO{x:Nat} :∀ {l:List Nat},aic x l=true↔x∈l
  | []=>by simp [aic]
  | y::l=>by simp [aic,UO (l:=l)]
theorem Jo{l m:List Nat}(h:Ll l m=true) :∀ x,x∈l→x∈m→False:=by
  induction l with
  | nil=>intro x hx;cases hx
  | cons y l ih =>
    simp only [Ll,Bool.and_eq_true,Bool.not_eq_true'] at h
    intro x hx hm
    rcases List.mem_cons.1 hx with rfl | hx
    · have:=UO.2 hm;rw [this] at h;cases h.1
    · exact ih h.2 x hx hm
def sY(ops:Array Oper)(o:Oper)(r:wO)(o':Oper)(r':wO) :Bool :=
  Ll o.dst.toList (qD ops o')&&(Ll o'.dst.toList (qD ops o)&&(Ll (mh r.sets) (r'.reads++mh r'.sets)&&Ll (mh r'.sets) (r.reads++mh r.sets)))
def sZ(ops:Array Oper)(mask:Nat)(o':Oper)(r':wO) :Nat→List (Oper×wO)→Bool
  | _,[]=>true
  | i,x::l=>(mask.testBit i||sY ops x.1 x.2 o' r')&&sZ ops mask o' r' (i+1) l
def Lm(ops:Array Oper) :List (Oper×wO)→List Nat→List (Oper×wO)→Bool
  | _,_,[]=>true
  | pre,ms,x::l =>
    x.1.after.toList.all (fun e=>!Region.binds .any e||Nat.blt e.on pre.length) &&
    (sZ ops (wP ms x.1) x.1 x.2 0 pre&&Lm ops (pre++[x]) (ms++[wP ms x.1]) l)
def sD(L:Nat→Bool) :Nat→List (Oper×wO)→List AV×cD→List AV×cD
  | _,[],s=>s
  | i,x::l,s=>sD L (i+1) l (bif L i then (Lj s.1 x.1.dst x.2.v,dy x.2.sets s.2) else s)
theorem MK(T:List AV)(d:Option Nat)(v:AV)(t:Nat) :(Lj T d v)[t]? = if d=some t then (T[t]?).map (fun _=>v) else T[t]?:=by
  cases d with
  | none=>simp [Lj]
  | some d =>
    simp only [Lj,Je,Option.some.injEq]
    rw [List.getElem?_set]
    by_cases h:d=t
    · subst h
      simp only [if_true]
      by_cases hl:d<T.length
      · simp [hl]
      · simp [hl]
    · simp [h]
theorem wQ{h h':cD}{b:Nat} :∀ (s:List (Nat×Option aU)) {h h':cD},bD h b=bD h' b→bD (dy s h) b=bD (dy s h') b
  | [],_,_,e=>e
  | (c,some d)::s,h,h',e=>by
    simp only [dy]
    exact wQ (h:=h) (h':=h') s (by rw [dx,dx,e])
  | (c,none)::s,h,h',e=>by
    simp only [dy]
    exact wQ (h:=h) (h':=h') s (by rw [sa,sa,e])
theorem wR{b:Nat} :∀ (s:List (Nat×Option aU)) {h:cD},b ∉ mh s→bD (dy s h) b=bD h b
  | [],_,_=>rfl
  | (c,some d)::s,h,hb=>by
    simp only [mh,List.map_cons,List.mem_cons,not_or] at hb
    simp only [dy]
    rw [wR s hb.2,dx,if_neg (fun e=>hb.1 e.symm)]
  | (c,none)::s,h,hb=>by
    simp only [mh,List.map_cons,List.mem_cons,not_or] at hb
    simp only [dy]
    rw [wR s hb.2,sa,if_neg (fun e=>hb.1 e.symm)]
theorem abV{L L':Nat→Bool}{t:Nat} :∀ (l:List (Oper×wO)) (i:Nat) {s s':List AV×cD},(∀ k x,l[k]? = some x→x.1.dst=some t→L (i+k)=L' (i+k))→s.1[t]? = s'.1[t]?→(sD L i l s).1[t]? = (sD L' i l s').1[t]?
  | [],_,_,_,_,e=>e
  | x::l,i,s,s',h,e=>by
    simp only [sD]
    refine abV l (i+1) (fun k y hy hd=>by have:=h (k+1) y (by simpa using hy) hd;rw [show i+1+k=i+(k+1) from by omega];exact this) ?_
    by_cases hd:x.1.dst=some t
    · have:=h 0 x (by simp) hd
      simp only [Nat.add_zero] at this
      rw [this]
      cases L' i with
      | true=>simp only [cond_true,MK,hd,if_true,e]
      | false=>exact e
    · cases L i<;>cases L' i<;>simp only [cond_true,cond_false,MK,if_neg hd,e]
theorem abW{L L':Nat→Bool}{b:Nat} :∀ (l:List (Oper×wO)) (i:Nat) {s s':List AV×cD},(∀ k x,l[k]? = some x→b∈mh x.2.sets→L (i+k)=L' (i+k))→bD s.2 b=bD s'.2 b→bD (sD L i l s).2 b=bD (sD L' i l s').2 b
  | [],_,_,_,_,e=>e
  | x::l,i,s,s',h,e=>by
    simp only [sD]
    refine abW l (i+1) (fun k y hy hd=>by have:=h (k+1) y (by simpa using hy) hd;rw [show i+1+k=i+(k+1) from by omega];exact this) ?_
    by_cases hd:b∈mh x.2.sets
    · have:=h 0 x (by simp) hd
      simp only [Nat.add_zero] at this
      rw [this]
      cases L' i with
      | true=>simp only [cond_true];exact wQ (h:=s.2) (h':=s'.2) _ e
      | false=>exact e
    · cases L i<;>cases L' i<;>simp only [cond_true,cond_false,wR _ hd,e]
def dL:List (Oper×wO)→List AV×cD→List AV×cD
  | [],s=>s
  | x::l,s=>dL l (Lj s.1 x.1.dst x.2.v,dy x.2.sets s.2)
theorem UP(l m:List (Oper×wO))(s:List AV×cD) :dL (l++m) s=dL m (dL l s):=by
  induction l generalizing s with
  | nil=>rfl
  | cons x l ih=>simp only [List.cons_append,dL,ih]
theorem T9:∀ (l:List (Oper×wO)) (i j:Nat) (s:List AV×cD),sD (fun k=>decide (k<i+j)) i l s=dL (l.take j) s
  | [],i,j,s=>by simp [sD,dL]
  | x::l,i,0,s=>by
    have:∀ (l:List (Oper×wO)) (i':Nat),i≤i'→∀ s,sD (fun k=>decide (k<i+0)) i' l s=s:=by
      intro l
      induction l with
      | nil=>intro _ _ s;rfl
      | cons y l ih =>
        intro i' hi s
        simp only [sD]
        have:decide (i'<i+0)=false:=by simp;omega
        rw [this];exact ih (i'+1) (by omega) s
    simp only [List.take_zero,dL]
    exact this _ i (Nat.le_refl _) s
  | x::l,i,j+1,s=>by
    simp only [sD,List.take_succ_cons,dL]
    have h1:decide (i<i+(j+1))=true:=by simp
    rw [h1]
    simp only [cond_true]
    have:=T9 l (i+1) j (Lj s.1 x.1.dst x.2.v,dy x.2.sets s.2)
    rw [show i+1+j=i+(j+1) from by omega] at this
    exact this
structure anp (ops:Array Oper) (l:List (Oper×wO)) (ms:List Nat):Prop where
  edge:∀ (j:Nat) (x:Oper×wO),l[j]? = some x→∀ e∈x.1.after,Region.binds .any e=true→e.on<j
  mask:∀ (j:Nat) (x:Oper×wO),l[j]? = some x→∃ m:Nat,ms[j]? = some m∧∀ i:Nat,m.testBit i=true→∃ e∈x.1.after,Region.binds .any e=true∧(e.on=i∨∃ m':Nat,ms[e.on]? = some m'∧m'.testBit i=true)
  pair:∀ (i j:Nat) (x y:Oper×wO),l[i]? = some x→l[j]? = some y→i<j→(∃ m:Nat,ms[j]? = some m∧m.testBit i=true)∨sY ops x.1 x.2 y.1 y.2=true
theorem UQ(ms:List Nat) :∀ (es:List Edge) (m0 i:Nat),(es.foldl (fun m e=>bif Region.binds .any e then m ||| (2^e.on ||| ms.getD e.on 0) else m) m0).testBit i=true →
    m0.testBit i=true∨∃ e∈es,Region.binds .any e=true∧(e.on=i∨(ms.getD e.on 0).testBit i=true)
  | [],m0,i,h=>.inl h
  | e::es,m0,i,h=>by
    simp only [List.foldl_cons] at h
    rcases UQ ms es _ i h with h | ⟨e',h1,h2,h3⟩
    · cases hb:Region.binds .any e with
      | false=>rw [hb] at h;exact .inl h
      | true =>
        rw [hb] at h
        simp only [cond_true,Nat.testBit_or,Bool.or_eq_true,Nat.testBit_two_pow,decide_eq_true_eq] at h
        rcases h with h | h | h
        · exact .inl h
        · exact .inr ⟨e,by simp,hb,.inl h⟩
        · exact .inr ⟨e,by simp,hb,.inr h⟩
    · exact .inr ⟨e',by simp [h1],h2,h3⟩
theorem Kd{ops:Array Oper}{mask:Nat}{o':Oper}{r':wO} :∀ {l:List (Oper×wO)} {i:Nat},sZ ops mask o' r' i l=true→∀ k x,l[k]? = some x→mask.testBit (i+k)=true∨sY ops x.1 x.2 o' r'=true
  | [],_,_,k,x,h=>by simp at h
  | y::l,i,h,0,x,hx=>by
    simp only [sZ,Bool.and_eq_true,Bool.or_eq_true] at h
    simp at hx;subst hx;simpa using h.1
  | y::l,i,h,k+1,x,hx=>by
    simp only [sZ,Bool.and_eq_true,Bool.or_eq_true] at h
    have:=Kd h.2 k x (by simpa using hx)
    rw [show i+1+k=i+(k+1) from by omega] at this;exact this
theorem Rh{ops:Array Oper} :∀ (l pre:List (Oper×wO)) (ms:List Nat),ms.length=pre.length→Lm ops pre ms l=true→anp ops pre ms→∃ ms',anp ops (pre++l) ms'
  | [],pre,ms,_,_,D=>⟨ms,by simpa using D⟩
  | x::l,pre,ms,hl,h,D=>by
    simp only [Lm,Bool.and_eq_true] at h
    obtain ⟨h1,h2,h3⟩:=h
    have:=Rh l (pre++[x]) (ms++[wP ms x.1]) (by simp [hl]) h3 ?_
    · simpa using this
    have old:∀ (j:Nat) (y:Oper×wO),(pre++[x])[j]? = some y→(j<pre.length∧pre[j]? = some y)∨(j=pre.length∧y=x):=by
      intro j y hy
      rw [List.getElem?_append] at hy
      split at hy
      · rename_i q;exact .inl ⟨q,hy⟩
      · rename_i q
        have:j-pre.length=0:=by
          rcases Nat.eq_zero_or_pos (j-pre.length) with r | r
          · exact r
          · rw [List.getElem?_eq_none (by simp;omega)] at hy;cases hy
        rw [this] at hy;simp at hy;exact .inr ⟨by omega,hy.symm⟩
    have msl:∀ (j m:Nat),ms[j]? = some m→(ms++[wP ms x.1])[j]? = some m:=by
      intro j m hm
      rw [List.getElem?_append_left (List.getElem?_eq_some_iff.1 hm).1];exact hm
    have msn:(ms++[wP ms x.1])[pre.length]? = some (wP ms x.1):=by
      rw [←hl,List.getElem?_append_right (Nat.le_refl _)];simp
    have hedge:∀ e∈x.1.after,Region.binds .any e=true→e.on<pre.length:=by
      intro e he hb
      have:=List.all_eq_true.1 h1 e (by simpa using he)
      rw [hb] at this
      simpa [Nat.blt_eq] using this
    refine ⟨fun j y hy=>?_,fun j y hy=>?_,fun i j a b ha hb hij=>?_⟩
    · rcases old j y hy with ⟨q,hy⟩ | ⟨rfl,rfl⟩
      · exact D.edge j y hy
      · exact hedge
    · rcases old j y hy with ⟨q,hy⟩ | ⟨rfl,rfl⟩
      · obtain ⟨m,k1,k2⟩:=D.mask j y hy
        refine ⟨m,msl j m k1,fun i hi=>?_⟩
        obtain ⟨e,e1,e2,e3⟩:=k2 i hi
        exact ⟨e,e1,e2,e3.imp id fun ⟨m',q1,q2⟩=>⟨m',msl _ m' q1,q2⟩⟩
      · refine ⟨_,msn,fun i hi=>?_⟩
        rcases UQ ms y.1.after.toList 0 i hi with q | ⟨e,e1,e2,e3⟩
        · simp at q
        · refine ⟨e,by simpa using e1,e2,e3.imp id fun q=>?_⟩
          rw [List.getD_eq_getElem?_getD] at q
          cases hm:ms[e.on]? with
          | none=>rw [hm] at q;simp at q
          | some m'=>rw [hm] at q;exact ⟨m',msl _ m' hm,q⟩
    · rcases old j b hb with ⟨q,hb⟩ | ⟨rfl,rfl⟩
      · rcases old i a ha with ⟨q',ha⟩ | ⟨rfl,rfl⟩
        · exact (D.pair i j a b ha hb hij).imp (fun ⟨m,k1,k2⟩=>⟨m,msl j m k1,k2⟩) id
        · omega
      · rcases old i a ha with ⟨q',ha⟩ | ⟨rfl,rfl⟩
        · have:=Kd h2 i a ha
          rw [Nat.zero_add] at this
          exact this.imp (fun k=>⟨_,msn,k⟩) id
        · omega
def UR(m i:Nat) :Bool:=Nat.beq (Nat.land (Nat.shiftRight m i) 1) 1
theorem Jp(m i:Nat) :UR m i=m.testBit i:=by
  have h:Nat.land (Nat.shiftRight m i) 1=(m >>> i)%2:=Nat.and_one_is_mod _
  unfold UR
  rw [h,Nat.testBit_eq_decide_div_mod_eq,Nat.shiftRight_eq_div_pow]
  cases hq:Nat.beq (m/2^i%2) 1 with
  | true=>have:=Nat.eq_of_beq_eq_true hq;simp [this]
  | false => have : ¬ m / 2 ^ i % 2 = 1 := fun e => by rw [e] at hq; cases hq
             simp [this]
def Ln:List Nat→Nat
  | []=>0
  | t::l=>Nat.lor (Nat.shiftLeft 1 t) (Ln l)
theorem US:∀ {l:List Nat} {t:Nat},t∈l→UR (Ln l) t=true
  | s::l,t,h=>by
    rw [Jp]
    show ((1 <<< s) ||| Ln l).testBit t=true
    rw [Nat.testBit_or,Bool.or_eq_true]
    rcases List.mem_cons.1 h with rfl | h
    · left;rw [Nat.one_shiftLeft,Nat.testBit_two_pow];simp
    · right;rw [←Jp];exact US h
def akJ(d:Option Nat)(m:Nat) :Bool:=match d with | none=>true | some d=>!UR m d
theorem UT{d:Option Nat}{l:List Nat}(h:akJ d (Ln l)=true) :Ll d.toList l=true:=by
  cases d with
  | none=>rfl
  | some d =>
    simp only [akJ,Bool.not_eq_true'] at h
    simp only [Option.toList,Ll,Bool.and_true,Bool.not_eq_true']
    cases hm:aic d l with
    | false=>rfl
    | true=>rw [US (UO.1 hm)] at h;cases h
def HS(r r':wO) :Bool:=Ll (mh r.sets) (r'.reads++mh r'.sets)&&Ll (mh r'.sets) (r.reads++mh r.sets)
def Ua(mask:Nat)(d':Option Nat)(m':Nat) :Nat→List (Option Nat×Nat)→Bool
  | _,[]=>true
  | i,x::l=>(UR mask i||(akJ x.1 m'&&akJ d' x.2))&&Ua mask d' m' (i+1) l
def abX(ops:Array Oper)(o:Oper) :Option Nat×Nat:=(o.dst,Ln (qD ops o))
def abY(ops:Array Oper) :List Oper→List Nat→List Oper→Bool
  | _,_,[]=>true
  | pre,ms,o::l=>o.after.toList.all (fun e=>!Region.binds .any e||Nat.blt e.on pre.length)&&(Ua (wP ms o) o.dst (Ln (qD ops o)) 0 (pre.map (abX ops))&&abY ops (pre++[o]) (ms++[wP ms o]) l)
def UU:List Oper→List Nat→List Nat
  | [],_=>[]
  | o::l,ms=>wP ms o::UU l (ms++[wP ms o])
def UV(mask:Nat)(r':wO) :Nat→List wO→Bool
  | _,[]=>true
  | i,r::l=>(UR mask i||HS r r')&&UV mask r' (i+1) l
def OY(r:wO) :Bool:=match r.sets,r.reads with | [],[]=>true | _,_=>false
def Ub:List wO→Bool
  | []=>true
  | r::l=>match r.sets with | []=>Ub l | _=>false
def aes:List wO→List Nat→List wO→Bool
  | _,_,[]=>true
  | pre,m::ms,r::l=>(OY r||UV m r 0 pre)&&aes (pre++[r]) ms l
  | _,[],_=>false
def ML(ops:Array Oper)(rs:List wO) :Bool :=
  abY ops [] [] ops.toList&&(Ub rs||aes [] (UU ops.toList []) rs)
theorem aet:∀ (l:List Nat),Ll l []=true
  | []=>rfl
  | x::l=>by simp [Ll,aic,aet l]
theorem OZ{r r':wO}(h:OY r'=true) :HS r r'=true:=by
  unfold OY at h
  split at h
  · rename_i h1 h2;simp [HS,h1,h2,mh,Ll,aet]
  · cases h
theorem Ri:∀ {l:List wO},Ub l=true→∀ r∈l,r.sets=[]
  | x::l,h,r,hr=>by
    simp only [Ub] at h
    split at h
    · rename_i hx
      rcases List.mem_cons.1 hr with rfl | hr
      · exact hx
      · exact Ri h r hr
    · cases h
theorem UW{r r':wO}(h:r.sets=[])(h':r'.sets=[]) :HS r r'=true:=by simp [HS,h,h',mh,Ll]
theorem Rj{ops:Array Oper}{mask:Nat}{o':Oper}{r':wO} :∀ {l:List Oper} {rs:List wO} {i:Nat},Ua mask o'.dst (Ln (qD ops o')) i (l.map (abX ops))=true→(∀ k r,rs[k]? = some r→UR mask (i+k)=true∨HS r r'=true)→sZ ops mask o' r' i (l.zip rs)=true
  | [],_,_,_,_=>by simp [sZ]
  | _::_,[],_,_,_=>by simp [sZ]
  | o::l,r::rs,i,h,hd=>by
    simp only [List.map_cons,Ua,Bool.and_eq_true,Bool.or_eq_true,abX] at h
    simp only [List.zip_cons_cons,sZ,Bool.and_eq_true,Bool.or_eq_true]
    refine ⟨?_,Rj h.2 fun k r hk=>?_⟩
    · have:=hd 0 r rfl
      rw [Nat.add_zero] at this
      rcases this with q | q
      · left;rw [←Jp];exact q
      · rcases h.1 with q' | q'
        · left;rw [←Jp];exact q'
        · right
          simp only [HS,Bool.and_eq_true] at q
          simp only [sY,Bool.and_eq_true]
          exact ⟨UT q'.1,UT q'.2,q.1,q.2⟩
    · have:=hd (k+1) r (by simpa using hk)
      rwa [show i+(k+1)=i+1+k from by omega] at this
theorem UX{mask:Nat}{r':wO} :∀ {l:List wO} {i:Nat},UV mask r' i l=true→∀ k r,l[k]? = some r→UR mask (i+k)=true∨HS r r'=true
  | [],_,_,k,r,h=>by simp at h
  | x::l,i,h,0,r,hr=>by
    simp only [UV,Bool.and_eq_true,Bool.or_eq_true] at h
    simp at hr;subst hr;simpa using h.1
  | x::l,i,h,k+1,r,hr=>by
    simp only [UV,Bool.and_eq_true,Bool.or_eq_true] at h
    have:=UX h.2 k r (by simpa using hr)
    rwa [show i+1+k=i+(k+1) from by omega] at this
theorem aai{ops:Array Oper} :∀ (l pre:List Oper) (rs prs:List wO) (ms:List Nat),pre.length=prs.length→l.length=rs.length→abY ops pre ms l=true →
    ((∀ r∈prs++rs,r.sets=[])∨aes prs (UU l ms) rs=true)→Lm ops (pre.zip prs) ms (l.zip rs)=true
  | [],_,_,_,_,_,_,_,_=>by simp [Lm]
  | _::_,_,[],_,_,_,h,_,_=>by simp at h
  | o::l,pre,r::rs,prs,ms,hp,hl,hs,hd=>by
    simp only [abY,Bool.and_eq_true] at hs
    obtain ⟨h1,h2,h3⟩:=hs
    simp only [List.zip_cons_cons,Lm,Bool.and_eq_true]
    have hz:(pre.zip prs).length=pre.length:=by simp [hp]
    have hap:(pre.zip prs)++[(o,r)]=(pre++[o]).zip (prs++[r]):=by rw [List.zip_append hp];rfl
    refine ⟨by rw [hz];exact h1,Rj h2 fun k x hk=>?_,?_⟩
    · rcases hd with hd | hd
      · exact .inr (UW (hd x (by simp [List.mem_of_getElem? hk])) (hd r (by simp)))
      · simp only [UU,aes,Bool.and_eq_true,Bool.or_eq_true] at hd
        rcases hd.1 with q | q
        · exact .inr (OZ q)
        · exact UX q k x hk
    · rw [hap]
      refine aai l (pre++[o]) rs (prs++[r]) _ (by simp [hp]) (by simpa using hl) h3 ?_
      rcases hd with hd | hd
      · left;simpa using hd
      · right
        simp only [UU,aes,Bool.and_eq_true] at hd
        exact hd.2
theorem aeu{ops:Array Oper}{rs:List wO}(hl:rs.length=ops.toList.length)(h:ML ops rs=true) :Lm ops [] [] (ops.toList.zip rs)=true:=by
  simp only [ML,Bool.and_eq_true,Bool.or_eq_true] at h
  exact aai ops.toList [] rs [] [] rfl hl.symm h.1 (h.2.imp (fun q=>by simpa using Ri q) id)
theorem aid{l:List Operand}{t:Nat}(h:Operand.tmp t∈l) :t∈aib l:=by
  simp only [aib,List.mem_filterMap];exact ⟨_,h,rfl⟩
theorem aev{C:BO}{run:gr}{ops:Array Oper}{n0 i:Nat}{o:Oper}{T T':List AV}{h h':cD}{p p':fC}{r:wO}{obs:List Bool}(hr:MH C run ops n0 i o T h p=some (r,obs,p')) 
    (hT:∀ t∈qD ops o,T'[t]? = T[t]?) (hh:∀ b∈r.reads,bD h' b=bD h b):MH C run ops n0 i o T' h' p=some (r,obs,p'):=by
  have hw:ER ops o T'=ER ops o T:=by
    unfold ER
    simp only [abi]
    cases hg:o.guard with
    | none=>rfl
    | some x =>
      obtain ⟨j,want⟩:=x
      simp only
      cases hs:Jm ops j with
      | none=>rfl
      | some d=>simp only;rw [hT d (by simp [qD,hg,hs])]
  unfold MH at hr ⊢
  simp only [ano] at hr ⊢
  rw [hw]
  split at hr
  · cases hr
  · exact hr
  · split at hr
    · cases hr
    · rename_i r' hop
      have:opM C run (evA T') (bD h') (n0+i*xu) p o.op=some r':=by
        refine alT hop (fun x hx=>?_) (fun b hb=>?_)
        · cases x with
          | tmp t=>simp only [evA,abh];rw [hT t (by simp only [qD,List.mem_append];exact .inr (.inl (aid (by simpa using hx))))]
          | _=>rfl
        · apply hh
          split at hr
          · cases hr
          · simp only [Option.some.injEq,Prod.mk.injEq] at hr;rw [←hr.1];exact hb
      simp only [this]
      exact hr
def UY(C:BO)(run:gr)(ops:Array Oper)(n0:Nat) :Nat→List Oper→List AV→cD→fC→Option (List wO×List AV×cD×List Bool×fC)
  | _,[],T,h,p=>some ([],T,h,[],p)
  | i,o::l,T,h,p =>
    match MH C run ops n0 i o T h p with
    | none=>none
    | some (r,obs,p') =>
      match UY C run ops n0 (i+1) l (Lj T o.dst r.v) (dy r.sets h) p' with
      | none=>none
      | some (rs,T',h',obs',p'')=>some (r::rs,T',h',obs++obs',p'')
theorem Rk{C:BO}{run:gr}{ops:Array Oper}{n0:Nat} :∀ (l:List Oper) (i:Nat) {T T':List AV} {h h':cD} {p p':fC} {obs:List Bool} {rs:List wO},UY C run ops n0 i l T h p=some (rs,T',h',obs,p')→aQ obs →
    rs.length=l.length∧dL (l.zip rs) (T,h)=(T',h')∧∀ (j:Nat) (o:Oper),l[j]? = some o→∃ r obs' q q',rs[j]? = some r∧aQ obs' ∧
      MH C run ops n0 (i+j) o (dL ((l.zip rs).take j) (T,h)).1 (dL ((l.zip rs).take j) (T,h)).2 q=some (r,obs',q')
  | [],i,T,T',h,h',p,p',obs,rs,hr,_=>by
    simp only [UY,Option.some.injEq,Prod.mk.injEq] at hr;obtain ⟨rfl,rfl,rfl,rfl,rfl⟩:=hr
    exact ⟨rfl,rfl,fun j o h=>by simp at h⟩
  | o::l,i,T,T',h,h',p,p',obs,rs,hr,ho=>by
    simp only [UY] at hr
    split at hr
    case h_1=>cases hr
    rename_i r obs1 p1 h1
    split at hr
    case h_1=>cases hr
    rename_i rs2 T2 h2 obs2 p2 h3
    simp only [Option.some.injEq,Prod.mk.injEq] at hr;obtain ⟨rfl,rfl,rfl,rfl,rfl⟩:=hr
    rw [bI] at ho
    obtain ⟨a1,a2,a3⟩:=Rk l (i+1) h3 ho.2
    refine ⟨by simp [a1],by simpa [dL] using a2,fun j o' hj=>?_⟩
    cases j with
    | zero=>simp at hj;subst hj;exact ⟨r,obs1,p,p1,by simp,ho.1,by simpa [dL] using h1⟩
    | succ j =>
      obtain ⟨r',ob,q,q',b1,b2,b3⟩:=a3 j o' (by simpa using hj)
      refine ⟨r',ob,q,q',by simpa using b1,b2,?_⟩
      rw [show i+(j+1)=i+1+j from by omega]
      simpa [dL] using b3
theorem aaj{p q:Nat→Bool} :∀ {l:List Nat} {j:Nat},j∈l→p j=true→q j=false→(∀ i,q i=true→p i=true)→l.countP q<l.countP p
  | [],_,h,_,_,_=>by cases h
  | x::l,j,h,hp,hq,hi=>by
    have mono:∀ l:List Nat,l.countP q≤l.countP p:=fun l=>List.countP_mono_left fun x _=>hi x
    simp only [List.countP_cons]
    rcases List.mem_cons.1 h with rfl | h
    · rw [hp,hq];have:=mono l;simp;omega
    · have:=aaj h hp hq hi
      by_cases hx:q x=true
      · rw [hx,hi x hx];omega
      · have hq':q x=false:=by simpa using hx
        rw [hq'];simp only [Bool.false_eq_true,if_false];split<;>omega
theorem apj{i j y:Nat}(h1:i*xu≤y)(h2:y<i*xu+xu)(h3:j*xu≤y)(h4:y<j*xu+xu) :i=j:=by
  have hS:0<xu:=by decide
  have a:y/xu=i:=by rw [Nat.div_eq_iff hS];omega
  have b:y/xu=j:=by rw [Nat.div_eq_iff hS];omega
  omega
theorem anq{C:BO}(hC:C.Ok){run:gr}(hrun:UG C.P run){ops:Array Oper}{n0:Nat}{T0:List AV}{h0:cD}{rs:List wO}{ms:List Nat}(D:anp ops (ops.toList.zip rs) ms)(hlen:rs.length=ops.size) 
    (each:∀ (j:Nat) (o:Oper),ops.toList[j]? = some o→∃ r obs' q q',rs[j]? = some r∧aQ obs' ∧
      MH C run ops n0 j o (dL ((ops.toList.zip rs).take j) (T0,h0)).1 (dL ((ops.toList.zip rs).take j) (T0,h0)).2 q=some (r,obs',q'))
    {ro:Option Nat} {nn:Nat} {Q:Exit→Act→World→Prop}:∀ (fuel:Nat) (listed:Array Bool),listed.size=ops.size→(∀ (j:Nat) (o:Oper),ops[j]? = some o→listed.getD j false=true→∀ e∈o.after,Region.binds .any e=true→listed.getD e.on false=true) →
      (List.range ops.size).countP (fun i=>!listed.getD i false)≤fuel→∀ {ρ:aC} {w:World} {a:Act},HR ρ w (sD (fun i=>listed.getD i false) 0 (ops.toList.zip rs) (T0,h0)).2 (n0+ops.size*xu) →
      (∀ b,ρ.ok b→b<n0∨∃ i,listed.getD i false=true∧n0+i*xu≤b∧b<n0+i*xu+xu)→dC ρ w (sD (fun i=>listed.getD i false) 0 (ops.toList.zip rs) (T0,h0)).1 a.tmps.toList →
      (∀ ρ' w' a',oj ρ ρ' w→ki ρ.live w w'→HR ρ' w' (dL (ops.toList.zip rs) (T0,h0)).2 (n0+ops.size*xu)→a'.defers=a.defers→dC ρ' w' (dL (ops.toList.zip rs) (T0,h0)).1 a'.tmps.toList→(∀ b,ρ'.ok b→ρ.ok b∨n0≤b)→Q .normal a' w') →
      wpAnyIn (FW ro) nn C.P .any ops Q fuel listed a w:=by
  have hzl:(ops.toList.zip rs).length=ops.size:=by simp [hlen]
  have zget:∀ (j:Nat) (o:Oper) (r:wO),ops[j]? = some o→rs[j]? = some r→(ops.toList.zip rs)[j]? = some (o,r):=by
    intro j o r h1 h2
    rw [List.getElem?_zip_eq_some];exact ⟨by simpa using h1,h2⟩
  have zinv:∀ (j:Nat) (x:Oper×wO),(ops.toList.zip rs)[j]? = some x→ops[j]? = some x.1∧rs[j]? = some x.2:=by
    intro j x hx
    have:=List.getElem?_zip_eq_some.1 (show (ops.toList.zip rs)[j]? = some (x.1,x.2) from hx)
    exact ⟨by simpa using this.1,this.2⟩

  have allL:∀ (listed:Array Bool),listed.size=ops.size→(∀ i,i<ops.size→listed.getD i false=true)→sD (fun i=>listed.getD i false) 0 (ops.toList.zip rs) (T0,h0)=dL (ops.toList.zip rs) (T0,h0):=by
    intro listed hs hall
    have:∀ (l:List (Oper×wO)) (i:Nat) (s:List AV×cD),i+l.length≤ops.size→sD (fun i=>listed.getD i false) i l s=dL l s:=by
      intro l
      induction l with
      | nil=>intro _ _ _;rfl
      | cons x l ih =>
        intro i s hi
        simp only [List.length_cons] at hi
        simp only [sD,dL]
        rw [hall i (by omega)]
        exact ih (i+1) _ (by omega)
    exact this _ 0 _ (by rw [hzl];omega)

  have down:∀ (listed:Array Bool),(∀ (j:Nat) (o:Oper),ops[j]? = some o→listed.getD j false=true→∀ e∈o.after,Region.binds .any e=true→listed.getD e.on false=true) →
      ∀ (j:Nat) (o:Oper),ops[j]? = some o→(∀ e∈o.after,Region.binds .any e=true→listed.getD e.on false=true)→∀ (i m:Nat),ms[j]? = some m→m.testBit i=true→listed.getD i false=true:=by
    intro listed hcl j
    induction j using Nat.strongRecOn with
    | _ j ih =>
      intro o ho hpre i m hm hbit
      have hlt:j<ops.size:=(Array.getElem?_eq_some_iff.1 ho).1
      obtain ⟨r,hr⟩:∃ r,rs[j]? = some r:=⟨rs[j]'(by omega),List.getElem?_eq_getElem (by omega)⟩
      have hz:=zget j o r ho hr
      obtain ⟨m',k1,k2⟩:=D.mask j _ hz
      rw [hm] at k1;cases k1
      obtain ⟨e,e1,e2,e3⟩:=k2 i hbit
      have hL:=hpre e e1 e2
      rcases e3 with rfl | ⟨m'',q1,q2⟩
      · exact hL
      · have hej:=D.edge j _ hz e e1 e2
        have hon:e.on<ops.size:=by omega
        exact ih e.on hej _ (Array.getElem?_eq_getElem hon) (hcl e.on _ (Array.getElem?_eq_getElem hon) hL) i m'' q1 q2
  intro fuel
  induction fuel with
  | zero =>
    intro listed hs hcl hcnt ρ w a hh hok hT hQ
    have hall:∀ i,i<ops.size→listed.getD i false=true:=by
      intro i hi
      have h0:=List.countP_eq_zero.1 (Nat.le_zero.1 hcnt) i (List.mem_range.2 hi)
      simpa using h0
    simp only [wpAnyIn]
    refine ⟨?_,?_⟩
    · cases hr:Region.ready .any ops listed with
      | nil=>rfl
      | cons x xs =>
        have hx:x∈Region.ready .any ops listed:=by rw [hr];simp
        obtain ⟨k1,o,k2,_⟩:=mem_ready.1 hx
        have hlt:x<ops.size:=(Array.getElem?_eq_some_iff.1 k2).1
        have:=hall x hlt
        rw [Array.getD_eq_getD_getElem?,Array.getElem?_eq_getElem (by omega)] at this k1
        simp only [Option.getD_some] at this k1
        rw [this] at k1;cases k1
    · rw [allL listed hs hall] at hh hT
      exact hQ ρ w a (oj.refl _ _) (ki.refl _ _) hh rfl hT (fun b q=>.inl q)
  | succ fuel ih =>
    intro listed hs hcl hcnt ρ w a hh hok hT hQ
    simp only [wpAnyIn]
    have sameD:∀ j,j<ops.size→listed.getD j true=listed.getD j false:=by
      intro j hj
      rw [Array.getD_eq_getD_getElem?,Array.getD_eq_getD_getElem?,Array.getElem?_eq_getElem (by omega)];rfl
    refine ⟨fun hr=>?_,fun j hj=>?_⟩
    · have hall:∀ i,i<ops.size→listed.getD i false=true:=by
        intro i
        induction i using Nat.strongRecOn with
        | _ i ihi =>
          intro hi
          cases hl:listed.getD i false with
          | true=>rfl
          | false =>
            have ho:=Array.getElem?_eq_getElem hi
            obtain ⟨r,hrr⟩:∃ r,rs[i]? = some r:=⟨rs[i]'(by omega),List.getElem?_eq_getElem (by omega)⟩
            have hz:=zget i _ r ho hrr
            have:i∈Region.ready .any ops listed:=mem_ready.2 ⟨by rw [sameD i hi];exact hl,_,ho,fun e he hb=>ihi e.on (D.edge i _ hz e he hb) (by have:=D.edge i _ hz e he hb;omega)⟩
            rw [hr] at this;cases this
      rw [allL listed hs hall] at hh hT
      exact hQ ρ w a (oj.refl _ _) (ki.refl _ _) hh rfl hT (fun b q=>.inl q)
    · obtain ⟨k1,o,ho,hpre⟩:=mem_ready.1 hj
      have hlt:j<ops.size:=(Array.getElem?_eq_some_iff.1 ho).1
      rw [sameD j hlt] at k1
      obtain ⟨r,obs',q,q',hr,hob,hone⟩:=each j o (by simpa using ho)
      have hz:=zget j o r ho hr

      have agree:∀ (i:Nat) (x:Oper×wO),(ops.toList.zip rs)[i]? = some x→i≠j→sY ops x.1 x.2 o r=false→sY ops o r x.1 x.2=false→listed.getD i false=decide (i<j):=by
        intro i x hx hne n1 n2
        have hxi:=zinv i x hx
        rcases Nat.lt_or_gt_of_ne hne with hij | hij
        · rcases D.pair i j x (o,r) hx hz hij with ⟨m,hm,hb⟩ | hap
          · rw [down listed hcl j o ho hpre i m hm hb];simp [hij]
          · simp only at hap;rw [n1] at hap;cases hap
        · rcases D.pair j i (o,r) x hz hx hij with ⟨m,hm,hb⟩ | hap
          · have : ¬ i<j:=by omega
            simp only [this,decide_false]
            cases hl:listed.getD i false with
            | false=>rfl
            | true =>
              have:=down listed hcl i x.1 hxi.1 (hcl i x.1 hxi.1 hl) j m hm hb
              rw [k1] at this;cases this
          · simp only at hap;rw [n2] at hap;cases hap
      have napT:∀ (x:Oper×wO) (t:Nat),x.1.dst=some t→t∈qD ops o→sY ops x.1 x.2 o r=false∧sY ops o r x.1 x.2=false:=by
        intro x t hdst ht
        constructor
        · cases hap:sY ops x.1 x.2 o r with
          | false=>rfl
          | true=>simp only [sY,Bool.and_eq_true] at hap;exact (Jo hap.1 t (by simp [hdst]) ht).elim
        · cases hap:sY ops o r x.1 x.2 with
          | false=>rfl
          | true=>simp only [sY,Bool.and_eq_true] at hap;exact (Jo hap.2.1 t (by simp [hdst]) ht).elim
      have napH:∀ (x:Oper×wO) (b:Nat),b∈mh x.2.sets→b∈r.reads++mh r.sets→sY ops x.1 x.2 o r=false∧sY ops o r x.1 x.2=false:=by
        intro x b hx hb
        constructor
        · cases hap:sY ops x.1 x.2 o r with
          | false=>rfl
          | true=>simp only [sY,Bool.and_eq_true] at hap;exact (Jo hap.2.2.1 b hx hb).elim
        · cases hap:sY ops o r x.1 x.2 with
          | false=>rfl
          | true=>simp only [sY,Bool.and_eq_true] at hap;exact (Jo hap.2.2.2 b hx hb).elim
      have eqT:∀ t∈qD ops o,(sD (fun i=>listed.getD i false) 0 (ops.toList.zip rs) (T0,h0)).1[t]? = (dL ((ops.toList.zip rs).take j) (T0,h0)).1[t]?:=by
        intro t ht
        have:=T9 (ops.toList.zip rs) 0 j (T0,h0)
        rw [←this]
        refine abV _ 0 (fun k x hx hdst=>?_) rfl
        rw [Nat.zero_add,Nat.zero_add]
        by_cases hkj:k=j
        · subst hkj;rw [k1];simp
        · obtain ⟨n1,n2⟩:=napT x t hdst ht;exact agree k x hx hkj n1 n2
      have eqH:∀ b∈r.reads++mh r.sets,bD (sD (fun i=>listed.getD i false) 0 (ops.toList.zip rs) (T0,h0)).2 b=bD (dL ((ops.toList.zip rs).take j) (T0,h0)).2 b:=by
        intro b hb
        have:=T9 (ops.toList.zip rs) 0 j (T0,h0)
        rw [←this]
        refine abW _ 0 (fun k x hx il=>?_) rfl
        rw [Nat.zero_add,Nat.zero_add]
        by_cases hkj:k=j
        · subst hkj;rw [k1];simp
        · obtain ⟨n1,n2⟩:=napH x b il hb;exact agree k x hx hkj n1 n2
      have hloc:=aev hone eqT (fun b hb=>eqH b (by simp [hb]))

      have L'eq:∀ i,(listed.setIfInBounds j true).getD i false=if i=j then true else listed.getD i false:=by
        intro i
        by_cases hij:i=j
        · subst hij;rw [if_pos rfl,Array.getD_eq_getD_getElem?];simp [hs,hlt]
        · rw [if_neg hij];exact getD_set_ne false (fun e=>hij e.symm)
      have step1:=T9 (ops.toList.zip rs) 0 (j+1) (T0,h0)
      have hsplit:dL ((ops.toList.zip rs).take (j+1)) (T0,h0)=(Lj (dL ((ops.toList.zip rs).take j) (T0,h0)).1 o.dst r.v,dy r.sets (dL ((ops.toList.zip rs).take j) (T0,h0)).2):=by
        have hjl:j<(ops.toList.zip rs).length:=by rw [hzl];exact hlt
        have:(ops.toList.zip rs).take (j+1)=(ops.toList.zip rs).take j++[(o,r)]:=by
          rw [List.take_succ_eq_append_getElem hjl]
          have:=List.getElem?_eq_getElem hjl
          rw [hz] at this
          rw [←Option.some.inj this]
        rw [this,UP];rfl
      have newT:∀ t:Nat,(Lj (sD (fun i=>listed.getD i false) 0 (ops.toList.zip rs) (T0,h0)).1 o.dst r.v)[t]? = (sD (fun i=>(listed.setIfInBounds j true).getD i false) 0 (ops.toList.zip rs) (T0,h0)).1[t]?:=by
        intro t
        rw [MK]
        by_cases hdst:o.dst=some t
        · rw [if_pos hdst]
          have e1:=eqT t (by simp [qD,hdst])
          rw [e1]
          have e2:(sD (fun i=>(listed.setIfInBounds j true).getD i false) 0 (ops.toList.zip rs) (T0,h0)).1[t]? = (dL ((ops.toList.zip rs).take (j+1)) (T0,h0)).1[t]?:=by
            rw [←step1]
            refine abV _ 0 (fun k x hx hd2=>?_) rfl
            rw [Nat.zero_add,Nat.zero_add,L'eq]
            by_cases hkj:k=j
            · subst hkj;simp
            · rw [if_neg hkj]
              obtain ⟨n1,n2⟩:=napT x t hd2 (by simp [qD,hdst])
              rw [agree k x hx hkj n1 n2]
              by_cases q:k<j<;>simp [q]<;>omega
          rw [e2,hsplit,MK,if_pos hdst]
        · rw [if_neg hdst]
          refine abV _ 0 (fun k x hx hd2=>?_) rfl
          rw [Nat.zero_add,L'eq]
          by_cases hkj:k=j
          · subst hkj;rw [hz] at hx;cases hx;exact absurd hd2 hdst
          · rw [if_neg hkj]
      have newH:∀ b:Nat,bD (sD (fun i=>(listed.setIfInBounds j true).getD i false) 0 (ops.toList.zip rs) (T0,h0)).2 b=bD (dy r.sets (sD (fun i=>listed.getD i false) 0 (ops.toList.zip rs) (T0,h0)).2) b:=by
        intro b
        by_cases hb:b∈mh r.sets
        · rw [wQ (h:=(sD (fun i=>listed.getD i false) 0 (ops.toList.zip rs) (T0,h0)).2) (h':=(dL ((ops.toList.zip rs).take j) (T0,h0)).2) r.sets (eqH b (by simp [hb]))]
          have e2:bD (sD (fun i=>(listed.setIfInBounds j true).getD i false) 0 (ops.toList.zip rs) (T0,h0)).2 b=bD (dL ((ops.toList.zip rs).take (j+1)) (T0,h0)).2 b:=by
            rw [←step1]
            refine abW _ 0 (fun k x hx hd2=>?_) rfl
            rw [Nat.zero_add,Nat.zero_add,L'eq]
            by_cases hkj:k=j
            · subst hkj;simp
            · rw [if_neg hkj]
              obtain ⟨n1,n2⟩:=napH x b hd2 (by simp [hb])
              rw [agree k x hx hkj n1 n2]
              by_cases q:k<j<;>simp [q]<;>omega
          rw [e2,hsplit]
        · rw [wR _ hb]
          refine abW _ 0 (fun k x hx hd2=>?_) rfl
          rw [Nat.zero_add,L'eq]
          by_cases hkj:k=j
          · subst hkj;rw [hz] at hx;cases hx;exact absurd hd2 hb
          · rw [if_neg hkj]
      have hS:j*xu+xu≤ops.size*xu:=by rw [←Nat.succ_mul];exact Nat.mul_le_mul_right _ hlt
      refine Rf hC hrun ho hloc hob hh (fun x h1 h2 hbad=>?_) (by omega) hT ?_
      · rcases hok _ hbad with q | ⟨i,q1,q2,q3⟩
        · omega
        · have:i=j:=apj (y:=x-n0) (by omega) (by omega) (by omega) (by omega)
          subst this;rw [k1] at q1;cases q1
      intro ρ' w' a' E W hh' hd' hT' hok'
      have hlist:Lj (sD (fun i=>listed.getD i false) 0 (ops.toList.zip rs) (T0,h0)).1 o.dst r.v=(sD (fun i=>(listed.setIfInBounds j true).getD i false) 0 (ops.toList.zip rs) (T0,h0)).1:=List.ext_getElem? newT
      rw [hlist] at hT'
      refine ih (listed.setIfInBounds j true) (by simpa using hs) (fun i x hx hl e he hb=>?_) ?_ (hh'.congr newH) (fun b hb=>?_) hT' ?_
      · rw [L'eq] at hl ⊢
        by_cases hij:i=j
        · subst hij
          rw [ho] at hx;cases hx
          split
          · rfl
          · exact hpre e he hb
        · rw [if_neg hij] at hl
          split
          · rfl
          · exact hcl i x hx hl e he hb
      · have:=aaj (l:=List.range ops.size) (j:=j) (p:=fun i=>!listed.getD i false) (q:=fun i=>!(listed.setIfInBounds j true).getD i false) (List.mem_range.2 hlt) (by simp only [k1];rfl) (by simp only [L'eq,if_true];rfl)
          (fun i hi=>by
            simp only [L'eq] at hi ⊢
            split at hi
            · cases hi
            · exact hi)
        omega
      · rcases hok' b hb with q | q
        · rcases hok b q with q | ⟨i,q1,q2⟩
          · exact .inl q
          · refine .inr ⟨i,?_,q2⟩
            rw [L'eq];split
            · rfl
            · exact q1
        · exact .inr ⟨j,by rw [L'eq,if_pos rfl],q⟩
      · intro ρ'' w'' a'' E' W' hh'' hd'' hT'' hb''
        exact hQ ρ'' w'' a'' (E.trans E' W.size) (W.trans W' (fun x hx q=>E.new x hx q)) hh'' (hd''.trans hd') hT'' (fun b q=>by
          rcases hb'' b q with q | q
          · rcases hok' b q with q | q
            · exact .inl q
            · exact .inr (by omega)
          · exact .inr q)
theorem CM{d:aU}(h:d.kept=true) :d.foreign=true:=by
  cases d<;>first | rfl | exact jB h
mutual
def aak (g:Nat→Option aU):Nat→AV→AV
  | 0,_=>.any
  | n+1,v =>
    match v with
    | .ptr b w i j=>match g b with
      | some d=>let d':=HT g n d;bif d'.kept then .iptr .free d' w i j else .any
      | none=>.any
    | .sl b w es i len _=>match g b with
      | some d=>let d':=HT g n d;bif d'.kept then .imm .free d' w es i len else .any
      | none=>.any
    | .fn f l1 l2=>.fn f (UZ g n l1) (UZ g n l2)
    | .agg l=>.agg (UZ g n l)
    | .tup l=>.tup (UZ g n l)
    | .iface t v=>.iface t (aak g n v)
    | .yld _=>.any
    | v=>v
def UZ (g:Nat→Option aU):Nat→List AV→List AV
  | 0,l=>l.map fun _=>.any
  | n+1,l =>
    match l with
    | []=>[]
    | v::l=>aak g n v::UZ g n l
def HT (g:Nat→Option aU):Nat→aU→aU
  | 0,_=>.vs []
  | n+1,d =>
    match d with
    | .vs l=>.vs (UZ g n l)
    | d=>d
end
theorem U0(g:Nat→Option aU)(n:Nat)(d:aU)(h:d.recKept) :(HT g n d).recKept:=by
  cases n with
  | zero=>trivial
  | succ n=>cases d<;>first | exact h | trivial
structure alU (ρ τ:aC):Prop where
  out:τ.out=ρ.out
  live:∀ bl,τ.live bl→ρ.live bl
theorem alU.avoid{ρ τ:aC}(L:alU ρ τ){l:Lv}{bl:Nat}(h:ρ.avoid l bl) :τ.avoid l bl:=by
  refine EB (d:=0) (fun j _ q=>?_) h
  cases j with
  | zero=>exact L.live bl q
  | succ j=>simp only [Nat.add_zero,aC.own] at q ⊢;rw [L.out] at q;exact q
theorem gD{ρ τ:aC}(L:alU ρ τ){w:World}{v:AV}{u:Value}(h:VR ρ w v u) :v.foreign=true→VR τ w v u:=by
  induction h using VR.rec (motive_2:=fun l c _=>cG l=true→dC τ w l c) with
  | int k n=>exact fun _=>.int k n
  | bool kn b=>exact fun _=>.bool kn b
  | flt ex x y h=>exact fun _=>.flt ex x y h
  | str s=>exact fun _=>.str s
  | nptr=>exact fun _=>.nptr
  | ptr b k i j hb=>intro hk;simp [AV.foreign] at hk
  | iptr bw d k i j bl o u ha hb hc hv hr hk hg ih=>exact fun _=>.iptr bw d k i j bl o u (L.avoid ha) hb hc (fun x v hx=>ih x v hx (bp hr hg x v hx)) hr hk hg
  | nsl=>exact fun _=>.nsl
  | esl a=>exact fun _=>.esl a
  | zsl a c=>exact fun _=>.zsl a c
  | nan n h=>exact fun _=>.nan n h
  | sl b k es i len cap cap' hb hcap hl c t hh hs=>intro hk;simp [AV.foreign] at hk
  | slEnd b k es i a=>intro hk;simp [AV.foreign] at hk
  | imm bw d k es i len cap bl o u ha hb hc hv hl hr hk hg ih=>exact fun _=>.imm bw d k es i len cap bl o u (L.avoid ha) hb hc (fun x v hx=>ih x v hx (bp hr hg x v hx)) hl hr hk hg
  | immEnd bw d k es i cap a hr hk hg=>exact fun _=>.immEnd bw d k es i cap a hr hk hg
  | fn f l1 l2 c1 c2 h1 h2 i1 i2=>intro hk;simp only [AV.foreign,Bool.and_eq_true] at hk;exact .fn f l1 l2 c1 c2 (i1 hk.1) (i2 hk.2)
  | nfn=>exact fun _=>.nfn
  | gmap ks vs bl es cl u ha hb hh hin hex hv hl hk ih=>exact fun _=>.gmap ks vs bl es cl u (L.avoid ha) hb hh hin hex (fun x v hx=>ih x v hx (jH (sf hk x v hx))) hl hk
  | gvar c bl t fr ha hb hh=>exact fun _=>.gvar c bl t fr (L.avoid ha) hb hh
  | agg l c h ih=>intro hk;exact .agg l c (ih hk)
  | tup l c h ih=>intro hk;exact .tup l c (ih hk)
  | iface t v u h ih=>intro hk;exact .iface t v u (ih hk)
  | niface=>exact fun _=>.niface
  | yld b L h=>intro hk;simp [AV.foreign] at hk
  | any u=>exact fun _=>.any u
  | nil=>exact dC.nil
  | cons v u l c h t i1 i2=>rename_i hk;simp only [cG,Bool.and_eq_true] at hk;exact dC.cons v u l c (i1 hk.1) (i2 hk.2)
mutual
theorem abZ {ρ τ:aC} (L:alU ρ τ) {w:World} {h:cD} {m:Nat} (hh:HR ρ w h m) (off:∀ b d,bD h b=some d→ρ.ok b→¬ τ.live (ρ.at_ b)):∀ (n:Nat) {v:AV} {u:Value},VR ρ w v u→VR τ w (aak (bD h) n v) u
  | 0,v,u,hv=>.any u
  | n + 1, v, u, hv => by
    have free:∀ (b:Nat) (d:aU),bD h b=some d→ρ.ok b→τ.avoid .free (ρ.at_ b):=by
      intro b d hd hok j _
      cases j with
      | zero=>exact off b d hd hok
      | succ j=>simp only [aC.own];rw [L.out];exact hh.fresh _ (hh.real hd hok).1 j
    have content:∀ (b:Nat) (d:aU),bD h b=some d→ρ.ok b→∀ x v,(HT (bD h) n d).cell? x=some v→w.cell? ⟨ρ.at_ b,0+x,none⟩=some ((w.cell? ⟨ρ.at_ b,x,none⟩).getD undef)∧VR τ w v ((w.cell? ⟨ρ.at_ b,x,none⟩).getD undef):=by
      intro b d hd hok x v hx
      obtain ⟨_,hrk,c,t,hc,hcv⟩:=hh.real hd hok
      obtain ⟨u,q1,q2⟩:=aew L hh off n (ρ.at_ b) (fun x v hx=>by
        obtain ⟨u,k1,k2⟩:=hcv x v hx
        exact ⟨u,by simp [World.cell?,hc,k1],k2⟩) hrk x v hx
      rw [Nat.zero_add,q1];exact ⟨rfl,q2⟩
    cases v with
    | ptr b k i j =>
      simp only [aak]
      split
      · rename_i d hd
        have hrk:=hh.rk hd
        cases hk:(HT (bD h) n d).kept with
        | false=>exact .any _
        | true =>
          simp only [cond_true]
          cases hv with | ptr _ _ _ _ hb =>
          have:=VR.iptr (ρ:=τ) (w:=w) .free (HT (bD h) n d) k i j (ρ.at_ b) 0 (fun x=>(w.cell? ⟨ρ.at_ b,x,none⟩).getD undef) (free b d hd hb) (hh.liveLt _ (hh.real hd hb).1)
            (fun x v hx=>(content b d hd hb x v hx).1) (fun x v hx=>(content b d hd hb x v hx).2) (U0 _ _ _ hrk) (fun _=>hk) (CM hk)
          simpa using this
      · exact .any _
    | sl b k es i len cap =>
      simp only [aak]
      split
      · rename_i d hd
        have hrk:=hh.rk hd
        cases hk:(HT (bD h) n d).kept with
        | false=>exact .any _
        | true =>
          simp only [cond_true]
          cases hv with
          | sl _ _ _ _ _ _ cap' hb hcap hl' c t hh' hs =>
            have:=VR.imm (ρ:=τ) (w:=w) .free (HT (bD h) n d) k es i len cap' (ρ.at_ b) 0 (fun x=>(w.cell? ⟨ρ.at_ b,x,none⟩).getD undef) (free b d hd hb) (hh.liveLt _ (hh.real hd hb).1)
              (fun x v hx=>(content b d hd hb x v hx).1) (fun x v hx=>(content b d hd hb x v hx).2) (by omega) (U0 _ _ _ hrk) (fun _=>hk) (CM hk)
            simpa using this
          | slEnd=>exact .immEnd _ _ _ _ _ _ _ (U0 _ _ _ hrk) (fun _=>hk) (CM hk)
      · exact .any _
    | fn f l1 l2=>cases hv with | fn _ _ _ _ _ h1 h2=>exact .fn _ _ _ _ _ (AA L hh off n h1) (AA L hh off n h2)
    | agg l=>cases hv with | agg _ _ h1=>exact .agg _ _ (AA L hh off n h1)
    | tup l=>cases hv with | tup _ _ h1=>exact .tup _ _ (AA L hh off n h1)
    | iface t v=>cases hv with | iface _ _ _ h1=>exact .iface _ _ _ (abZ L hh off n h1)
    | int=>exact gD L hv rfl
    | bool=>exact gD L hv rfl
    | flt=>exact gD L hv rfl
    | str=>exact gD L hv rfl
    | nptr=>exact gD L hv rfl
    | iptr=>exact gD L hv rfl
    | nsl=>exact gD L hv rfl
    | esl=>exact gD L hv rfl
    | zsl=>exact gD L hv rfl
    | nan=>exact gD L hv rfl
    | imm=>exact gD L hv rfl
    | nfn=>exact gD L hv rfl
    | gmap=>exact gD L hv rfl
    | gvar=>exact gD L hv rfl
    | niface=>exact gD L hv rfl
    | yld=>exact .any _
    | any=>exact .any _
theorem AA {ρ τ:aC} (L:alU ρ τ) {w:World} {h:cD} {m:Nat} (hh:HR ρ w h m) (off:∀ b d,bD h b=some d→ρ.ok b→¬ τ.live (ρ.at_ b)):∀ (n:Nat) {l:List AV} {c:List Value},dC ρ w l c→dC τ w (UZ (bD h) n l) c
  | 0,[],c,hv=>by cases hv;exact .nil
  | 0,v::l,c,hv=>by
    cases hv with | cons _ u _ c' h1 h2 =>
    have:=AA L hh off 0 h2
    exact .cons _ _ _ _ (.any u) this
  | n+1,[],c,hv=>by cases hv;exact .nil
  | n+1,v::l,c,hv=>by
    cases hv with | cons _ u _ c' h1 h2=>exact .cons _ _ _ _ (abZ L hh off n h1) (AA L hh off n h2)
theorem aew {ρ τ:aC} (L:alU ρ τ) {w:World} {h:cD} {m:Nat} (hh:HR ρ w h m) (off:∀ b d,bD h b=some d→ρ.ok b→¬ τ.live (ρ.at_ b)):∀ (n:Nat) (bl:Nat) {d:aU},(∀ x v,d.cell? x=some v→∃ u,w.cell? ⟨bl,x,none⟩=some u∧VR ρ w v u)→d.recKept →
    ∀ x v,(HT (bD h) n d).cell? x=some v→∃ u,w.cell? ⟨bl,x,none⟩=some u∧VR τ w v u
  | 0,bl,d,hc,hr,x,v,hx=>by simp [HT,aU.cell?] at hx
  | n + 1, bl, d, hc, hr, x, v, hx => by
    cases d with
    | vs l =>
      simp only [HT,aU.cell?] at hx
      have hus:dC ρ w l ((List.range l.length).map fun x=>(w.cell? ⟨bl,x,none⟩).getD undef):=by
        refine Av (by simp) fun y v u q1 q2=>?_
        obtain ⟨u',k1,k2⟩:=hc y v q1
        have hlt:y<l.length:=(List.getElem?_eq_some_iff.1 q1).1
        rw [List.getElem?_map,List.getElem?_range hlt] at q2
        simp [k1] at q2;subst q2;exact k2
      have hr2:=AA L hh off n hus
      obtain ⟨u,q1,q2⟩:=hr2.get x v hx
      rw [List.getElem?_map] at q1
      have hlt:x<l.length:=by
        rcases Nat.lt_or_ge x l.length with q | q
        · exact q
        · rw [List.getElem?_eq_none (by simpa using q)] at q1;cases q1
      rw [List.getElem?_range hlt] at q1
      obtain ⟨u',k1,_⟩:=hc x (l[x]) (List.getElem?_eq_getElem hlt)
      simp [k1] at q1;subst q1
      exact ⟨u',k1,q2⟩
    | fl xs=>obtain ⟨u,q1,q2⟩:=hc x v hx;exact ⟨u,q1,gD L q2 (bp (d:=.fl xs) hr rfl x v hx)⟩
    | ns k xs=>obtain ⟨u,q1,q2⟩:=hc x v hx;exact ⟨u,q1,gD L q2 (bp (d:=.ns k xs) hr rfl x v hx)⟩
    | bs xs=>obtain ⟨u,q1,q2⟩:=hc x v hx;exact ⟨u,q1,gD L q2 (bp (d:=.bs xs) hr rfl x v hx)⟩
    | ss xs=>obtain ⟨u,q1,q2⟩:=hc x v hx;exact ⟨u,q1,gD L q2 (bp (d:=.ss xs) hr rfl x v hx)⟩
    | rows k m get=>obtain ⟨u,q1,q2⟩:=hc x v hx;exact ⟨u,q1,gD L q2 (bp (d:=.rows k m get) hr rfl x v hx)⟩
    | cols k cs=>obtain ⟨u,q1,q2⟩:=hc x v hx;exact ⟨u,q1,gD L q2 (bp (d:=.cols k cs) hr rfl x v hx)⟩
end
mutual
def nmA (σ:Nat→Option Nat):AV→AV
  | .ptr b w i j=>match σ b with | some c=>.ptr c w i j | none=>.any
  | .sl b w es i len cap=>match σ b with | some c=>.sl c w es i len cap | none=>.any
  | .fn f l1 l2=>.fn f (nmL σ l1) (nmL σ l2)
  | .agg l=>.agg (nmL σ l)
  | .tup l=>.tup (nmL σ l)
  | .iface t v=>.iface t (nmA σ v)
  | v=>v
def nmL (σ:Nat→Option Nat):List AV→List AV
  | []=>[]
  | v::l=>nmA σ v::nmL σ l
end
def aC.renamed(ρ:aC)(keep:List Nat) :aC :=
  { at_:=fun i=>ρ.at_ ((keep[i]?).getD 0),live:=ρ.live,out:=ρ.out,ok:=fun i=>∃ b,keep[i]? = some b∧ρ.ok b,pin:=ρ.pin }
mutual
theorem aal {ρ:aC} {keep:List Nat} {w:World}:∀ (v:AV) {u:Value},VR ρ w v u→VR (ρ.renamed keep) w (nmA (oC keep 0) v) u
  | .ptr b k i j,u,h=>by
    simp only [nmA]
    split
    · rename_i c hc
      cases h with | ptr _ _ _ _ hb =>
      obtain ⟨_,hg⟩:=Jl hc
      rw [Nat.sub_zero] at hg
      have:(ρ.renamed keep).at_ c=ρ.at_ b:=by simp [aC.renamed,hg]
      rw [←this];exact .ptr _ _ _ _ ⟨b,hg,hb⟩
    · exact .any u
  | .sl b k es i len cap,u,h=>by
    simp only [nmA]
    split
    · rename_i c hc
      obtain ⟨_,hg⟩:=Jl hc
      rw [Nat.sub_zero] at hg
      have e:(ρ.renamed keep).at_ c=ρ.at_ b:=by simp [aC.renamed,hg]
      cases h with
      | sl _ _ _ _ _ _ cap' hb hcap hl ce t hh hs=>rw [←e] at hh ⊢;exact .sl _ _ _ _ _ _ _ ⟨b,hg,hb⟩ hcap hl ce t hh hs
      | slEnd=>exact .slEnd _ _ _ _ _
    · exact .any u
  | .fn f l1 l2,u,h=>by cases h with | fn _ _ _ _ _ h1 h2=>exact .fn _ _ _ _ _ (U1 l1 h1) (U1 l2 h2)
  | .agg l,u,h=>by cases h with | agg _ _ h1=>exact .agg _ _ (U1 l h1)
  | .tup l,u,h=>by cases h with | tup _ _ h1=>exact .tup _ _ (U1 l h1)
  | .iface t v,u,h=>by cases h with | iface _ _ _ h1=>exact .iface _ _ _ (aal v h1)
  | .int ..,u,h=>gE h rfl
  | .bool ..,u,h=>gE h rfl
  | .flt ..,u,h=>gE h rfl
  | .str ..,u,h=>gE h rfl
  | .nptr,u,h=>gE h rfl
  | .iptr ..,u,h=>gE h rfl
  | .nsl,u,h=>gE h rfl
  | .esl,u,h=>gE h rfl
  | .zsl _,u,h=>gE h rfl
  | .nan,u,h=>gE h rfl
  | .imm ..,u,h=>gE h rfl
  | .nfn,u,h=>gE h rfl
  | .gmap ..,u,h=>gE h rfl
  | .gvar _,u,h=>gE h rfl
  | .niface,u,h=>gE h rfl
  | .yld _,u,h=>by cases h with | yld _ L h=>exact .yld _ L h
  | .any,u,h=>.any u
theorem U1 {ρ:aC} {keep:List Nat} {w:World}:∀ (l:List AV) {c:List Value},dC ρ w l c→dC (ρ.renamed keep) w (nmL (oC keep 0) l) c
  | [],c,h=>by cases h;exact .nil
  | v::l,c,h=>by cases h with | cons _ u _ c' h1 h2=>exact .cons _ _ _ _ (aal v h1) (U1 l h2)
theorem gE {ρ:aC} {keep:List Nat} {w:World} {v:AV} {u:Value} (h:VR ρ w v u) (hf:v.foreign=true):VR (ρ.renamed keep) w v u :=
  gD (ρ:=ρ) (τ:=ρ.renamed keep) ⟨rfl,fun _ q=>q⟩ h hf
end
theorem mL.renamed{ρ:aC}{keep:List Nat}{w:World} :∀ {ds:List Deferred},mL ρ w ds→mL (ρ.renamed keep) w ds
  | [],h=>h
  | d::ds,⟨h1,h⟩=>⟨h1,mL.renamed h⟩
def reB(σ:Nat→Option Nat) :aU→aU
  | .vs l=>.vs (nmL σ l)
  | d=>d
theorem ab0(σ:Nat→Option Nat) :∀ (l:List AV) (x:Nat),(nmL σ l)[x]? = (l[x]?).map (nmA σ)
  | [],x=>by simp [nmL]
  | v::l,0=>by simp [nmL]
  | v::l,x+1=>by simp [nmL,ab0 σ l x]
theorem anr{σ:Nat→Option Nat}{d:aU}(h:d.recKept) :(reB σ d).recKept:=by
  cases d<;>first | exact h | trivial
theorem aex{σ:Nat→Option Nat}{d:aU}{x:Nat}{v:AV}(h:(reB σ d).cell? x=some v)(hr:d.recKept) :∃ v',d.cell? x=some v'∧(v=nmA σ v'∨(v=v'∧v.foreign=true)):=by
  cases d with
  | vs l =>
    simp only [reB,aU.cell?,ab0,Option.map_eq_some_iff] at h
    obtain ⟨v',h1,rfl⟩:=h
    exact ⟨v',h1,.inl rfl⟩
  | fl xs=>exact ⟨v,h,.inr ⟨rfl,bp (d:=.fl xs) hr rfl x v h⟩⟩
  | ns k xs=>exact ⟨v,h,.inr ⟨rfl,bp (d:=.ns k xs) hr rfl x v h⟩⟩
  | bs xs=>exact ⟨v,h,.inr ⟨rfl,bp (d:=.bs xs) hr rfl x v h⟩⟩
  | ss xs=>exact ⟨v,h,.inr ⟨rfl,bp (d:=.ss xs) hr rfl x v h⟩⟩
  | rows k m get=>exact ⟨v,h,.inr ⟨rfl,bp (d:=.rows k m get) hr rfl x v h⟩⟩
  | cols m cs=>exact ⟨v,h,.inr ⟨rfl,bp (d:=.cols m cs) hr rfl x v h⟩⟩
def akK(k:Nat)(R:List Nat) :List Nat:=List.range k++R.filter fun b=>Nat.ble k b
theorem alV{k i:Nat}{R:List Nat}(h:i<k) :(akK k R)[i]? = some i:=by
  unfold akK
  rw [List.getElem?_append_left (by simpa using h),List.getElem?_range h]
def xw(σ:Nat→Option Nat)(h:cD) :List Nat→List (Option aU)
  | []=>[]
  | b::l=>(bD h b).map (reB σ)::xw σ h l
theorem zH(σ:Nat→Option Nat)(h:cD) :∀ (l:List Nat) (i:Nat),(xw σ h l)[i]? = (l[i]?).map fun b=>(bD h b).map (reB σ)
  | [],i=>by simp [xw]
  | b::l,0=>by simp [xw]
  | b::l,i+1=>by simp [xw,zH σ h l i]
theorem yw(σ:Nat→Option Nat)(h:cD) :∀ (l:List Nat),(xw σ h l).length=l.length
  | []=>rfl
  | b::l=>by simp [xw,yw σ h l]
def U2(k:Nat)(keep:Bool)(h:cD)(v:AV) :Option ib :=
  match keep,k with
  | true,0=>some ⟨aak (bD h) kw v,[]⟩
  | _,_ =>
    let L:=akK k (qm (bD h) kw (List.range k++abP v) [])
    bif CG L then some ⟨nmA (oC L 0) v,xw (oC L 0) h L⟩ else none
theorem aey{ρ ρ0:aC}{w0 w:World}{h:cD}{m:Nat}{lent:List aU}{keep:Bool}(hh:HR ρ w h m)(hN:kG ρ0 w0 lent)(E:oj ρ0 ρ w0)(hbk:∀ i,i<lent.length→ρ.ok i→ρ0.ok i)(W:w0.heap.size≤w.heap.size){v:AV}{u:Value}(hv:VR ρ w v u){r:ib} 
    (hr:U2 lent.length keep h v=some r):r.Holds ρ0 w0 w lent.length u:=by
  unfold U2 at hr
  split at hr
  · rename_i k hk
    cases hr
    have none_ok:∀ b,¬ ρ0.ok b:=fun b q=>by have:=hN.heap.lt b q;omega
    have none_live:∀ bl,¬ ρ0.live bl:=fun bl q=>by obtain ⟨i,h1,_⟩:=hN.only bl q;exact none_ok i h1
    refine ⟨ρ0,oj.refl _ _,fun i h=>by omega,⟨fun b d q=>?_,fun b c d e q=>?_,fun bl q=>(none_live bl q).elim,fun bl q=>(none_live bl q).elim,fun j bl q=>?_,fun b q=>(none_ok b q).elim,fun x hx=>gD (τ:=ρ0) ⟨E.out.symm,fun bl q=>(none_live bl q).elim⟩ (hh.rom x hx) (jH (Rom.kept x hx))⟩,?_⟩
    · simp [gh,gC,eZ] at q
    · simp [gh,gC,eZ] at q
    · exact Nat.lt_of_lt_of_le (hN.heap.outLt j bl q) W
    · exact abZ (τ:=ρ0) ⟨E.out.symm,fun bl q=>(none_live bl q).elim⟩ hh (fun _ _ _ _ q=>none_live _ q) kw hv
  · simp only at hr
    generalize hL:akK lent.length (qm (bD h) kw (List.range lent.length++abP v) [])=L at hr
    cases hn:CG L with
    | false=>rw [hn] at hr;cases hr
    | true =>
    rw [hn] at hr
    simp only [cond_true,Option.some.injEq] at hr;subst hr
    have idL:∀ {i:Nat},i<lent.length→L[i]? = some i:=fun q=>by rw [←hL];exact alV q
    have atL:∀ {i b:Nat},L[i]? = some b→(ρ.renamed L).at_ i=ρ.at_ b:=fun q=>by simp [aC.renamed,q]
    refine ⟨ρ.renamed L,⟨fun b q=>?_,fun b q=>?_,E.live,E.new,E.out,E.pin⟩,fun i hi q=>?_,⟨fun i d q=>?_,fun i j d e q1 q2 ok1 ok2 he=>?_,hh.fresh,hh.liveLt,hh.outLt,fun i q=>?_,fun x hx=>gE (hh.rom x hx) (jH (Rom.kept x hx))⟩,aal v hv⟩
    · rw [atL (idL (hN.heap.lt b q))];exact E.at_ b q
    · exact ⟨b,idL (hN.heap.lt b q),E.ok b q⟩
    · obtain ⟨b,h1,h2⟩:=q
      rw [idL hi] at h1;cases h1
      exact hbk i hi h2
    · have q:=nv q
      simp only at q
      rw [zH,Option.map_eq_some_iff] at q
      obtain ⟨b,h1,h2⟩:=q
      rw [Option.map_eq_some_iff] at h2
      obtain ⟨d0,h3,rfl⟩:=h2
      rcases hh.cell b d0 h3 with ⟨k1,k2,hr,c,t,r1,r2⟩ | ⟨k1,k2,k3,k4⟩
      · refine .inl ⟨⟨b,h1,k1⟩,by rw [atL h1];exact k2,anr hr,c,t,by rw [atL h1];exact r1,fun x v hx=>?_⟩
        obtain ⟨v',s1,s2⟩:=aex hx hr
        obtain ⟨u,t1,t2⟩:=r2 x v' s1
        refine ⟨u,t1,?_⟩
        rcases s2 with rfl | ⟨rfl,hf⟩
        · exact aal v' t2
        · exact gE t2 hf
      · refine .inr ⟨?_,?_,anr k3,fun x=>?_⟩
        · rintro ⟨b',q1,q2⟩
          rw [h1] at q1;cases q1
          exact k1 q2
        · rw [yw];exact (List.getElem?_eq_some_iff.1 h1).1
        · cases hc:(reB (oC L 0) d0).cell? x with
          | none=>rfl
          | some v=>obtain ⟨v',s1,_⟩:=aex hc k3;rw [k4 x] at s1;cases s1
    · obtain ⟨b,r1,r2⟩:=ok1
      obtain ⟨c,r3,r4⟩:=ok2
      have q1:=nv q1
      have q2:=nv q2
      simp only at q1 q2
      rw [zH,r1] at q1
      rw [zH,r3] at q2
      simp only [Option.map_some,Option.some.injEq,Option.map_eq_some_iff] at q1 q2
      obtain ⟨d1,s1,_⟩:=q1
      obtain ⟨d2,s2,_⟩:=q2
      rw [atL r1,atL r3] at he
      have:=hh.inj b c d1 d2 s1 s2 r2 r4 he
      subst this
      exact EQ hn r1 r3
    · obtain ⟨b,r1,_⟩:=q
      simp only [yw]
      exact (List.getElem?_eq_some_iff.1 r1).1
inductive AE where
  | normal
  | ret
  | exit (id:Nat)
def AE.real:AE→Exit
  | .normal=>.normal
  | .ret=>.ret
  | .exit id=>.exit id
abbrev Res:=Option (AE×aM×List Bool×fC)
abbrev EW:=Code→aM→fC→Res
def jm:Code→Bool
  | .rangeFunc .. | .scope _=>false
  | .seq a b | .cond _ a b=>jm a&&jm b
  | .block _ a | .loop a=>jm a
  | _=>true
def HU(y:Option YI) :List wO→Bool
  | []=>true
  | r::l=>Az y r.sets&&HU y l
def O0(C:BO)(run:gr)(y:Option YI)(yr:alS)(ops:Array Oper)(draw:Bool)(st:aM)(p:fC) :Res :=
  match draw with
  | false =>
    match OW C run y yr ops st.next 0 ops.toList st.tmps st.heap (st.next+ops.size*xu) p with
    | some (T,h,nx,obs,p')=>some (.normal,⟨T,h,nx⟩,obs,p')
    | none=>none
  | true =>
    match UY C run ops st.next 0 ops.toList st.tmps st.heap p with
    | some (rs,T,h,obs,p')=>bif ML ops rs&&HU y rs then some (.normal,⟨T,h,st.next+ops.size*xu⟩,obs,p') else none
    | none=>none
def ta(T:List AV)(c:Operand)(b:Bool) :List AV :=
  match c with
  | .tmp t=>alD T t (.bool true b)
  | _=>T
def Uc(body:aM→fC→Res) :Nat→aM→fC→Res
  | 0,_,_=>none
  | n+1,st,p =>
    match body st p with
    | some (.normal,st1,o1,p1) =>
      match Uc body n st1 p1 with
      | some (e,KB,o2,p2)=>some (e,KB,o1++o2,p2)
      | none=>none
    | r=>r
abbrev tc:=Option YI→EW
def Lo:List AV→List Tmp→List AV→List AV
  | T,p::ps,v::vs=>Lo (alD T p v) ps vs
  | T,_,_=>T
def Jq:Option aU→Bool
  | some (.vs [])=>true
  | _=>false
def aqO(self:tc)(y:Option YI) :alS:=fun args h nx p =>
  match y with
  | none=>none
  | some yi =>
    bif Jq (bD h yi.b)&&(Nat.beq args.length yi.ps.size&&(jm yi.assign&&jm yi.body)) then
      match self none yi.assign ⟨Lo yi.saved yi.ps.toList args,h,nx⟩ p with
      | some (.normal,st1,o1,p1) =>
        match self none yi.body st1 p1 with
        | some (e,KB,o2,p2) =>
          bif Jq (bD KB.heap yi.b) then
            match e with
            | .normal=>some (.bool true true,KB.heap,KB.next,o1++o2,p2)
            | .ret=>some (.bool true false,il KB.heap yi.b (.fl []),KB.next,o1++o2,p2)
            | .exit id=>some (.bool true false,il KB.heap yi.b (.rows id 0 fun _ _=>.nptr),KB.next,o1++o2,p2)
          else none
        | none=>none
      | _=>none
    else none
def Jr:Option (LoopState×Option Code)→Option AE
  | some (.ready,none)=>some .normal
  | some (.done,some .ret)=>some .ret
  | some (.done,some (.exit id))=>some (.exit id)
  | _=>none
def U3(C : BO)(self : tc)(g : Operand)(ps : Array Tmp)(assign body : Code)(st : aM)(p : fC) : Res :=
  match evA st.tmps g with
  | .fn (.func gf) first caps =>
    match C.P.funcs[gf]? with
    | some fn =>
      match fn.body with
      | some c =>
        bif jm c&&fn.results.isEmpty then
          match self (some ⟨st.next,st.tmps,ps,assign,body⟩) c ⟨(first ++ .yld st.next::caps)++List.replicate (fn.ntmps-(first ++ .yld st.next::caps).length) (.tup []),il st.heap st.next (.vs []),st.next+1⟩ p with
          | some (.exit _,_,_,_)=>none
          | some (_,st1,o1,p1) =>
            bif Lh st1.heap then
              match Jr (zG (bD st1.heap st.next)) with
              | some e=>some (e,⟨st.tmps,EC st1.heap st.next,st1.next⟩,o1,p1)
              | none=>none
            else none
          | none=>none
        else none
      | none=>none
    | none=>none
  | _=>none
def O1(C:BO)(run:gr)(N:Nat)(selfY:tc)(y:Option YI)(c:Code)(st:aM)(p:fC) :Res :=
  let self:=selfY y
  match c with
  | .skip | .label _=>some (.normal,st,[],p)
  | .region _ ops draw=>O0 C run y (aqO selfY y) ops draw st p
  | .seq a b =>
    match self a st p with
    | some (.normal,st1,o1,p1) =>
      match self b st1 p1 with
      | some (e,KB,o2,p2)=>some (e,KB,o1++o2,p2)
      | none=>none
    | r=>r
  | .cond c a b =>
    match T7 (evA st.tmps c) p with
    | some (x,o1,p1) =>
      match self (match x with | true=>a | false=>b) { st with tmps:=ta st.tmps c x } p1 with
      | some (e,KB,o2,p2)=>some (e,KB,o1++o2,p2)
      | none=>none
    | none=>none
  | .block id b =>
    match self b st p with
    | some (.exit id',st1,o1,p1)=>bif Nat.beq id' id then some (.normal,st1,o1,p1) else some (.exit id',st1,o1,p1)
    | r=>r
  | .loop b=>Uc (self b) N st p
  | .exit id=>some (.exit id,st,[],p)
  | .ret=>some (.ret,st,[],p)
  | .scope b=>self b st p
  | .rangeFunc g ps assign body=>match y with
    | none=>U3 C selfY g ps assign body st p
    | some _=>none
  | _=>none
structure xx where
  out:ib
  obs:List Bool
def ans(alts:List xx)(p:fC) :Option (xx×fC) :=
  match alts,p with
  | [a],p=>some (a,p)
  | alts,none=>(alts.find? fun a=>abO a.obs).map fun a=>(a,none)
  | alts,some (k::r)=>(alts[k]?).map fun a=>(a,some r)
  | _,_=>none
theorem alW{alts:List xx}{p p':fC}{a:xx}(h:ans alts p=some (a,p')) :a∈alts:=by
  unfold ans at h
  split at h
  · simp only [Option.some.injEq,Prod.mk.injEq] at h;rw [←h.1];simp
  · simp only [Option.map_eq_some_iff,Prod.mk.injEq] at h;obtain ⟨b,h1,rfl,_⟩:=h;exact List.mem_of_find?_eq_some h1
  · simp only [Option.map_eq_some_iff,Prod.mk.injEq] at h;obtain ⟨b,h1,rfl,_⟩:=h;exact List.mem_of_getElem? h1
  · cases h
abbrev G5:=FuncId→List aU→List AV→Option (List xx)
def mP(P:Program)(fn:Func)(st:aM) :List ResultVar→Option (List AV×List Bool)
  | []=>some ([],[])
  | .tmp t::l =>
    match mP P fn st l with
    | some (vs,o)=>some (alC st.tmps t::vs,o)
    | none=>none
  | .cell a t::l =>
    match J6 P (bD st.heap) t (alC st.tmps a),mP P fn st l with
    | some (v,o,_),some (vs,o')=>some (v::vs,o++o')
    | _,_=>none
def O2:List AV→AV
  | [v]=>v
  | vs=>.tup vs
def wS(fn:Func)(lent:List aU)(args:List AV) :aM:=⟨args++List.replicate (fn.ntmps-args.length) (.tup []),gh 0 (lent.map some),lent.length⟩
def vi(C : BO)(S : G5)(self : EW) : gr := fun f lent args p =>
  match S f lent args with
  | some alts=>(ans alts p).map fun r=>(r.1.out,r.1.obs,r.2)
  | none =>
    match C.P.funcs[f]? with
    | some fn =>
      match fn.body with
      | some c =>
        match self c (wS fn lent args) p with
        | some (e,st,o1,p1) =>
          match e,mP C.P fn st fn.results.toList with
          | .exit _,_=>none
          | _,some (vs,o2) =>
            match U2 lent.length (C.mode f).keep st.heap (O2 vs) with
            | some r=>some (r,o1++o2,p1)
            | none=>none
          | _,none=>none
        | none=>none
      | none=>none
    | none=>none
def MM(C:BO)(S:G5)(N:Nat) :Nat→tc
  | 0=>fun _ _ _ _=>none
  | n+1=>O1 C (vi C S (MM C S N n none)) N (MM C S N n)
def kx(C:BO)(S:G5)(N:Nat)(n:Nat) :EW:=MM C S N n none
def aB(P:Program)(f:FuncId)(lent:List aU)(args:List AV)(r:ib) :Prop :=
  ∀ (ρ:aC) (w:World) (us:List Value),kG ρ w lent→dC ρ w args us →
    (∃ fn,P.funcs[f]? = some fn∧fn.body.isSome=true)∧Calls P f us.toArray w fun e w'=>∃ u,e=.returned u∧ki ρ.live w w'∧r.Holds ρ w w' lent.length u
def aW(P:Program)(S:G5) :Prop:=∀ f lent args alts a,S f lent args=some alts→a∈alts→aQ a.obs→aB P f lent args a.out
def ab1(P:Program)(self:EW) :Prop :=
  ∀ c st p e st' obs p',self c st p=some (e,st',obs,p')→aQ obs→∀ (ρ:aC) (a:Act) (w:World) (Q:Exit→Act→World→Prop),ρ.pin.2=none→SR ρ st a w →
    (∀ ρ' a' w',UL ρ w st.next st' ρ' a' w'→Q e.real a' w')→c.wp P Q a w
theorem UL.trans{ρ ρ1 ρ2:aC}{w w1 w2:World}{n:Nat}{st1 KB:aM}{a1 a2:Act}(h:UL ρ w n st1 ρ1 a1 w1)(k:UL ρ1 w1 st1.next KB ρ2 a2 w2) :UL ρ w n KB ρ2 a2 w2 :=
  ⟨h.ext.trans k.ext h.wle.size,h.wle.trans k.wle (fun x hx q=>h.ext.new x hx q),k.sr,Nat.le_trans h.le k.le,fun b q=>by
    rcases k.back b q with q | q
    · exact h.back b q
    · exact .inr (Nat.le_trans h.le q)⟩
theorem UL.refl{ρ:aC}{w:World}{st:aM}{a:Act}(h:SR ρ st a w) :UL ρ w st.next st ρ a w:=⟨oj.refl _ _,ki.refl _ _,h,Nat.le_refl _,fun b q=>.inl q⟩
theorem alX(n:Nat) :List.range n=List.range' 0 n:=List.range_eq_range'
theorem aez(fn:Func)(tmps:Array Value) :results fn tmps=(do let vs ← fn.results.mapM (fun | .tmp t=>pure (tmps.getD t undef) | .cell x t=>do loadVar t (←asAddr (tmps.getD x undef)));pure (if h:vs.size=1 then vs[0] else .tuple vs)):=by
  unfold results
  congr 1
structure td (y:Option YI) (ρ:aC) (w:World) (n:Nat) (st:aM) (ρ':aC) (a':Act) (w':World):Prop where
  stp:T8 y ρ w ρ' w'
  sr:SR ρ' st a' w'
  le:n≤st.next
  back:∀ b,ρ'.ok b→ρ.ok b∨n≤b
  pin:sW y ρ' w' st.heap st.next
theorem td.old{ρ:aC}{w:World}{n:Nat}{st:aM}{ρ':aC}{a':Act}{w':World}(h:td none ρ w n st ρ' a' w') :UL ρ w n st ρ' a' w':=⟨h.stp.ext,h.stp.live,h.sr,h.le,h.back⟩
theorem td.trans{y:Option YI}{ρ ρ1 ρ2:aC}{w w1 w2:World}{n:Nat}{st1 KB:aM}{a1 a2:Act}(h:td y ρ w n st1 ρ1 a1 w1)(k:td y ρ1 w1 st1.next KB ρ2 a2 w2) :td y ρ w n KB ρ2 a2 w2 :=
  ⟨h.stp.trans k.stp,k.sr,Nat.le_trans h.le k.le,fun b q=>by
    rcases k.back b q with q | q
    · exact h.back b q
    · exact .inr (Nat.le_trans h.le q),k.pin⟩
theorem td.refl{y:Option YI}{ρ:aC}{w:World}{st:aM}{a:Act}(h:SR ρ st a w)(hp:sW y ρ w st.heap st.next) :td y ρ w st.next st ρ a w:=⟨T8.refl _ _ _,h,Nat.le_refl _,fun b q=>.inl q,hp⟩
def May(c:Code)(ro:Option Nat)(y:Option YI)(ρ:aC) :Prop:=jm c=true∨(ro=none∧y=none∧ρ.pin.2=none)
def EX(P:Program)(self:tc) :Prop :=
  ∀ y c st p e st' obs p',self y c st p=some (e,st',obs,p')→aQ obs→∀ (ro:Option Nat) (nn:Nat) (ρ:aC) (a:Act) (w:World) (Q:Exit→Act→World→Prop),May c ro y ρ→SR ρ st a w→sW y ρ w st.heap st.next →
    (∀ ρ' a' w',td y ρ w st.next st' ρ' a' w'→Q e.real a' w')→c.wpIn (FW ro) nn P Q a w
theorem May.ext{c:Code}{ro:Option Nat}{y:Option YI}{ρ ρ':aC}{w:World}(h:May c ro y ρ)(E:oj ρ ρ' w) :May c ro y ρ':=h.imp id fun ⟨a,b,c⟩=>⟨a,b,by rw [E.pin];exact c⟩
theorem May.sub{c d:Code}{ro:Option Nat}{y:Option YI}{ρ:aC}(h:May c ro y ρ)(k:jm c=true→jm d=true) :May d ro y ρ:=h.imp k id
theorem Ud{ρ:aC}{w:World} :∀ {ds:List Deferred},mL ρ w ds→ρ.pin.1≤w.heap.size
  | [],h=>h
  | _::_,⟨_,h⟩=>Ud h
theorem aam{ρ:aC}{w:World} :∀ {ds:List Deferred},mL ρ w ds→∀ e∈ds,e ≠ { target:=.collected w.heap.size,args:=#[] }
  | [],_,e,he=>by cases he
  | d::ds,⟨⟨D,h1,hb,h2,h3,h4,h5⟩,h⟩,e,he=>by
    rcases List.mem_cons.1 he with rfl | q
    · intro e;rw [h1] at e
      have e:Target.collected D=.collected w.heap.size:=congrArg Deferred.target e
      simp only [Target.collected.injEq] at e
      omega
    · exact aam h e q
theorem MN{y:Option YI} :∀ {l:List wO},HU y l=true→∀ r∈l,Az y r.sets=true
  | [],_,r,h=>by cases h
  | x::l,hk,r,h=>by
    simp only [HU,Bool.and_eq_true] at hk
    rcases List.mem_cons.1 h with rfl | q
    · exact hk.1
    · exact MN hk.2 r q
theorem MO{y:Option YI} :∀ (l:List (Oper×wO)) (s:List AV×cD),(∀ x∈l,Az y x.2.sets=true)→∀ yi,y=some yi→bD (dL l s).2 yi.b=bD s.2 yi.b
  | [],s,_,yi,_=>rfl
  | x::l,s,h,yi,e=>by
    simp only [dL]
    rw [MO l _ (fun z hz=>h z (by simp [hz])) yi e]
    exact MI (h x (by simp)) s.2 yi e
theorem ab2{C:BO}(hC:C.Ok){run:gr}(hrun:UG C.P run){y:Option YI}{yr:alS}(hyr:ah9 C.P y yr){id:Nat}{ops:Array Oper}{draw:Bool}{st st':aM}{p p':fC}{e:AE}{obs:List Bool}(h:O0 C run y yr ops draw st p=some (e,st',obs,p')) 
    (ho:aQ obs) {ro:Option Nat} {nn:Nat} {ρ:aC} {a:Act} {w:World} {Q:Exit→Act→World→Prop} (hs:SR ρ st a w) (hp:sW y ρ w st.heap st.next) (hQ:∀ ρ' a' w',td y ρ w st.next st' ρ' a' w'→Q e.real a' w'):(Code.region id ops draw).wpIn (FW ro) nn C.P Q a w:=by
  unfold O0 at h
  cases draw with
  | false =>
    simp only at h
    split at h
    case h_2=>cases h
    rename_i T hp' nx obs' p1 hr
    simp only [Option.some.injEq,Prod.mk.injEq] at h;obtain ⟨rfl,rfl,rfl,rfl⟩:=h
    refine wpIn_region ?_
    rw [alX,←Array.length_toList]
    refine ET hC hrun hyr ops.toList 0 (fun j=>by simp) hr ho (hs.heap.le (by omega)) (Nat.le_refl _) hp (Ud hs.defers) (fun b hb=>.inl (by have:=hs.heap.lt b hb;omega)) hs.tmps ?_
    intro ρ' w' a' S hh hle hpin hd hT hb
    exact hQ ρ' a' w' ⟨S,⟨by rw [hd];exact S.marks _ hs.defers,hT,hh⟩,by show st.next≤nx;omega,hb,hpin.le (by show st.next≤nx;omega)⟩
  | true =>
    simp only at h
    split at h
    case h_2=>cases h
    rename_i rs T hp' obs' p1 hr
    cases hd:(ML ops rs&&HU y rs) with
    | false=>rw [hd] at h;cases h
    | true =>
      rw [hd] at h
      rw [Bool.and_eq_true] at hd
      simp only [cond_true,Option.some.injEq,Prod.mk.injEq] at h;obtain ⟨rfl,rfl,rfl,rfl⟩:=h
      obtain ⟨s1,s2,s3⟩:=Rk _ _ hr ho
      obtain ⟨ms,D⟩:=Rh (ops.toList.zip rs) [] [] rfl (aeu s1 hd.1) ⟨fun j x hx=>by simp at hx,fun j x hx=>by simp at hx,fun i j x y hx=>by simp at hx⟩
      rw [List.nil_append] at D
      refine wpIn_region_any hC.mixed ?_
      have W0:=ki.drawn ρ.live w (w.drawn+1)
      have E0:=oj.refl ρ w
      have notL:∀ i,(Array.replicate ops.size false).getD i false=false:=by
        intro i;rw [Array.getD_eq_getD_getElem?]
        cases hq:(Array.replicate ops.size false)[i]? with
        | none=>rfl
        | some b=>rw [Array.getElem?_replicate] at hq;split at hq<;>simp_all
      have a0:∀ (l:List (Oper×wO)) (i:Nat) (s:List AV×cD),sD (fun i=>(Array.replicate ops.size false).getD i false) i l s=s:=by
        intro l
        induction l with
        | nil=>intro _ _;rfl
        | cons x l ih=>intro i s;simp only [sD];rw [notL i];exact ih _ _
      refine anq hC hrun D (by rw [s1];simp) (fun j o hj=>by have:=s3 j o hj;rw [Nat.zero_add] at this;exact this) ops.size (Array.replicate ops.size false) (by simp) (fun j o _ hl=>by rw [notL] at hl;cases hl)
        (by have:=List.countP_le_length (p:=fun i=>!(Array.replicate ops.size false).getD i false) (l:=List.range ops.size);simpa using this) (ρ:=ρ) (a:=a) ?_ ?_ ?_ ?_
      · rw [a0];exact (hs.heap.le (by omega)).drawn _
      · intro b hb;have:=hs.heap.lt b hb;exact .inl this
      · rw [a0];exact hs.tmps.mono E0 W0
      · intro ρ' w' a' E W hh hd' hT hb
        have keep:=MO (y:=y) (ops.toList.zip rs) (st.tmps,st.heap) fun x hx=>MN hd.2 _ (List.of_mem_zip (show (x.1,x.2)∈_ from hx)).2
        rw [s2] at hh hT keep
        have E':oj ρ ρ' w:=⟨E.at_,E.ok,E.live,fun b hb=>E.new b hb,E.out,E.pin⟩
        have W':ki ρ.live w w':=W0.trans W (fun _ _ q=>q)
        refine hQ ρ' a' w' ⟨.of E' W',⟨by rw [hd'];exact hs.defers.mono E' W',hT,hh⟩,Nat.le_add_right _ _,hb,(hp.mono E' W' (fun yi _ q=>hb _ q) keep).le (Nat.le_add_right _ _)⟩
theorem U4{C:BO}{y:Option YI}{ro:Option Nat}{nn:Nat}{body:aM→fC→Res}{b:Code}(hb:∀ st p e st' obs p',body st p=some (e,st',obs,p')→aQ obs→∀ (ρ:aC) (a:Act) (w:World) (Q:Exit→Act→World→Prop),May b ro y ρ→SR ρ st a w→sW y ρ w st.heap st.next →
    (∀ ρ' a' w',td y ρ w st.next st' ρ' a' w'→Q e.real a' w')→b.wpIn (FW ro) nn C.P Q a w) :∀ (n:Nat) (st:aM) (p:fC) (e:AE) (st':aM) (obs:List Bool) (p':fC),Uc body n st p=some (e,st',obs,p')→aQ obs →
    ∀ (ρ:aC) (a:Act) (w:World) (Q:Exit→Act→World→Prop),May b ro y ρ→SR ρ st a w→sW y ρ w st.heap st.next→(∀ ρ' a' w',td y ρ w st.next st' ρ' a' w'→Q e.real a' w')→Code.roundsIn (FW ro) nn C.P b Q n a w
  | 0,st,p,e,st',obs,p',h,_,_,_,_,_,_,_,_,_=>by cases h
  | n+1,st,p,e,st',obs,p',h,ho,ρ,a,w,Q,hm,hs,hp,hQ=>by
    simp only [Uc] at h
    rw [roundsIn_succ]
    split at h
    · rename_i st1 o1 p1 h1
      split at h
      case h_2=>cases h
      rename_i e2 KB o2 p2 h2
      simp only [Option.some.injEq,Prod.mk.injEq] at h;obtain ⟨rfl,rfl,rfl,rfl⟩:=h
      rw [bI] at ho
      refine hb st p _ _ _ _ h1 ho.1 ρ a w _ hm hs hp fun ρ1 a1 w1 P1=>?_
      exact U4 hb n st1 p1 _ _ _ _ h2 ho.2 ρ1 a1 w1 Q (hm.ext P1.stp.ext) P1.sr P1.pin fun ρ2 a2 w2 P2=>hQ ρ2 a2 w2 (P1.trans P2)
    · rename_i hne
      refine hb st p _ _ _ _ h ho ρ a w _ hm hs hp fun ρ1 a1 w1 P1=>?_
      have:=hQ ρ1 a1 w1 P1
      cases e with
      | normal=>exact (hne _ _ _ h).elim
      | ret=>exact this
      | exit id=>exact this
theorem U5{ρ:aC}{w:World} :∀ (ps:List Tmp) (vs:List AV) (us:List Value) {T:List AV} {c:Array Value},dC ρ w T c.toList→dC ρ w vs us→ps.length=us.length →
    dC ρ w (Lo T ps vs) ((ps.zip us).foldl (fun tmps (x:Tmp×Value)=>tmps.setIfInBounds x.1 x.2) c).toList
  | [],vs,us,T,c,hT,hv,hl=>by
    cases us with
    | nil=>cases vs<;>simpa [Lo] using hT
    | cons=>simp at hl
  | p::ps,vs,us,T,c,hT,hv,hl=>by
    cases hv with
    | nil=>simp at hl
    | cons v u vs us h1 h2 =>
      simp only [Lo,Je,List.zip_cons_cons,List.foldl_cons]
      refine U5 ps vs us ?_ h2 (by simpa using hl)
      rw [Array.toList_setIfInBounds]
      exact hT.set h1 p
theorem Rl{o:Option aU}(h:Jq o=true) :o=some (.vs []):=by
  unfold Jq at h
  split at h
  · rfl
  · cases h
theorem T8.wide{y:Option YI}{ρ ρ':aC}{w w':World}(h:T8 none ρ w ρ' w') :T8 y ρ w ρ' w':=⟨h.ext,h.live.mono fun _ _ q=>.inl q,h.vr,h.marks⟩
theorem T8.put{yi:YI}{ρ:aC}{w:World}{L k:Nat}{r r':Loop}(hp:ρ.pin.2=some (L,k))(hL:w.heap[L]? = some (.loop r)) :T8 (some yi) ρ w ρ (w.putObj L (.loop r')):=by
  have S:Ay w (w.putObj L (.loop r')):=Ay.put hL (.inl ⟨r,rfl⟩) (.inl ⟨r',rfl⟩)
  exact ⟨oj.refl _ _,S.wle fun b _ hb=>World.putObj_heap_other (fun e=>hb (.inr ⟨rfl,k,by rw [e];exact hp⟩)),fun v u h=>h.soft S,fun ds h=>h.soft hL⟩
theorem apm{P:Program}{self:tc}(hself:EX P self)(y:Option YI) :ah9 P y (aqO self y):=by
  intro args h nx p v h' nx' obs p' hr ho
  unfold aqO at hr
  cases y with
  | none=>cases hr
  | some yi =>
  refine ⟨yi,rfl,fun ρ w us m hh hbase hpin hm hv L hL=>?_⟩
  simp only at hr
  cases hc:(Jq (bD h yi.b)&&(Nat.beq args.length yi.ps.size&&(jm yi.assign&&jm yi.body))) with
  | false=>rw [hc] at hr;cases hr
  | true =>
  rw [hc] at hr
  simp only [Bool.and_eq_true] at hc
  obtain ⟨hc1,hc2,hc3,hc4⟩:=hc
  simp only [cond_true] at hr
  split at hr
  case h_2=>cases hr
  rename_i st1 o1 p1 h1
  split at hr
  case h_2=>cases hr
  rename_i e KB o2 p2 h2
  cases hc5:Jq (bD KB.heap yi.b) with
  | false=>rw [hc5] at hr;cases hr
  | true =>
  rw [hc5] at hr
  simp only [cond_true] at hr
  have hk1:=Rl hc1
  have hk2:=Rl hc5
  obtain ⟨q1,q2,L',q3,q4,s,pe,q5,rec,r1,r2,r3,r4,r5,r6,r7⟩:=hpin
  rw [hL] at q3;cases q3
  rw [hk1] at q5
  simp only [zG,Option.some.injEq,Prod.mk.injEq] at q5
  obtain ⟨rfl,rfl⟩:=q5
  have hlt:L<w.heap.size:=(Array.getElem?_eq_some_iff.1 r1).1
  have hsz:us.size=rec.params.size:=by
    have a1:=hv.length
    have a2:=Nat.eq_of_beq_eq_true hc2
    rw [r4,←a2,a1];simp
  refine ⟨rec,r1,hsz,fun ro nn R hR=>?_⟩
  have hob:aQ o1∧aQ o2:=by
    have:obs=o1++o2:=by cases e<;>simp only [Option.some.injEq,Prod.mk.injEq] at hr<;>exact hr.2.2.2.1.symm
    rw [this,bI] at ho;exact ho
  refine roundIn_of_wpIn (aru _ _) ?_
  rw [r5,r6,r4]
  have hfold:(yi.ps.zip us).foldl (fun tmps (x:Tmp×Value)=>tmps.setIfInBounds x.1 x.2) rec.tmps=(yi.ps.toList.zip us.toList).foldl (fun tmps (x:Tmp×Value)=>tmps.setIfInBounds x.1 x.2) rec.tmps:=by
    rw [←Array.foldl_toList,Array.toList_zip]
  have hT:dC ρ w (Lo yi.saved yi.ps.toList args) ((yi.ps.zip us).foldl (fun tmps (x:Tmp×Value)=>tmps.setIfInBounds x.1 x.2) rec.tmps).toList:=by
    rw [hfold]
    exact U5 _ _ _ r7 hv (by rw [←r4];simpa using hsz.symm)
  have S0:SR ρ ⟨Lo yi.saved yi.ps.toList args,h,nx⟩ { tmps:=(yi.ps.zip us).foldl (fun tmps (x:Tmp×Value)=>tmps.setIfInBounds x.1 x.2) rec.tmps,defers:=[] } w:=⟨hbase,hT,hh⟩
  refine hself none yi.assign _ _ _ _ _ _ h1 hob.1 (some L) nn ρ _ w _ (.inl hc3) S0 trivial fun ρ1 a1 w1 P1=>?_
  have hL1:w1.heap[L]? = some (.loop rec):=(P1.stp.live.same L hlt q4).trans r1
  have n1 : ¬ ρ1.live L:=fun q=>q4 (P1.stp.ext.new L hlt q)
  refine ⟨_,run_beginRound hL1 r2,?_⟩
  have Sf:Ay w1 (w1.putObj L (.loop { rec with state:=.busy })):=Ay.put hL1 (.inl ⟨_,rfl⟩) (.inl ⟨_,rfl⟩)
  have S1:SR ρ1 st1 a1 (w1.putObj L (.loop { rec with state:=.busy })):=⟨P1.sr.defers.soft hL1,P1.sr.tmps.soft Sf,P1.sr.heap.soft Sf⟩
  have hlt1:L<(w1.putObj L (.loop { rec with state:=.busy })).heap.size:=by rw [World.putObj_size];exact Nat.lt_of_lt_of_le hlt P1.stp.wle.size
  refine hself none yi.body _ _ _ _ _ _ h2 hob.2 (some L) nn ρ1 a1 _ _ (.inl hc4) S1 trivial fun ρ2 a2 w3 P2=>?_
  have hL3:w3.heap[L]? = some (.loop { rec with state:=.busy }):=(P2.stp.live.same L hlt1 n1).trans (World.putObj_heap_same (by simpa using hlt1))
  have n2 : ¬ ρ2.live L:=fun q=>n1 (P2.stp.ext.new L hlt1 q)
  have pin1:ρ1.pin.2=some (L,yi.b):=by rw [P1.stp.ext.pin];exact hL
  have pin2:ρ2.pin.2=some (L,yi.b):=by rw [P2.stp.ext.pin];exact pin1
  have Sall:∀ (r':Loop),T8 (some yi) ρ w ρ2 (w3.putObj L (.loop r')):=fun r' =>
    (((P1.stp.wide).trans (T8.put pin1 hL1)).trans P2.stp.wide).trans (T8.put pin2 hL3)
  have hback:∀ b,ρ2.ok b→ρ.ok b∨nx≤b:=by
    intro b q
    rcases P2.back b q with q | q
    · exact P1.back b q
    · exact .inr (Nat.le_trans P1.le q)
  have hnok : ¬ ρ2.ok yi.b:=fun q=>(hback _ q).elim q1 (by omega)
  have hle:nx≤KB.next:=Nat.le_trans P1.le P2.le
  have S2:∀ (r':Loop),Ay w3 (w3.putObj L (.loop r')):=fun r'=>Ay.put hL3 (.inl ⟨_,rfl⟩) (.inl ⟨_,rfl⟩)
  have hlt3:L<w3.heap.size:=(Array.getElem?_eq_some_iff.1 hL3).1
  have hrec:∀ (s:LoopState) (pe:Option Code),aen ρ2 (w3.putObj L (.loop { rec with state:=s,pending:=pe })) L yi s pe:=fun s pe =>
    ⟨_,World.putObj_heap_same hlt3,rfl,rfl,r4,r5,r6,dC.stp (Sall _).vr r7⟩
  cases e with
  | normal =>
    simp only [Option.some.injEq,Prod.mk.injEq] at hr
    obtain ⟨rfl,rfl,rfl,_,_⟩:=hr
    refine ⟨_,_,run_endRound none hL3,hR ρ2 _ _ (Sall _) (P2.sr.heap.soft (S2 _)) ⟨hnok,q2,L,pin2,n2,.ready,none,by rw [hk2];rfl,hrec _ _⟩ (.bool _ _) hback hle⟩
  | ret =>
    simp only [Option.some.injEq,Prod.mk.injEq] at hr
    obtain ⟨rfl,rfl,rfl,_,_⟩:=hr
    refine ⟨_,_,run_endRound (some .ret) hL3,hR ρ2 _ _ (Sall _) ((P2.sr.heap.soft (S2 _)).ghost hnok (by omega) trivial (fun x=>rfl)) ⟨hnok,q2,L,pin2,n2,.done,some .ret,by rw [dx,if_pos rfl];rfl,hrec _ _⟩ (.bool _ _) hback hle⟩
  | exit id =>
    simp only [Option.some.injEq,Prod.mk.injEq] at hr
    obtain ⟨rfl,rfl,rfl,_,_⟩:=hr
    refine ⟨_,_,run_endRound (some (.exit id)) hL3,hR ρ2 _ _ (Sall _) ((P2.sr.heap.soft (S2 _)).ghost hnok (by omega) (fun i j=>⟨rfl,rfl⟩) (fun x=>by simp [aU.cell?])) ⟨hnok,q2,L,pin2,n2,.done,some (.exit id),by rw [dx,if_pos rfl];rfl,hrec _ _⟩ (.bool _ _) hback hle⟩
theorem YB{d:Option aU}{e:AE}(h:Jr (zG d)=some e) :∃ s pe,zG d=some (s,pe)∧s ≠ .busy∧((e=.normal∧pe=none)∨(e=.ret∧pe=some .ret)∨∃ id,e=.exit id∧pe=some (.exit id)):=by
  unfold Jr at h
  split at h
  · rename_i q;cases h;exact ⟨_,_,q,by simp,.inl ⟨rfl,rfl⟩⟩
  · rename_i q;cases h;exact ⟨_,_,q,by simp,.inr (.inl ⟨rfl,rfl⟩)⟩
  · rename_i id q;cases h;exact ⟨_,_,q,by simp,.inr (.inr ⟨id,rfl,rfl⟩)⟩
  · cases h
def aie(st:aM)(fn:Func)(first caps:List AV) :aM:=⟨(first ++ .yld st.next::caps)++List.replicate (fn.ntmps-(first ++ .yld st.next::caps).length) (.tup []),il st.heap st.next (.vs []),st.next+1⟩
theorem alY{C:BO}(hC:C.Ok){g:Operand}{ps:Array Tmp}{assign body:Code}{st:aM}{gf:FuncId}{fn:Func}{c:Code}{first caps:List AV}{e1 e2:AE}{st1:aM}(hev:evA st.tmps g=.fn (.func gf) first caps)(hfn:C.P.funcs[gf]? = some fn)(hbody:fn.body=some c) 
    (hc2:fn.results.isEmpty=true) (hne:∀ id,e1 ≠ .exit id) (hcl:Lh st1.heap=true) (hend:Jr (zG (bD st1.heap st.next))=some e2)
    {nn:Nat} {ρ:aC} {a:Act} {w:World} {Q:Exit→Act→World→Prop} (hpn:ρ.pin.2=none) (hs:SR ρ st a w)
    (hgo:∀ (ρi:aC) (wi:World) (ai:Act) (Qi:Exit→Act→World→Prop),SR ρi (aie st fn first caps) ai wi→sW (some ⟨st.next,st.tmps,ps,assign,body⟩) ρi wi (aie st fn first caps).heap (aie st fn first caps).next→(∀ b,ρi.ok b→b<st.next+1) →
      (∀ ρ' a' w',oj ρi ρ' wi→ki (ρi.wm (some ⟨st.next,st.tmps,ps,assign,body⟩)) wi w'→SR ρ' st1 a' w'→st.next+1≤st1.next→(∀ b,ρ'.ok b→ρi.ok b∨st.next+1≤b)→sW (some ⟨st.next,st.tmps,ps,assign,body⟩) ρ' w' st1.heap st1.next→Qi e1.real a' w')→c.wpIn (FW none) (nn-1) C.P Qi ai wi)
    (hQ:∀ ρ' a' w',td none ρ w st.next ⟨st.tmps,EC st1.heap st.next,st1.next⟩ ρ' a' w'→Q e2.real a' w'):(Code.rangeFunc g ps assign body).wpIn (FW none) nn C.P Q a w:=by
  refine wpIn_rangeFunc ?_
  intro f0 _
  have hg:=HF hs.heap.rom hs.tmps g
  rw [hev] at hg
  generalize hgv:a.eval g=gv at hg
  cases hg with | fn _ _ _ c1 c2 v1 v2 =>
  obtain ⟨w1,hw1⟩:∃ w1,(w.alloc (.deferred (some []))).alloc (.loop { state:=.ready,pending:=none,fn:=f0,tmps:=a.tmps,params:=ps,assign,body,defers:=w.heap.size })=w1:=⟨_,rfl⟩
  refine ⟨w.heap.size+1,[{ target:=.collected w.heap.size,args:=#[] }],w1,{ target:=.fn (.func gf) c2,args:=c1 ++ #[Value.func (.yield (w.heap.size+1)) #[] #[]] },w1,gf,c1 ++ #[Value.func (.yield (w.heap.size+1)) #[] #[]]++c2,w1,?_,?_,fun _ _=>trivial,?_,T6,?_⟩
  · rw [←hw1];exact run_enterLoop_outer _ _ _ _ _
  · simp only [resolve,hgv]
    simp [Deferred.ofValue,Act.eval]
  · have eg:=hC.enter gf fn (c1 ++ #[Value.func (.yield (w.heap.size+1)) #[] #[]]++c2) w1 hfn (by rw [hbody];rfl)
    simp only [invoke]
    exact eg
  have hsz1:w1.heap.size=w.heap.size+2:=by rw [←hw1];simp
  have hD1:w1.heap[w.heap.size]? = some (.deferred (some [])):=by
    rw [←hw1,lE (by simp),fB]
  have hL1:w1.heap[w.heap.size+1]? = some (.loop { state:=.ready,pending:=none,fn:=f0,tmps:=a.tmps,params:=ps,assign,body,defers:=w.heap.size }):=by
    rw [←hw1]
    have:=fB (w.alloc (.deferred (some []))) (.loop { state:=.ready,pending:=none,fn:=f0,tmps:=a.tmps,params:=ps,assign,body,defers:=w.heap.size })
    simpa using this
  have W1:ki ρ.live w w1:=by rw [←hw1];exact (ki.alloc _ _ _).trans (ki.alloc _ _ _) (fun _ _ q=>q)
  have same1:∀ b,b<w.heap.size→w1.heap[b]? = w.heap[b]?:=fun b hb=>by
    rw [←hw1,lE (by simp;omega),lE hb]
  have nlive:∀ b,w.heap.size≤b→¬ ρ.live b:=fun b hb q=>by have:=hs.heap.liveLt b q;omega
  have nok : ¬ ρ.ok st.next:=fun q=>by have:=hs.heap.lt _ q;omega
  have tmps1:∀ {l:List AV} {us:List Value},dC ρ w l us→dC (ρ.pinned (w1.heap.size,some (w.heap.size+1,st.next))) w1 l us:=fun hv=>(hv.mono (oj.refl _ _) W1).noPin hpn _
  have hH1:HR (ρ.pinned (w1.heap.size,some (w.heap.size+1,st.next))) w1 (il st.heap st.next (.vs [])) (st.next+1):=by
    refine HR.ghost ((((hs.heap.step W1 (fun bl hl=>same1 bl (hs.heap.liveLt bl hl))).noPin hpn _)).le (Nat.le_succ _)) nok (Nat.lt_succ_self _) trivial (fun x=>rfl)
  have hargs:dC (ρ.pinned (w1.heap.size,some (w.heap.size+1,st.next))) w1 ((first ++ .yld st.next::caps)++List.replicate (fn.ntmps-(first ++ .yld st.next::caps).length) (.tup []))
      ((c1 ++ #[Value.func (.yield (w.heap.size+1)) #[] #[]]++c2)++Array.replicate (fn.ntmps-(c1 ++ #[Value.func (.yield (w.heap.size+1)) #[] #[]]++c2).size) undef).toList:=by
    have l1:=v1.length
    have l2:=v2.length
    have e:(first++AV.yld st.next::caps).length=(c1 ++ #[Value.func (.yield (w.heap.size+1)) #[] #[]]++c2).size:=by simp at l1 l2 ⊢;omega
    rw [e]
    have hrep:∀ n,dC (ρ.pinned (w1.heap.size,some (w.heap.size+1,st.next))) w1 (List.replicate n (.tup [])) (List.replicate n undef):=by
      intro n
      induction n with
      | zero=>exact .nil
      | succ n ih=>exact .cons _ _ _ _ (.tup [] #[] .nil) ih
    have hmid:dC (ρ.pinned (w1.heap.size,some (w.heap.size+1,st.next))) w1 (.yld st.next::caps) (Value.func (.yield (w.heap.size+1)) #[] #[]::c2.toList):=.cons _ _ _ _ (.yld _ _ rfl) (tmps1 v2)
    have hall:=dC.append (hrep (fn.ntmps-(c1 ++ #[Value.func (.yield (w.heap.size+1)) #[] #[]]++c2).size)) (dC.append hmid (tmps1 v1))
    simpa using hall
  refine callsIn_of_wp_marks hfn hbody trivial ?_ rfl
  have S0:SR (ρ.pinned (w1.heap.size,some (w.heap.size+1,st.next))) ⟨(first ++ .yld st.next::caps)++List.replicate (fn.ntmps-(first ++ .yld st.next::caps).length) (.tup []),il st.heap st.next (.vs []),st.next+1⟩
      { tmps:=(c1 ++ #[Value.func (.yield (w.heap.size+1)) #[] #[]]++c2)++Array.replicate (fn.ntmps-(c1 ++ #[Value.func (.yield (w.heap.size+1)) #[] #[]]++c2).size) undef,defers:=[] } w1:=⟨Nat.le_refl _,hargs,hH1⟩
  have P0:sW (some ⟨st.next,st.tmps,ps,assign,body⟩) (ρ.pinned (w1.heap.size,some (w.heap.size+1,st.next))) w1 (il st.heap st.next (.vs [])) (st.next+1) :=
    ⟨nok,Nat.lt_succ_self _,w.heap.size+1,rfl,nlive _ (by omega),.ready,none,by rw [dx,if_pos rfl];rfl,_,hL1,rfl,rfl,rfl,rfl,rfl,tmps1 hs.tmps⟩
  refine hgo _ _ _ _ S0 P0 (fun b q=>Nat.lt_succ_of_lt (hs.heap.lt b q)) fun ρ1 a1 w2 P1e P1w P1s P1l P1b P1p=>?_
  obtain ⟨s,pe,hst,hbusy,hcase⟩:=YB hend
  have E1:=P1e
  have pin1:ρ1.pin=(w1.heap.size,some (w.heap.size+1,st.next)):=E1.pin
  have key:LeavesInM (FW none) (nn-1) C.P fn a1.tmps (rangePost (FW none) nn C.P (w.heap.size+1) Q { a with defers:=[{ target:=.collected w.heap.size,args:=#[] }]++a.defers }) a1.defers .returning w2:=by
    refine HO (ρ:=ρ1) a1.defers P1s.defers fun w3 S3 hb3 hl3=>?_
    refine ⟨.tuple #[],?_,?_⟩
    · have:fn.results = #[]:=by simpa using hc2
      rw [aez,this]
      simp [Array.mapM_eq_mapM_toList]
    rw [pin1] at hb3
    have same2:∀ b,b<w1.heap.size→¬ ρ.live b→b≠w.heap.size+1→w2.heap[b]? = w1.heap[b]?:=fun b hb hnl hne=>P1w.same b hb (by
      rintro (q | ⟨_,k,q⟩)
      · exact hnl q
      · have:(some (w.heap.size+1,st.next):Option (Nat×Nat))=some (b,k):=q
        cases this;exact hne rfl)
    obtain ⟨_,_,L',q3,q4,s',pe',q5,rec,r1,r2,r3,r4,r5,r6,r7⟩:=P1p
    have:L'=w.heap.size+1:=by
      rw [show ρ1.pin.2=some (w.heap.size+1,st.next) from by rw [pin1]] at q3;cases q3;rfl
    subst this
    rw [hst] at q5;cases q5
    have hL3:w3.heap[w.heap.size+1]? = some (.loop rec):=(hb3 _ (by show _<w1.heap.size;omega)).trans r1
    refine ⟨_,_,run_endLoop hL3 (by rw [r2];exact hbusy),?_⟩
    have hlt3:w.heap.size+1<w3.heap.size:=(Array.getElem?_eq_some_iff.1 hL3).1
    have S4:Ay w3 (w3.putObj (w.heap.size+1) (.loop { rec with state:=.exhausted })):=Ay.put hL3 (.inl ⟨_,rfl⟩) (.inl ⟨_,rfl⟩)
    obtain ⟨w4,hw4⟩:∃ w4,w3.putObj (w.heap.size+1) (.loop { rec with state:=.exhausted })=w4:=⟨_,rfl⟩
    rw [hw4] at S4 ⊢
    have same4:∀ b,b≠w.heap.size+1→w4.heap[b]? = w3.heap[b]?:=fun b hb=>by rw [←hw4];exact World.putObj_heap_other hb
    have sameAll:∀ b,b<w1.heap.size→¬ ρ.live b→b≠w.heap.size+1→w4.heap[b]? = w1.heap[b]?:=fun b h1 h2 h3=>(same4 b h3).trans ((hb3 b h1).trans (same2 b h1 h2 h3))
    have W2:=P1w
    have W4:ki ρ.live w w4:=by
      refine ⟨S4.os.trans (S3.os.trans (W2.os.trans W1.os)),S4.tape.trans (S3.tape.trans (W2.tape.trans W1.tape)),S4.output.trans (S3.output.trans (W2.output.trans W1.output)),?_,fun b hb hnl=>(sameAll b (by omega) hnl (by omega)).trans (same1 b hb),fun b c t z hcell=>?_⟩
      · rw [S4.size,S3.size];have:=W2.size;omega
      · obtain ⟨c1,k1,k2⟩:=W1.sized b c t z hcell
        obtain ⟨c2,k3,k4⟩:=W2.sized b c1 t z k1
        exact ⟨c2,S4.cells (S3.cells k3),k4.trans k2⟩
    have E4:oj ρ (ρ1.pinned ρ.pin) w:=⟨E1.at_,E1.ok,E1.live,fun b hb q=>E1.new b (by omega) q,E1.out,rfl⟩
    have P4:td none ρ w st.next ⟨st.tmps,EC st1.heap st.next,st1.next⟩ (ρ1.pinned ρ.pin) { a with defers:=[{ target:=.collected w.heap.size,args:=#[] }]++a.defers } w4:=by
      refine ⟨.of E4 W4,⟨⟨⟨w.heap.size,rfl,(show ρ.pin.1≤_ from Ud hs.defers),?_,fun q=>nlive _ (Nat.le_refl _) (E1.new w.heap.size (by omega) q),?_,aam hs.defers⟩,hs.defers.mono E4 W4⟩,hs.tmps.mono E4 W4,?_⟩,Nat.le_trans (Nat.le_succ _) P1l,fun b q=>?_,trivial⟩
      · have:=W4.size;have:=W2.size;rw [S4.size,S3.size];omega
      · exact (sameAll _ (by omega) (nlive _ (Nat.le_refl _)) (by omega)).trans hD1
      · exact (((P1s.heap.soft S3).soft S4).pinned ρ.pin hcl).del _
      · rcases P1b b q with q | q
        · exact .inl q
        · exact .inr (Nat.le_trans (Nat.le_succ _) q)
    rcases hcase with ⟨rfl,rfl⟩ | ⟨rfl,rfl⟩ | ⟨id,rfl,rfl⟩
    · rw [r3];exact hQ _ _ _ P4
    · rw [r3];exact wpIn_ret (hQ _ _ _ P4)
    · rw [r3];exact wpIn_exit (hQ _ _ _ P4)
  cases e1 with
  | normal=>exact key
  | ret=>exact key
  | exit id=>exact (hne id rfl).elim
theorem aeA{C:BO}(hC:C.Ok){self:tc}(hself:EX C.P self){g:Operand}{ps:Array Tmp}{assign body:Code}{st st':aM}{p p':fC}{e:AE}{obs:List Bool}(h:U3 C self g ps assign body st p=some (e,st',obs,p'))(ho:aQ obs) 
    {nn:Nat} {ρ:aC} {a:Act} {w:World} {Q:Exit→Act→World→Prop} (hpn:ρ.pin.2=none) (hs:SR ρ st a w) (hQ:∀ ρ' a' w',td none ρ w st.next st' ρ' a' w'→Q e.real a' w'):(Code.rangeFunc g ps assign body).wpIn (FW none) nn C.P Q a w:=by
  unfold U3 at h
  split at h
  case h_2=>cases h
  rename_i gf first caps hev
  split at h
  case h_2=>cases h
  rename_i fn hfn
  split at h
  case h_2=>cases h
  rename_i c hbody
  cases hc:(jm c&&fn.results.isEmpty) with
  | false=>rw [hc] at h;cases h
  | true =>
  rw [hc] at h
  rw [Bool.and_eq_true] at hc
  simp only [cond_true] at h
  split at h
  · cases h
  case h_3=>cases h
  rename_i e1 st1 o1 p1 hne h1
  cases hcl:Lh st1.heap with
  | false=>rw [hcl] at h;cases h
  | true =>
  rw [hcl] at h
  simp only [cond_true] at h
  split at h
  case h_2=>cases h
  rename_i e2 hend
  simp only [Option.some.injEq,Prod.mk.injEq] at h;obtain ⟨rfl,rfl,rfl,rfl⟩:=h
  exact alY hC hev hfn hbody hc.2 hne hcl hend hpn hs (fun ρi wi ai Qi S0 P0 _ hQi=>hself (some ⟨st.next,st.tmps,ps,assign,body⟩) c _ _ _ _ _ _ h1 ho none _ ρi ai wi _ (.inl hc.1) S0 P0 fun ρ' a' w' P1=>hQi ρ' a' w' P1.stp.ext P1.stp.wle P1.sr P1.le P1.back P1.pin) hQ
theorem ab3{C:BO}(hC:C.Ok){run:gr}(hrun:UG C.P run){N:Nat}{self:tc}(hself:EX C.P self) :EX C.P (O1 C run N self):=by
  intro y c st p e st' obs p' h ho ro nn ρ a w Q hm hs hp hQ
  unfold O1 at h
  simp only at h
  split at h
  · simp only [Option.some.injEq,Prod.mk.injEq] at h;obtain ⟨rfl,rfl,rfl,rfl⟩:=h
    exact wpIn_skip (hQ ρ a w (td.refl hs hp))
  · simp only [Option.some.injEq,Prod.mk.injEq] at h;obtain ⟨rfl,rfl,rfl,rfl⟩:=h
    exact wpIn_label (hQ ρ a w (td.refl hs hp))
  · exact ab2 hC hrun (apm hself y) h ho hs hp hQ
  · rename_i x z
    refine wpIn_seq ?_
    split at h
    · rename_i st1 o1 p1 h1
      split at h
      case h_2=>cases h
      rename_i e2 KB o2 p2 h2
      simp only [Option.some.injEq,Prod.mk.injEq] at h;obtain ⟨rfl,rfl,rfl,rfl⟩:=h
      rw [bI] at ho
      refine hself y x st p _ _ _ _ h1 ho.1 ro nn ρ a w _ (hm.sub fun q=>by simp only [jm,Bool.and_eq_true] at q;exact q.1) hs hp fun ρ1 a1 w1 P1=>?_
      exact hself y z st1 p1 _ _ _ _ h2 ho.2 ro nn ρ1 a1 w1 Q ((hm.sub fun q=>by simp only [jm,Bool.and_eq_true] at q;exact q.2).ext P1.stp.ext) P1.sr P1.pin fun ρ2 a2 w2 P2=>hQ ρ2 a2 w2 (P1.trans P2)
    · rename_i hne
      refine hself y x st p _ _ _ _ h ho ro nn ρ a w _ (hm.sub fun q=>by simp only [jm,Bool.and_eq_true] at q;exact q.1) hs hp fun ρ1 a1 w1 P1=>?_
      have:=hQ ρ1 a1 w1 P1
      cases e with
      | normal=>exact (hne _ _ _ h).elim
      | ret=>exact this
      | exit id=>exact this
  · rename_i cc x z
    split at h
    case h_2=>cases h
    rename_i b o1 p1 h1
    split at h
    case h_2=>cases h
    rename_i e2 KB o2 p2 h2
    simp only [Option.some.injEq,Prod.mk.injEq] at h;obtain ⟨rfl,rfl,rfl,rfl⟩:=h
    rw [bI] at ho
    have hb:=Li (HF hs.heap.rom hs.tmps cc) h1 ho.1
    refine wpIn_cond hb ?_
    have hs':SR ρ { st with tmps:=ta st.tmps cc b } a w:=by
      refine ⟨hs.defers,?_,hs.heap⟩
      cases cc with
      | tmp t =>
        simp only [ta,Je]
        have:dC ρ w (st.tmps.set t (.bool true b)) (a.tmps.toList.set t (.bool b)):=hs.tmps.set (.bool _ _) t
        have e:a.tmps.toList.set t (.bool b)=a.tmps.toList:=by
          apply List.ext_getElem?
          intro j
          rw [List.getElem?_set]
          split
          · rename_i q;subst q
            split
            · rename_i hlt
              simp only [Act.eval] at hb
              rw [Array.getD_eq_getD_getElem?] at hb
              have hlt':t<a.tmps.size:=by simpa using hlt
              rw [Array.getElem?_eq_getElem hlt'] at hb
              simp only [Option.getD_some] at hb
              simp [hlt',hb]
            · rename_i hge
              rw [List.getElem?_eq_none (by omega)]
          · rfl
        rw [e] at this;exact this
      | const v=>exact hs.tmps
      | global g=>exact hs.tmps
      | func f=>exact hs.tmps
    have:=hself y _ _ p1 _ _ _ _ h2 ho.2 ro nn ρ a w Q (hm.sub fun q=>by simp only [jm,Bool.and_eq_true] at q;cases b<;>first | exact q.1 | exact q.2) hs' hp hQ
    cases b<;>exact this
  · rename_i id b
    refine wpIn_block ?_
    split at h
    · rename_i id' st1 o1 p1 h1
      cases hid:Nat.beq id' id with
      | true =>
        rw [hid] at h
        simp only [cond_true,Option.some.injEq,Prod.mk.injEq] at h;obtain ⟨rfl,rfl,rfl,rfl⟩:=h
        refine hself y b st p _ _ _ _ h1 ho ro nn ρ a w _ (hm.sub fun q=>by simpa only [jm] using q) hs hp fun ρ1 a1 w1 P1=>?_
        simp only [AE.real,Exit.inBlock,Nat.eq_of_beq_eq_true hid,if_true]
        exact hQ ρ1 a1 w1 P1
      | false =>
        rw [hid] at h
        simp only [cond_false,Option.some.injEq,Prod.mk.injEq] at h;obtain ⟨rfl,rfl,rfl,rfl⟩:=h
        refine hself y b st p _ _ _ _ h1 ho ro nn ρ a w _ (hm.sub fun q=>by simpa only [jm] using q) hs hp fun ρ1 a1 w1 P1=>?_
        have hne : ¬ id'=id:=fun e=>by subst e;simp [sN] at hid
        simp only [AE.real,Exit.inBlock,hne,if_false]
        exact hQ ρ1 a1 w1 P1
    · rename_i hne
      refine hself y b st p _ _ _ _ h ho ro nn ρ a w _ (hm.sub fun q=>by simpa only [jm] using q) hs hp fun ρ1 a1 w1 P1=>?_
      have:=hQ ρ1 a1 w1 P1
      cases e with
      | normal=>exact this
      | ret=>exact this
      | exit id=>exact (hne _ _ _ _ h).elim
  · rename_i b
    exact wpIn_loop_rounds N (U4 (C:=C) (b:=b) (fun st p e st' obs p' h1 h2 ρ a w Q hm=>hself y b st p e st' obs p' h1 h2 ro nn ρ a w Q hm) N st p e st' obs p' h ho ρ a w Q (hm.sub fun q=>by simpa only [jm] using q) hs hp hQ)
  · simp only [Option.some.injEq,Prod.mk.injEq] at h;obtain ⟨rfl,rfl,rfl,rfl⟩:=h
    exact wpIn_exit (hQ ρ a w (td.refl hs hp))
  · simp only [Option.some.injEq,Prod.mk.injEq] at h;obtain ⟨rfl,rfl,rfl,rfl⟩:=h
    exact wpIn_ret (hQ ρ a w (td.refl hs hp))
  · rename_i b
    rcases hm with q | ⟨rfl,rfl,hpn⟩
    · cases q
    refine wpIn_wide.2 (wp_scope_straight (wpIn_wide.1 (hself none b st p _ _ _ _ h ho none nn ρ a w _ (.inr ⟨rfl,rfl,hpn⟩) hs hp fun ρ1 a1 w1 P1=>?_)))
    have:=hQ ρ1 a1 w1 P1
    cases e<;>exact this
  · rename_i g ps assign body
    split at h
    case h_2=>cases h
    rcases hm with q | ⟨rfl,_,q⟩
    · cases q
    · exact aeA hC hself h ho q hs hQ
  · cases h
theorem EX.old{P:Program}{self:tc}(h:EX P self) :ab1 P (self none):=by
  intro c st p e st' obs p' hr ho ρ a w Q hpn hs hQ
  exact wpIn_wide.1 (h none c st p e st' obs p' hr ho none 0 ρ a w Q (.inr ⟨rfl,rfl,hpn⟩) hs trivial fun ρ' a' w' P1=>hQ ρ' a' w' P1.old)
theorem U6{P:Program}{w:World}{t:TypeId}{x:Value}{u:Value}(hx:∃ a,x=.pointer (some a))(h:(Instr.loadAt t x).run P w=.ok u w) :(do loadVar t (←asAddr x):Sem Value).run P w=.ok u w:=by
  obtain ⟨a,rfl⟩:=hx
  simpa [Instr.loadAt,Instr.sureAddr,asAddr] using h
def U7(tmps:Array Value) :ResultVar→Sem Value
  | .tmp t=>pure (tmps.getD t undef)
  | .cell x t=>do loadVar t (←asAddr (tmps.getD x undef))
theorem aif(fn:Func)(tmps:Array Value) :results fn tmps=(do let vs ← fn.results.mapM (U7 tmps);pure (if h:vs.size=1 then vs[0] else .tuple vs)):=by
  unfold results
  congr 1
theorem HV{P:Program}{fn:Func}{st:aM}{ρ:aC}{a:Act}{w:World}(hs:SR ρ st a w) :∀ (l:List ResultVar) {vs:List AV} {obs:List Bool},mP P fn st l=some (vs,obs)→aQ obs →
    ∃ us:List Value,(l.mapM (U7 a.tmps)).run P w=.ok us w∧dC ρ w vs us
  | [],vs,obs,h,ho=>by
    simp only [mP,Option.some.injEq,Prod.mk.injEq] at h;obtain ⟨rfl,rfl⟩:=h
    exact ⟨[],by simp,.nil⟩
  | .tmp t::l,vs,obs,h,ho=>by
    simp only [mP] at h
    split at h
    case h_2=>cases h
    rename_i vs' o' h1
    simp only [Option.some.injEq,Prod.mk.injEq] at h;obtain ⟨rfl,rfl⟩:=h
    obtain ⟨us,q1,q2⟩:=HV hs l h1 ho
    refine ⟨a.tmps.getD t undef::us,?_,.cons _ _ _ _ (HF hs.heap.rom hs.tmps (.tmp t)) q2⟩
    simp only [List.mapM_cons,U7,Sem.run_bind,Sem.run_pure,Result.andThen_ok,q1]
  | .cell x t::l,vs,obs,h,ho=>by
    simp only [mP] at h
    split at h
    case h_2=>cases h
    rename_i v o rs vs' o' h1 h2
    simp only [Option.some.injEq,Prod.mk.injEq] at h;obtain ⟨rfl,rfl⟩:=h
    rw [bI] at ho
    obtain ⟨us,q1,q2⟩:=HV hs l h2 ho.2
    have hv:=HF hs.heap.rom hs.tmps (.tmp x)
    simp only [evA,Act.eval] at hv
    obtain ⟨u,r1,r2⟩:=Q8 (P:=P) hs.heap hv h1 ho.1
    have hp:∃ ad,a.tmps.getD x undef=.pointer (some ad):=by
      generalize a.tmps.getD x undef=z at hv
      unfold J6 at h1
      simp only at h1
      split at h1
      · rename_i e;rw [e] at hv;cases hv;exact ⟨_,rfl⟩
      · rename_i e;rw [e] at hv;cases hv;exact ⟨_,rfl⟩
      · cases h1
    have:=U6 hp r1
    refine ⟨u::us,?_,.cons _ _ _ _ r2 q2⟩
    simp only [List.mapM_cons,U7,Sem.run_bind] at this ⊢
    rw [this]
    simp only [Result.andThen_ok,Sem.run_bind,q1,Sem.run_pure]
theorem aeB{P:Program}{fn:Func}{st:aM}{ρ:aC}{a:Act}{w:World}(hs:SR ρ st a w){vs:List AV}{obs:List Bool}(h:mP P fn st fn.results.toList=some (vs,obs))(ho:aQ obs) :
    ∃ v,(results fn a.tmps).run P w=.ok v w∧VR ρ w (O2 vs) v:=by
  obtain ⟨us,q1,q2⟩:=HV hs fn.results.toList h ho
  have hl:=q2.length
  have hm:(fn.results.mapM (U7 a.tmps)).run P w=.ok us.toArray w:=by
    rw [Array.mapM_eq_mapM_toList,map_eq_pure_bind,Sem.run_bind,q1,Result.andThen_ok,Sem.run_pure]
  rw [aif,Sem.run_bind,hm,Result.andThen_ok]
  match vs,us,q2,hl with
  | [],[],q2,_=>exact ⟨.tuple #[],rfl,.tup _ _ .nil⟩
  | [v],[u],q2,_=>cases q2 with | cons _ _ _ _ h1 _=>exact ⟨u,rfl,h1⟩
  | v::v'::vs,u::u'::us,q2,_ =>
    refine ⟨.tuple (u::u'::us).toArray,?_,.tup _ _ q2⟩
    simp
theorem HW{P:Program}{f:FuncId}{fn:Func}{c:Code}(hf:P.funcs[f]? = some fn)(hc:fn.body=some c){lent:List aU}{args:List AV}{r:ib}{keep:Bool} 
    (h:∀ (ρ:aC) (w:World) (a:Act),kG ρ w lent→SR ρ (wS fn lent args) a w →
      c.wp P (fun e a' w'=>(e=.normal∨e=.ret)∧∃ ρ' st' vs obs,oj ρ ρ' w∧ki ρ.live w w'∧(∀ i,i<lent.length→ρ'.ok i→ρ.ok i)∧SR ρ' st' a' w'∧mP P fn st' fn.results.toList=some (vs,obs)∧aQ obs∧U2 lent.length keep st'.heap (O2 vs)=some r) a w):aB P f lent args r:=by
  intro ρ0 w us hN0 hv0
  refine ⟨⟨fn,hf,by rw [hc];rfl⟩,?_⟩
  have hv:=hv0.noPin hN0.pin (w.heap.size,none)
  have hN:kG (ρ0.pinned (w.heap.size,none)) w lent:=⟨hN0.heap.noPin hN0.pin _,hN0.only,rfl⟩
  generalize hρ:ρ0.pinned (w.heap.size,none)=ρ at hv hN
  have hb0:ρ.pin.1=w.heap.size:=by rw [←hρ];rfl
  have hlive:ρ.live=ρ0.live:=by rw [←hρ];rfl
  refine callsIn_wide.1 (callsIn_of_wp_marks (F:=FW none) (n:=0) hf hc trivial (wpIn_wide.2 ?_) rfl)
  have hlen:=hv.length
  have hs:SR ρ (wS fn lent args) { tmps:=us.toArray++Array.replicate (fn.ntmps-us.toArray.size) undef,defers:=[] } w:=by
    refine ⟨Nat.le_of_eq hb0,?_,hN.heap⟩
    simp only [wS,Array.toList_append,Array.toList_replicate,List.size_toArray,hlen]
    refine dC.append ?_ hv
    have:∀ n,dC ρ w (List.replicate n (.tup [])) (List.replicate n undef):=by
      intro n
      induction n with
      | zero=>exact .nil
      | succ n ih=>exact .cons _ _ _ _ (.tup [] #[] .nil) ih
    exact this _
  refine wp_mono (h ρ w _ hN hs) ?_
  rintro e a' w' ⟨he,ρ',st',vs,obs,E,W,hbk,S,hr,hob,hkeep⟩
  have fin:LeavesInM (FW none) 0 P fn a'.tmps (fun e w'=>∃ u,e=.returned u∧ki ρ0.live w w'∧r.Holds ρ0 w w' lent.length u) a'.defers .returning w':=by
    refine HO a'.defers S.defers fun w'' Sf hb _=>?_
    have S':SR ρ' st' { a' with defers:=[] } w'':=⟨by show ρ'.pin.1≤_;rw [Sf.size];exact Ud S.defers,S.tmps.soft Sf,S.heap.soft Sf⟩
    have W':ki ρ.live w w'':=⟨Sf.os.trans W.os,Sf.tape.trans W.tape,Sf.output.trans W.output,by rw [Sf.size];exact W.size,fun b hlt hnl=>(hb b (by rw [E.pin,hb0];exact hlt)).trans (W.same b hlt hnl),fun b c t z q=>by
      obtain ⟨c',k1,k2⟩:=W.sized b c t z q
      exact ⟨c',Sf.cells k1,k2⟩⟩
    obtain ⟨v,q1,q2⟩:=aeB S' hr hob
    refine ⟨v,q1,v,rfl,by rw [←hlive];exact W',?_⟩
    obtain ⟨ρ2,E2,k2,H2,v2⟩:=aey S'.heap hN E hbk W'.size q2 hkeep
    have hp2:ρ2.pin.2=none:=by rw [E2.pin];exact hN.pin
    subst hρ
    exact ⟨ρ2.pinned ρ0.pin,⟨E2.at_,E2.ok,E2.live,E2.new,E2.out,rfl⟩,k2,H2.noPin hp2 _,v2.noPin hp2 _⟩
  rcases he with rfl | rfl
  · exact fin
  · exact fin
theorem aeC{C:BO}{S:G5}(hS:aW C.P S){self:EW}(hself:ab1 C.P self) :UG C.P (vi C S self):=by
  intro f lent args p r obs p' h ho
  unfold vi at h
  split at h
  · rename_i alts hs
    simp only [Option.map_eq_some_iff,Prod.mk.injEq] at h
    obtain ⟨⟨alt,q⟩,h1,rfl,rfl,rfl⟩:=h
    exact hS f lent args alts alt hs (alW h1) ho
  · split at h
    case h_2=>cases h
    rename_i fn hf
    split at h
    case h_2=>cases h
    rename_i c hc
    split at h
    case h_2=>cases h
    rename_i e st o1 p1 hr
    cases hres:mP C.P fn st fn.results.toList with
    | none=>rw [hres] at h;cases e<;>cases h
    | some x =>
      obtain ⟨vs,o2⟩:=x
      rw [hres] at h
      have key:∀ (he:e=.normal∨e=.ret),(match U2 lent.length (C.mode f).keep st.heap (O2 vs) with | some r=>some (r,o1++o2,p1) | none=>none)=some (r,obs,p')→aB C.P f lent args r:=by
        intro he h
        split at h
        case h_2=>cases h
        rename_i r' hk
        simp only [Option.some.injEq,Prod.mk.injEq] at h;obtain ⟨rfl,rfl,rfl⟩:=h
        rw [bI] at ho
        refine HW (keep:=(C.mode f).keep) hf hc fun ρ w a hN hs=>?_
        refine hself c _ p e st o1 p1 hr ho.1 ρ a w _ hN.pin hs fun ρ' a' w' P1=>⟨?_,ρ',st,vs,o2,P1.ext,P1.wle,fun i hi q=>?_,P1.sr,hres,ho.2,hk⟩
        · rcases he with rfl | rfl
          · exact .inl rfl
          · exact .inr rfl
        · rcases P1.back i q with q | q
          · exact q
          · simp only [wS] at q;omega
      cases e with
      | normal=>exact key (.inl rfl) h
      | ret=>exact key (.inr rfl) h
      | exit id=>cases h
theorem HX{C:BO}(hC:C.Ok){S:G5}(hS:aW C.P S)(N:Nat) :∀ n,EX C.P (MM C S N n)
  | 0=>fun y c st p e st' obs p' h=>by cases h
  | n+1=>ab3 hC (aeC hS (HX hC hS N n).old) (HX hC hS N n)
theorem U8{C:BO}(hC:C.Ok){S:G5}(hS:aW C.P S)(N:Nat)(n:Nat) :ab1 C.P (kx C S N n):=(HX hC hS N n).old
theorem RV{C:BO}(hC:C.Ok){S:G5}(hS:aW C.P S)(N n:Nat){f:FuncId}{lent:List aU}{args:List AV}{p p':fC}{r:ib}{obs:List Bool}(h:vi C S (kx C S N n) f lent args p=some (r,obs,p'))(ho:aQ obs) :
    aB C.P f lent args r:=aeC hS (U8 hC hS N n) f lent args p r obs p' h ho
def Ue:List (Nat×RU)→Nat→Option RU
  | [],_=>none
  | (k,e)::l,f=>bif Nat.beq k f then some e else Ue l f
def aeD:List (Nat×ann)→Nat→ann
  | [],_=>⟨[],false⟩
  | (k,m)::l,f=>bif Nat.beq k f then m else aeD l f
def akL(P:Program)(l:List (Nat×RU))(ms:List (Nat×ann)) :BO:={ P,ext:=Ue l,mode:=aeD ms,wrap:=false }
theorem Rm:∀ {l:List (Nat×RU)} {f:Nat} {k:RU},Ue l f=some k→(f,k)∈l
  | [],f,k,h=>by cases h
  | (a,e)::l,f,k,h=>by
    simp only [Ue] at h
    cases hb:Nat.beq a f with
    | true=>rw [hb] at h;simp only [cond_true,Option.some.injEq] at h;have:=Nat.eq_of_beq_eq_true hb;subst this;subst h;simp
    | false=>rw [hb] at h;simp only [cond_false] at h;exact List.mem_cons_of_mem _ (Rm h)
structure aan (P:Program) (f:Nat) (k:RU):Prop where
  fn : ∃ fn, P.funcs[f]? = some fn ∧ (fn.name == "runtime.NumGoroutine") = false ∧ fn.body.isNone = true ∧ Extern.findNext fn = none ∧ Extern.find fn = some (HM k)
def akM(P : Program) : Bool := P.funcs.toList.all fun fn => !(fn.name == "runtime.NumGoroutine")
theorem ant{P:Program}{l:List (Nat×RU)}{ms:List (Nat×ann)}(hm:P.follows .mixedOrders=true)(hn:akM P=true)(he:∀ x∈l,aan P x.1 x.2) :(akL P l ms).Ok:=by
  refine ⟨hm,fun f fn args w hf hb=>?_,fun f k args w hk=>?_⟩
  · have h1 : fn.name ≠ "runtime.NumGoroutine" := by
      have hmem:fn∈P.funcs.toList:=by
        have:fn∈P.funcs:=Array.mem_of_getElem? hf
        simpa using this
      have:=List.all_eq_true.1 hn fn hmem
      simpa using this
    have h2:fn.body≠none:=by intro q;rw [q] at hb;cases hb
    have hf':P.funcs[f]? = some fn:=hf
    have h3:fn.body.isNone=false:=by cases hq:fn.body<;>simp_all
    simp only [akL,callFunc,Sem.run_bind,run_program,Result.andThen_ok,hf',beq_eq_false_iff_ne.2 h1,Bool.false_eq_true,if_false,h3,Sem.run_pure]
  · obtain ⟨fn,h1,h2,h3,h4,h5⟩:=(he _ (Rm hk)).fn
    have:=run_callFunc_extern (P:=P) h1 h2 h3 h4 h5 args w
    simp only [akL]
    rw [this,Sem.run_bind]
    rfl
def At(k:Nat)(ρ0:aC)(w0:World)(st:aM)(a:Act)(w:World) :Prop:=∃ ρ,oj ρ0 ρ w0∧ki ρ0.live w0 w∧SR ρ st a w∧(∀ i,i<k→ρ.ok i→ρ0.ok i)∧k≤st.next
def Sub(lent:List aU)(st st':aM) :Prop:=∀ ρ0 w0 a w,kG ρ0 w0 lent→At lent.length ρ0 w0 st a w→At lent.length ρ0 w0 st' a w
theorem Sub.refl(lent:List aU)(st:aM) :Sub lent st st:=fun _ _ _ _ _ h=>h
theorem Sub.trans{lent:List aU}{a b c:aM}(h:Sub lent a b)(k:Sub lent b c) :Sub lent a c:=fun _ _ _ _ hN q=>k _ _ _ _ hN (h _ _ _ _ hN q)
def aeE:AV→AV
  | .flt _ x=>.flt false x
  | .bool _ b=>.bool false b
  | v=>v
def nmB(σ:Nat→Option Nat) :aU→aU
  | .vs l=>.vs ((nmL σ l).map aeE)
  | d=>d
def Lp(σ:Nat→Option Nat)(h:cD) :Nat→List Nat→cD
  | _,[]=>[]
  | i,b::l=>match bD h b with
    | some d=>(i,nmB σ d)::Lp σ h (i+1) l
    | none=>Lp σ h (i+1) l
def arv(b:Bool)(v u:AV) :AV :=
  match b with
  | true=>v
  | false=>u
def aqd:List (Nat×AV)→Nat→AV
  | [],_=>.any
  | (k,v)::l,t=>arv (Nat.beq k t) v (aqd l t)
def aao(L:List (Nat×AV)) :Nat→Nat→List AV
  | _,0=>[]
  | t,n+1=>aqd L t::aao L (t+1) n
def aq(n:Nat)(L:List (Nat×AV)) :List AV:=aao L 0 n
def nmT(σ:Nat→Option Nat)(ks:List Nat) :Nat→List AV→List AV
  | _,[]=>[]
  | t,v::l=>(bif yv ks t then aeE (nmA σ v) else .any)::nmT σ ks (t+1) l
def norm(keep ks:List Nat)(st:aM) :aM :=
  ⟨nmT (oC keep 0) ks 0 st.tmps,Lp (oC keep 0) st.heap 0 keep,keep.length⟩
theorem aeF{ρ:aC}{w:World}{v:AV}{u:Value}(h:VR ρ w v u) :VR ρ w (aeE v) u:=by
  cases h<;>simp only [aeE]<;>first | exact .bool _ _ | (rename_i hf;refine .flt _ _ _ ?_;rcases hf with rfl | ⟨_,h2,h3⟩;exact .inl rfl;exact .inr ⟨rfl,h2,h3⟩) | skip
  case int=>exact .int _ _
  case str=>exact .str _
  case nptr=>exact .nptr
  case ptr hb=>exact .ptr _ _ _ _ hb
  case iptr=>rename_i bw d k i j bl o u' ha hb hr hg hc hv hk;exact .iptr bw d k i j bl o _ (by assumption) (by assumption) (by assumption) (by assumption) (by assumption) (by assumption) (by assumption)
  case nsl=>exact .nsl
  case esl=>exact .esl _
  case zsl=>exact .zsl _ _
  case nan=>exact .nan _ (by assumption)
  case sl=>exact .sl _ _ _ _ _ _ _ (by assumption) (by assumption) (by assumption) _ _ (by assumption) (by assumption)
  case slEnd=>exact .slEnd _ _ _ _ _
  case imm=>exact .imm _ _ _ _ _ _ _ _ _ _ (by assumption) (by assumption) (by assumption) (by assumption) (by assumption) (by assumption) (by assumption) (by assumption)
  case immEnd=>exact .immEnd _ _ _ _ _ _ _ (by assumption) (by assumption) (by assumption)
  case fn=>exact .fn _ _ _ _ _ (by assumption) (by assumption)
  case nfn=>exact .nfn
  case gmap=>exact .gmap _ _ _ _ _ _ (by assumption) (by assumption) (by assumption) (by assumption) (by assumption) (by assumption) (by assumption) (by assumption)
  case gvar=>exact .gvar _ _ _ _ (by assumption) (by assumption) (by assumption)
  case agg=>exact .agg _ _ (by assumption)
  case tup=>exact .tup _ _ (by assumption)
  case iface=>exact .iface _ _ _ (by assumption)
  case niface=>exact .niface
  case yld=>exact .yld _ _ (by assumption)
  case any=>exact .any _
theorem anv{ρ:aC}{keep ks:List Nat}{w:World} :∀ (l:List AV) (t:Nat) {c:List Value},dC ρ w l c→dC (ρ.renamed keep) w (nmT (oC keep 0) ks t l) c
  | [],t,c,h=>by cases h;exact .nil
  | v::l,t,c,h=>by
    cases h with | cons _ u _ c' h1 h2 =>
    simp only [nmT]
    refine .cons _ _ _ _ ?_ (anv l (t+1) h2)
    cases yv ks t with
    | true=>exact aeF (aal v h1)
    | false=>exact .any u
theorem EY{σ:Nat→Option Nat}{h:cD} :∀ {l:List Nat} {i c:Nat} {d:aU},bD (Lp σ h i l) c=some d→i≤c∧∃ b e,l[c-i]? = some b∧bD h b=some e∧d=nmB σ e
  | [],i,c,d,q=>by cases q
  | b::l,i,c,d,q=>by
    simp only [Lp] at q
    have next:bD (Lp σ h (i+1) l) c=some d→i≤c∧∃ b' e,(b::l)[c-i]? = some b'∧bD h b'=some e∧d=nmB σ e:=by
      intro q
      obtain ⟨h1,b',e,h2,h3,h4⟩:=EY q
      refine ⟨by omega,b',e,?_,h3,h4⟩
      have:c-i=(c-(i+1))+1:=by omega
      rw [this];simpa using h2
    split at q
    · rename_i e he
      simp only [gC,eZ] at q
      cases hc:Nat.beq i c with
      | true =>
        rw [hc] at q;simp only [cond_true,Option.some.injEq] at q
        have:=Nat.eq_of_beq_eq_true hc;subst this
        exact ⟨Nat.le_refl _,b,e,by simp,he,q.symm⟩
      | false=>rw [hc] at q;exact next q
    · exact next q
theorem anw{σ:Nat→Option Nat}{d:aU}(h:d.recKept) :(nmB σ d).recKept:=by
  cases d<;>first | exact h | trivial
theorem aeG{σ:Nat→Option Nat}{d:aU}{x:Nat}{v:AV}(h:(nmB σ d).cell? x=some v)(hr:d.recKept) :∃ v',d.cell? x=some v'∧(v=aeE (nmA σ v')∨(v=v'∧v.foreign=true)):=by
  cases d with
  | vs l =>
    simp only [nmB,aU.cell?,List.getElem?_map,ab0,Option.map_map,Option.map_eq_some_iff,Function.comp] at h
    obtain ⟨v',h1,rfl⟩:=h
    exact ⟨v',h1,.inl rfl⟩
  | fl xs=>exact ⟨v,h,.inr ⟨rfl,bp (d:=.fl xs) hr rfl x v h⟩⟩
  | ns k xs=>exact ⟨v,h,.inr ⟨rfl,bp (d:=.ns k xs) hr rfl x v h⟩⟩
  | bs xs=>exact ⟨v,h,.inr ⟨rfl,bp (d:=.bs xs) hr rfl x v h⟩⟩
  | ss xs=>exact ⟨v,h,.inr ⟨rfl,bp (d:=.ss xs) hr rfl x v h⟩⟩
  | rows k m get=>exact ⟨v,h,.inr ⟨rfl,bp (d:=.rows k m get) hr rfl x v h⟩⟩
  | cols m cs=>exact ⟨v,h,.inr ⟨rfl,bp (d:=.cols m cs) hr rfl x v h⟩⟩
def ab4:Nat→Nat→List Nat→Bool
  | 0,_,_=>true
  | _+1,_,[]=>false
  | k+1,i,b::l=>Nat.beq b i&&ab4 k (i+1) l
theorem U9:∀ {k i:Nat} {l:List Nat},ab4 k i l=true→∀ j,j<k→l[j]? = some (i+j)
  | 0,i,l,_,j,hj=>by omega
  | k+1,i,[],h,j,hj=>by cases h
  | k+1,i,b::l,h,j,hj=>by
    simp only [ab4,Bool.and_eq_true] at h
    cases j with
    | zero=>simp;exact Nat.eq_of_beq_eq_true h.1
    | succ j=>simp only [List.getElem?_cons_succ];rw [U9 h.2 j (by omega)];congr 1;omega
def aig(k:Nat)(keep:List Nat) :Bool:=CG keep&&ab4 k 0 keep
theorem Va{ρ:aC}{keep:List Nat}{i b:Nat}(q:keep[i]? = some b) :(ρ.renamed keep).at_ i=ρ.at_ b:=by simp [aC.renamed,q]
theorem apn{keep:List Nat}(hn:CG keep=true){ρ:aC}{w:World}{h:cD}{n:Nat}(hh:HR ρ w h n) :HR (ρ.renamed keep) w (Lp (oC keep 0) h 0 keep) keep.length:=by
  have atL:∀ {i b:Nat},keep[i]? = some b→(ρ.renamed keep).at_ i=ρ.at_ b:=fun q=>Va q
  refine ⟨fun c d q=>?_,fun c c' d d' q q' ok1 ok2 he=>?_,hh.fresh,hh.liveLt,hh.outLt,fun c q=>?_,fun x hx=>gE (hh.rom x hx) (jH (Rom.kept x hx))⟩
  · obtain ⟨_,b,e,h1,h2,rfl⟩:=EY q
    rw [Nat.sub_zero] at h1
    rcases hh.cell b e h2 with ⟨k1,k2,hr,ce,t,r1,r2⟩ | ⟨k1,k2,k3,k4⟩
    · refine .inl ⟨⟨b,h1,k1⟩,by rw [atL h1];exact k2,anw hr,ce,t,by rw [atL h1];exact r1,fun x v hx=>?_⟩
      obtain ⟨v',s1,s2⟩:=aeG hx hr
      obtain ⟨u,t1,t2⟩:=r2 x v' s1
      refine ⟨u,t1,?_⟩
      rcases s2 with rfl | ⟨rfl,hf⟩
      · exact aeF (aal v' t2)
      · exact gE t2 hf
    · refine .inr ⟨?_,(List.getElem?_eq_some_iff.1 h1).1,anw k3,fun x=>?_⟩
      · rintro ⟨b',q1,q2⟩
        rw [h1] at q1;cases q1
        exact k1 q2
      · cases hc:(nmB (oC keep 0) e).cell? x with
        | none=>rfl
        | some v=>obtain ⟨v',s1,_⟩:=aeG hc k3;rw [k4 x] at s1;cases s1
  · obtain ⟨_,b,e,h1,h2,rfl⟩:=EY q
    obtain ⟨_,b',e',h1',h2',rfl⟩:=EY q'
    rw [Nat.sub_zero] at h1 h1'
    obtain ⟨x,x1,x2⟩:=ok1
    obtain ⟨y,y1,y2⟩:=ok2
    rw [h1] at x1;cases x1
    rw [h1'] at y1;cases y1
    rw [atL h1,atL h1'] at he
    have:=hh.inj b b' e e' h2 h2' x2 y2 he
    subst this
    exact EQ hn h1 h1'
  · obtain ⟨b,h1,_⟩:=q
    exact (List.getElem?_eq_some_iff.1 h1).1
theorem anx{lent:List aU}{keep ks:List Nat}(hk:aig lent.length keep=true)(st:aM) :Sub lent st (norm keep ks st):=by
  unfold aig at hk
  rw [Bool.and_eq_true] at hk
  obtain ⟨hn,hid⟩:=hk
  have idL:∀ {i:Nat},i<lent.length→keep[i]? = some i:=fun q=>by have:=U9 hid _ q;simpa using this
  rintro ρ0 w0 a w hN ⟨ρ,E,W,S,hbk,hle⟩
  refine ⟨ρ.renamed keep,⟨fun b q=>?_,fun b q=>⟨b,idL (hN.heap.lt b q),E.ok b q⟩,E.live,E.new,E.out,E.pin⟩,W,⟨S.defers.renamed,anv _ _ S.tmps,apn hn S.heap⟩,fun i hi q=>?_,?_⟩
  · rw [Va (idL (hN.heap.lt b q))];exact E.at_ b q
  · obtain ⟨b,q1,q2⟩:=q
    rw [idL hi] at q1;cases q1
    exact hbk i hi q2
  · simp only [norm]
    rcases Nat.lt_or_ge keep.length lent.length with q | q
    · have:=idL q
      rw [List.getElem?_eq_none (Nat.le_refl _)] at this;cases this
    · exact q
inductive GP where
  | slot (t:Nat)
  | part (t i:Nat)
  | cell (b i:Nat)
def jA.empty:jA→Bool
  | .cf [] | .ci _ [] | .cb [] | .cs [] | .cfl [] | .cns _ []=>true
  | _=>false
def MP:List jA→Bool
  | []=>true
  | c::l=>c.empty&&MP l
def aU.isVoid:aU→Bool
  | .fl [] | .ns _ [] | .bs [] | .ss [] | .vs []=>true
  | .cols 0 cs=>MP cs
  | _=>false
theorem Vb{c:jA}(h:c.empty=true) :c.len=0:=by
  unfold jA.empty at h
  split at h<;>first | rfl | cases h
theorem CN:∀ {l:List jA},MP l=true→∀ c∈l,c.len=0
  | [],_,c,hc=>by cases hc
  | c::l,h,x,hx=>by
    simp only [MP,Bool.and_eq_true] at h
    rcases List.mem_cons.1 hx with rfl | q
    · exact Vb h.1
    · exact CN h.2 x q
theorem HY{d:aU}(h:d.isVoid=true) :d.recKept∧d.void:=by
  unfold aU.isVoid at h
  split at h
  case h_6 =>
    rename_i cs
    have:=CN h
    refine ⟨this,fun x=>?_⟩
    cases hc:(aU.cols 0 cs).cell? x with
    | none=>rfl
    | some v =>
      obtain ⟨c,_,h2,h3⟩:=jT hc
      have:=HD h3
      rw [CN h c h2] at this;exact absurd this (Nat.not_lt_zero _)
  case h_7=>cases h
  all_goals exact ⟨trivial,fun x=>by simp [aU.cell?]⟩
theorem Vc(b w es:Nat) :bJ .nsl (.sl b w es 0 0 0):=by
  intro ρ w' u h;cases h;exact .slEnd _ _ _ _ _
theorem HR.weaken{ρ:aC}{w:World}{h:cD}{n b:Nat}{d d':aU}(hh:HR ρ w h n)(hg:bD h b=some d)(hr:d'.recKept)(hw:∀ x v',d'.cell? x=some v'→∃ v,d.cell? x=some v∧bJ v v') :HR ρ w (il h b d') n:=by
  have look:∀ x e,bD (il h b d') x=some e→(x=b∧e=d')∨(x≠b∧bD h x=some e):=by
    intro x e hx
    rw [dx] at hx
    by_cases q:b=x
    · rw [if_pos q] at hx;cases hx;exact .inl ⟨q.symm,rfl⟩
    · rw [if_neg q] at hx;exact .inr ⟨fun e=>q e.symm,hx⟩
  have had:∀ x e,bD (il h b d') x=some e→∃ e',bD h x=some e':=by
    intro x e hx
    rcases look x e hx with ⟨rfl,_⟩ | ⟨_,q⟩
    · exact ⟨d,hg⟩
    · exact ⟨e,q⟩
  refine ⟨fun x e hx=>?_,fun x y e f h1 h2 ok1 ok2 he=>?_,hh.fresh,hh.liveLt,hh.outLt,hh.lt,hh.rom⟩
  · rcases look x e hx with ⟨rfl,rfl⟩ | ⟨_,q⟩
    · rcases hh.cell x d hg with ⟨k1,k2,_,c,t,r1,r2⟩ | ⟨k1,k2,_,k4⟩
      · refine .inl ⟨k1,k2,hr,c,t,r1,fun y v' hy=>?_⟩
        obtain ⟨v,q1,q2⟩:=hw y v' hy
        obtain ⟨u,t1,t2⟩:=r2 y v q1
        exact ⟨u,t1,q2 _ _ _ t2⟩
      · refine .inr ⟨k1,k2,hr,fun y=>?_⟩
        cases hc:e.cell? y with
        | none=>rfl
        | some v'=>obtain ⟨v,q1,_⟩:=hw y v' hc;rw [k4 y] at q1;cases q1
    · exact hh.cell x e q
  · obtain ⟨e',q1⟩:=had x e h1
    obtain ⟨f',q2⟩:=had y f h2
    exact hh.inj x y e' f' q1 q2 ok1 ok2 he
def aih(st:aM)(pos:GP)(w es:Nat)(d:aU) :aM :=
  match pos with
  | .slot t =>
    match st.tmps[t]? with
    | some .nsl=>⟨st.tmps.set t (.sl st.next w es 0 0 0),il st.heap st.next d,st.next+1⟩
    | some .esl=>⟨st.tmps.set t (.sl st.next w es 0 0 0),il st.heap st.next d,st.next+1⟩
    | _=>st
  | .part t i =>
    match st.tmps[t]? with
    | some (.agg l) =>
      match l[i]? with
      | some .nsl=>⟨st.tmps.set t (.agg (l.set i (.sl st.next w es 0 0 0))),il st.heap st.next d,st.next+1⟩
      | _=>st
    | _=>st
  | .cell b i =>
    match bD st.heap b with
    | some (.vs l) =>
      match l[i]? with
      | some .nsl=>⟨st.tmps,il (il st.heap b (.vs (l.set i (.sl st.next w es 0 0 0)))) st.next d,st.next+1⟩
      | _=>st
    | _=>st
theorem anz(b w es:Nat) :bJ .esl (.sl b w es 0 0 0):=by
  intro ρ w' u h;cases h;exact .slEnd _ _ _ _ _
theorem BS{ρ:aC}{w:World} :∀ {l:List AV} {c:List Value} {i:Nat} {v v':AV},dC ρ w l c→l[i]? = some v→bJ v v'→dC ρ w (l.set i v') c
  | _,_,i,v,v',.nil,h,_=>by simp at h
  | _,_,0,v,v',.cons a u l c h t,hi,hw=>by simp at hi;subst hi;exact .cons _ _ _ _ (hw _ _ _ h) t
  | _,_,i+1,v,v',.cons a u l c h t,hi,hw=>.cons _ _ _ _ h (BS t (by simpa using hi) hw)
structure RW (st st':aM):Prop where
  sr:∀ (ρ:aC) (a:Act) (w:World),SR ρ st a w→SR ρ st' a w
  le:st.next≤st'.next
  mark:∀ b,b<st.next→(zG (bD st.heap b)).isSome=true→bD st'.heap b=bD st.heap b
theorem RW.refl(st:aM) :RW st st:=⟨fun _ _ _ h=>h,Nat.le_refl _,fun _ _ _=>rfl⟩
theorem RW.trans{a b c:aM}(h:RW a b)(k:RW b c) :RW a c:=⟨fun ρ x w q=>k.sr ρ x w (h.sr ρ x w q),Nat.le_trans h.le k.le,fun x hx hs=>by
  have:=h.mark x hx hs
  exact (k.mark x (Nat.lt_of_lt_of_le hx h.le) (by rw [this];exact hs)).trans this⟩
theorem RW.sub{lent:List aU}{st st':aM}(h:RW st st') :Sub lent st st':=by
  rintro ρ0 w0 a w' hN ⟨ρ,E,W,S,hbk,hle⟩
  exact ⟨ρ,E,W,h.sr _ _ _ S,hbk,Nat.le_trans hle h.le⟩
theorem aap{h:cD}{b c i:Nat}{l:List AV}{v:AV}{d:aU}(hg:bD h b=some (.vs l))(hi:l[i]? = some v)(hs:(zG (bD h c)).isSome=true) :bD (il h b d) c=bD h c:=by
  rw [dx]
  by_cases e:b=c
  · subst e
    rw [hg] at hs
    cases l with
    | nil=>simp at hi
    | cons x l=>simp [zG] at hs
  · rw [if_neg e]
theorem aii{st:aM}{pos:GP}{w es:Nat}{d:aU}(hd:d.isVoid=true) :RW st (aih st pos w es d):=by
  obtain ⟨d1,d2⟩:=HY hd
  have hset1:∀ {h:cD} {b:Nat},b<st.next→bD (il h st.next d) b=bD h b:=fun hb=>by rw [dx,if_neg (by omega)]
  have hno:∀ {ρ:aC} {a:Act} {w':World},SR ρ st a w'→¬ ρ.ok st.next:=fun S q=>Nat.lt_irrefl _ (S.heap.lt _ q)
  have h1:∀ {ρ:aC} {a:Act} {w':World},SR ρ st a w'→HR ρ w' (il st.heap st.next d) (st.next+1):=fun S=>(S.heap.le (Nat.le_succ _)).ghost (hno S) (Nat.lt_succ_self _) d1 d2
  unfold aih
  split
  · split
    · rename_i t h
      exact ⟨fun ρ a w' S=>⟨S.defers,BS S.tmps h (Vc _ _ _),h1 S⟩,Nat.le_succ _,fun b hb _=>hset1 hb⟩
    · rename_i t h
      exact ⟨fun ρ a w' S=>⟨S.defers,BS S.tmps h (anz _ _ _),h1 S⟩,Nat.le_succ _,fun b hb _=>hset1 hb⟩
    · exact RW.refl _
  · split
    · rename_i t i l h
      split
      · rename_i h2
        refine ⟨fun ρ a w' S=>⟨S.defers,BS S.tmps h ?_,h1 S⟩,Nat.le_succ _,fun b hb _=>hset1 hb⟩
        intro ρ w u hu
        cases hu with | agg _ c hc=>exact .agg _ _ (BS hc h2 (Vc _ _ _))
      · exact RW.refl _
    · exact RW.refl _
  · split
    · rename_i b i _ l h
      split
      · rename_i h2
        refine ⟨fun ρ a w' S=>?_,Nat.le_succ _,fun c hc hs=>by rw [hset1 hc];exact aap h h2 hs⟩
        have hw:HR ρ w' (il st.heap b (.vs (l.set i (.sl st.next w es 0 0 0)))) st.next:=by
          refine S.heap.weaken h trivial fun x v' hx=>?_
          simp only [aU.cell?,List.getElem?_set] at hx ⊢
          by_cases hi:i=x
          · subst hi
            rw [if_pos rfl] at hx
            split at hx
            · cases hx;exact ⟨_,h2,Vc _ _ _⟩
            · cases hx
          · rw [if_neg hi] at hx;exact ⟨v',hx,bJ.refl _⟩
        exact ⟨S.defers,S.tmps,(hw.le (Nat.le_succ _)).ghost (hno S) (Nat.lt_succ_self _) d1 d2⟩
      · exact RW.refl _
    · exact RW.refl _
def Vd(f:AV→Option AV)(st:aM)(pos:GP) :aM :=
  match pos with
  | .slot t =>
    match st.tmps[t]? with
    | some v=>match f v with
      | some v'=>⟨st.tmps.set t v',st.heap,st.next⟩
      | none=>st
    | none=>st
  | .part t i =>
    match st.tmps[t]? with
    | some (.agg l) =>
      match l[i]? with
      | some v=>match f v with
        | some v'=>⟨st.tmps.set t (.agg (l.set i v')),st.heap,st.next⟩
        | none=>st
      | none=>st
    | _=>st
  | .cell b i =>
    match bD st.heap b with
    | some (.vs l) =>
      match l[i]? with
      | some v=>match f v with
        | some v'=>⟨st.tmps,il st.heap b (.vs (l.set i v')),st.next⟩
        | none=>st
      | none=>st
    | _=>st
theorem Lq{st:aM}{pos:GP}{f:AV→Option AV}(hf:∀ v v',f v=some v'→bJ v v') :RW st (Vd f st pos):=by
  unfold Vd
  split
  · split
    · rename_i t v h
      split
      · rename_i v' hv
        exact ⟨fun ρ a w' S=>⟨S.defers,BS S.tmps h (hf _ _ hv),S.heap⟩,Nat.le_refl _,fun _ _ _=>rfl⟩
      · exact RW.refl _
    · exact RW.refl _
  · split
    · rename_i t i l h
      split
      · rename_i v h2
        split
        · rename_i v' hv
          refine ⟨fun ρ a w' S=>⟨S.defers,BS S.tmps h ?_,S.heap⟩,Nat.le_refl _,fun _ _ _=>rfl⟩
          intro ρ w u hu
          cases hu with | agg _ c hc=>exact .agg _ _ (BS hc h2 (hf _ _ hv))
        · exact RW.refl _
      · exact RW.refl _
    · exact RW.refl _
  · split
    · rename_i b i _ l h
      split
      · rename_i v h2
        split
        · rename_i v' hv
          refine ⟨fun ρ a w' S=>?_,Nat.le_refl _,fun c hc hs=>aap h h2 hs⟩
          have hw:HR ρ w' (il st.heap b (.vs (l.set i v'))) st.next:=by
            refine S.heap.weaken h trivial fun x u hx=>?_
            simp only [aU.cell?,List.getElem?_set] at hx ⊢
            by_cases hi:i=x
            · subst hi
              rw [if_pos rfl] at hx
              split at hx
              · cases hx;exact ⟨_,h2,hf _ _ hv⟩
              · cases hx
            · rw [if_neg hi] at hx;exact ⟨u,hx,bJ.refl _⟩
          exact ⟨S.defers,S.tmps,hw⟩
        · exact RW.refl _
      · exact RW.refl _
    · exact RW.refl _
theorem BT{d:aU}(h:d.isVoid=true) :d.kept=true∧d.foreign=true:=by
  unfold aU.isVoid at h
  split at h<;>first | exact ⟨rfl,rfl⟩ | cases h
theorem alZ{d:aU}(w es:Nat)(hd:d.isVoid=true) :bJ .nsl (.imm .free d w es 0 0):=by
  intro ρ w' u h;cases h;exact .immEnd _ _ _ _ _ _ _ (HY hd).1 (fun _=>(BT hd).1) (BT hd).2
theorem al0{d:aU}(w es:Nat)(hd:d.isVoid=true) :bJ .esl (.imm .free d w es 0 0):=by
  intro ρ w' u h;cases h;exact .immEnd _ _ _ _ _ _ _ (HY hd).1 (fun _=>(BT hd).1) (BT hd).2
def aij(w es:Nat)(d:aU) :AV→Option AV
  | .nsl | .esl=>some (.imm .free d w es 0 0)
  | _=>none
theorem aeH{w es:Nat}{d:aU}(hd:d.isVoid=true) :∀ v v',aij w es d v=some v'→bJ v v':=by
  intro v v' h
  unfold aij at h
  split at h
  · cases h;exact alZ _ _ hd
  · cases h;exact al0 _ _ hd
  · cases h
theorem akN{l:Lv}{ρ:aC}{bl:Nat}(ha:ρ.avoid .free bl) :ρ.avoid l bl:=nu (fun j=>ha j (Nat.zero_le _)) _ _
def aqQ(l:Lv) :AV→Option AV
  | .imm .free d w es i n=>some (.imm l d w es i n)
  | .iptr .free d w i j=>some (.iptr l d w i j)
  | _=>none
theorem al1{l:Lv} :∀ v v',aqQ l v=some v'→bJ v v':=by
  intro v v' h
  unfold aqQ at h
  split at h
  · cases h
    intro ρ w' u hu
    cases hu with
    | imm _ _ _ _ _ _ cap bl o u ha hb hc hv hn hr hk hg=>exact .imm _ _ _ _ _ _ cap bl o u (akN ha) hb hc hv hn hr (fun _=>hk rfl) hg
    | immEnd _ _ _ _ _ cap a hr hk hg=>exact .immEnd _ _ _ _ _ cap a hr (fun _=>hk rfl) hg
  · cases h
    intro ρ w' u hu
    cases hu with
    | iptr _ _ _ _ _ bl o u ha hb hc hv hr hk hg=>exact .iptr _ _ _ _ _ bl o u (akN ha) hb hc hv hr (fun _=>hk rfl) hg
  · cases h
def anA:AV→Option AV
  | .imm _ d w es i n=>some (.imm .lent d w es i n)
  | .iptr _ d w i j=>some (.iptr .lent d w i j)
  | _=>none
theorem aik:∀ v v',anA v=some v'→bJ v v':=by
  intro v v' h
  unfold anA at h
  split at h
  · cases h
    intro ρ w' u hu
    cases hu with
    | imm _ _ _ _ _ _ cap bl o u ha hb hc hv hn hr hk hg=>exact .imm _ _ _ _ _ _ cap bl o u (K8 (O:=ρ.own) ha) hb hc hv hn hr (fun q=>by cases q) hg
    | immEnd _ _ _ _ _ cap a hr hk hg=>exact .immEnd _ _ _ _ _ cap a hr (fun q=>by cases q) hg
  · cases h
    intro ρ w' u hu
    cases hu with
    | iptr _ _ _ _ _ bl o u ha hb hc hv hr hk hg=>exact .iptr _ _ _ _ _ bl o u (K8 (O:=ρ.own) ha) hb hc hv hr (fun q=>by cases q) hg
  · cases h
inductive GK where
  | own (w es:Nat) (d:aU)
  | fre (w es:Nat) (d:aU)
  | lev (l:Lv)
  | low
abbrev GL:=List (GP×GK)
def Lr:GL→aM→aM
  | [],st=>st
  | (p,.fre w es d)::l,st=>Lr l (Vd (aij w es d) st p)
  | (p,.own w es d)::l,st=>Lr l (aih st p w es d)
  | (p,.lev v)::l,st=>Lr l (Vd (aqQ v) st p)
  | (p,.low)::l,st=>Lr l (Vd anA st p)
def oE:GL→Bool
  | []=>true
  | (_,.own _ _ d)::l=>d.isVoid&&oE l
  | (_,.fre _ _ d)::l=>d.isVoid&&oE l
  | (_,.lev _)::l=>oE l
  | (_,.low)::l=>oE l
theorem AB:∀ {l:GL} {st:aM},oE l=true→RW st (Lr l st)
  | [],st,_=>RW.refl _
  | (p,.fre w es d)::l,st,h=>by
    simp only [oE,Bool.and_eq_true] at h
    exact (Lq (aeH h.1)).trans (AB h.2)
  | (p,.own w es d)::l,st,h=>by
    simp only [oE,Bool.and_eq_true] at h
    exact (aii h.1).trans (AB h.2)
  | (p,.lev v)::l,st,h=>(Lq al1).trans (AB (l:=l) (by simpa [oE] using h))
  | (p,.low)::l,st,h=>(Lq aik).trans (AB (l:=l) (by simpa [oE] using h))
theorem ail{lent:List aU}{l:GL}{st:aM}(h:oE l=true) :Sub lent st (Lr l st):=(AB h).sub
structure NS where
  gs:GL
  keep:List Nat
  ks:List Nat
def NS.ok(k:Nat)(s:NS) :Bool:=oE s.gs&&aig k s.keep
def NS.on(s:NS)(st:aM) :aM:=norm s.keep s.ks (Lr s.gs st)
theorem anB{lent:List aU}{s:NS}(h:s.ok lent.length=true)(st:aM) :Sub lent st (s.on st):=by
  unfold NS.ok at h
  rw [Bool.and_eq_true] at h
  exact (ail h.1).trans (anx h.2 _)
def cg:Code→List Code
  | .seq a b=>cg a++cg b
  | .skip=>[]
  | .label _=>[]
  | c=>[c]
def Yi(P:Program) :List Code→(Exit→Act→World→Prop)→Act→World→Prop
  | [],K,a,w=>K .normal a w
  | c::l,K,a,w=>c.wp P (fun e a' w'=>match e with | .normal=>Yi P l K a' w' | e=>K e a' w') a w
theorem Ls{P:Program}{K:Exit→Act→World→Prop} :∀ (l l':List Code) (a:Act) (w:World),Yi P l (fun e a' w'=>match e with | .normal=>Yi P l' K a' w' | e=>K e a' w') a w→Yi P (l++l') K a w
  | [],l',a,w,h=>h
  | c::l,l',a,w,h=>by
    simp only [List.cons_append,Yi] at h ⊢
    refine wp_mono h ?_
    intro e a' w' q
    cases e<;>first | exact Ls l l' a' w' q | exact q
theorem CO{P:Program}{c:Code}{K:Exit→Act→World→Prop}{a:Act}{w:World}(h:Yi P [c] K a w) :c.wp P K a w:=by
  simp only [Yi] at h
  refine wp_mono h ?_
  intro e a' w' q
  cases e<;>exact q
theorem EZ{P:Program} :∀ (c:Code) {K:Exit→Act→World→Prop} {a:Act} {w:World},Yi P (cg c) K a w→c.wp P K a w
  | .seq x y,K,a,w,h=>by
    simp only [cg] at h
    refine wp_seq (EZ x ?_)
    have app:∀ (l l':List Code) (a:Act) (w:World),Yi P (l++l') K a w→Yi P l (fun e a' w'=>match e with | .normal=>Yi P l' K a' w' | e=>K e a' w') a w:=by
      intro l
      induction l with
      | nil=>intro l' a w h;exact h
      | cons c l ih =>
        intro l' a w h
        simp only [List.cons_append,Yi] at h ⊢
        refine wp_mono h ?_
        intro e a' w' q
        cases e<;>first | exact ih l' a' w' q | exact q
    have:=app _ _ _ _ h
    have mono:∀ (l:List Code) (K K':Exit→Act→World→Prop) (a:Act) (w:World),(∀ e a w,K e a w→K' e a w)→Yi P l K a w→Yi P l K' a w:=by
      intro l
      induction l with
      | nil=>intro K K' a w hK h;exact hK _ _ _ h
      | cons c l ih =>
        intro K K' a w hK h
        simp only [Yi] at h ⊢
        refine wp_mono h ?_
        intro e a' w' q
        cases e<;>first | exact ih K K' a' w' hK q | exact hK _ _ _ q
    refine mono _ _ _ _ _ ?_ this
    intro e a' w' q
    cases e<;>first | exact EZ y q | exact q
  | .skip,K,a,w,h=>wp_skip h
  | .label _,K,a,w,h=>wp_label h
  | .region ..,K,a,w,h=>CO h
  | .cond ..,K,a,w,h=>CO h
  | .block ..,K,a,w,h=>CO h
  | .loop ..,K,a,w,h=>CO h
  | .exit ..,K,a,w,h=>CO h
  | .ret,K,a,w,h=>CO h
  | .scope ..,K,a,w,h=>CO h
  | .goto ..,K,a,w,h=>CO h
  | .rangeFunc ..,K,a,w,h=>CO h
  | .refuse ..,K,a,w,h=>CO h
def kA(P:Program)(lent:List aU)(cs:List Code)(st:aM)(Q:AE→aM→Prop) :Prop :=
  ∀ (ρ0:aC) (w0:World),kG ρ0 w0 lent→∀ (K:Exit→Act→World→Prop),(∀ e st' a' w',Q e st'→At lent.length ρ0 w0 st' a' w'→K e.real a' w')→∀ a w,At lent.length ρ0 w0 st a w→Yi P cs K a w
def al2(self:EW) :List Code→aM→fC→Res
  | [],st,p=>some (.normal,st,[],p)
  | c::l,st,p =>
    match self c st p with
    | some (.normal,st1,o1,p1) =>
      match al2 self l st1 p1 with
      | some (e,KB,o2,p2)=>some (e,KB,o1++o2,p2)
      | none=>none
    | r=>r
theorem akO{P:Program}{self:EW}(hself:ab1 P self) :∀ (cs:List Code) {st st':aM} {p p':fC} {e:AE} {obs:List Bool},al2 self cs st p=some (e,st',obs,p')→aQ obs→∀ {ρ:aC} {a:Act} {w:World} {Q:Exit→Act→World→Prop},ρ.pin.2=none→SR ρ st a w →
    (∀ ρ' a' w',UL ρ w st.next st' ρ' a' w'→Q e.real a' w')→Yi P cs Q a w
  | [],st,st',p,p',e,obs,h,ho,ρ,a,w,Q,hpn,hs,hQ=>by
    simp only [al2,Option.some.injEq,Prod.mk.injEq] at h;obtain ⟨rfl,rfl,rfl,rfl⟩:=h
    exact hQ ρ a w (UL.refl hs)
  | c::l,st,st',p,p',e,obs,h,ho,ρ,a,w,Q,hpn,hs,hQ=>by
    simp only [al2] at h
    split at h
    · rename_i st1 o1 p1 h1
      split at h
      case h_2=>cases h
      rename_i e2 KB o2 p2 h2
      simp only [Option.some.injEq,Prod.mk.injEq] at h;obtain ⟨rfl,rfl,rfl,rfl⟩:=h
      rw [bI] at ho
      refine hself c st p _ _ _ _ h1 ho.1 ρ a w _ hpn hs fun ρ1 a1 w1 P1=>?_
      exact akO hself l h2 ho.2 (by rw [P1.ext.pin];exact hpn) P1.sr fun ρ2 a2 w2 P2=>hQ ρ2 a2 w2 (P1.trans P2)
    · rename_i hne
      refine hself c st p _ _ _ _ h ho ρ a w _ hpn hs fun ρ1 a1 w1 P1=>?_
      have:=hQ ρ1 a1 w1 P1
      cases e with
      | normal=>exact (hne _ _ _ h).elim
      | ret=>exact this
      | exit id=>exact this
theorem At.post{lent:List aU}{ρ0 ρ ρ':aC}{w0 w w':World}{st st':aM}{a a':Act}(E:oj ρ0 ρ w0)(W:ki ρ0.live w0 w)(hbk:∀ i,i<lent.length→ρ.ok i→ρ0.ok i)(hle:lent.length≤st.next)(h:UL ρ w st.next st' ρ' a' w') :At lent.length ρ0 w0 st' a' w' :=
  ⟨ρ',E.trans h.ext W.size,W.trans h.wle (fun x hx q=>E.new x hx q),h.sr,fun i hi q=>(h.back i q).elim (hbk i hi) (fun r=>by omega),Nat.le_trans hle h.le⟩
theorem kA.weak{P:Program}{lent:List aU}{cs:List Code}{st st1:aM}{Q:AE→aM→Prop}(hs:Sub lent st st1)(h:kA P lent cs st1 Q) :kA P lent cs st Q :=
  fun ρ0 w0 hN K hK a w hA=>h ρ0 w0 hN K hK a w (hs _ _ _ _ hN hA)
theorem kA.nil{P:Program}{lent:List aU}{st:aM}{Q:AE→aM→Prop}(h:Q .normal st) :kA P lent [] st Q :=
  fun ρ0 w0 hN K hK a w hA=>hK .normal st a w h hA
def YC(P:Program)(lent:List aU)(rest:List Code)(e:AE)(st:aM)(Q:AE→aM→Prop) :Prop :=
  match e with
  | .normal=>kA P lent rest st Q
  | e=>Q e st
theorem YC.exit{P:Program}{lent:List aU}{rest:List Code}{id:Nat}{st:aM}{Q:AE→aM→Prop}(h:Q (.exit id) st) :YC P lent rest (.exit id) st Q:=h
theorem YC.ret{P:Program}{lent:List aU}{rest:List Code}{st:aM}{Q:AE→aM→Prop}(h:Q .ret st) :YC P lent rest .ret st Q:=h
theorem YC.normal{P:Program}{lent:List aU}{rest:List Code}{st:aM}{Q:AE→aM→Prop}(h:kA P lent rest st Q) :YC P lent rest .normal st Q:=h
def anC(s:NS)(r:Res) :Option (AE×aM×List Bool) :=
  match r with
  | some (e,st,obs,_)=>some (e,s.on st,obs)
  | none=>none
theorem kA.seg{C:BO}(hC:C.Ok){S:G5}(hS:aW C.P S){lent:List aU}{N n:Nat}(k:Nat)(p:fC)(s:NS){cs:List Code}{st st1:aM}{e:AE}{obs:List Bool}{Q:AE→aM→Prop} 
    (h:anC s (al2 (kx C S N n) (cs.take k) st p)=some (e,st1,obs)) (hn:s.ok lent.length=true) (ho:aQ obs) (hr:YC C.P lent (cs.drop k) e st1 Q):kA C.P lent cs st Q:=by
  intro ρ0 w0 hN K hK a w ⟨ρ,E,W,S1,hbk,hle⟩
  rw [←List.take_append_drop k cs]
  apply Ls
  unfold anC at h
  split at h
  case h_2=>cases h
  rename_i e' KB obs' p' hrun
  simp only [Option.some.injEq,Prod.mk.injEq] at h;obtain ⟨rfl,rfl,rfl⟩:=h
  refine akO (U8 hC hS N n) _ hrun ho (by rw [E.pin];exact hN.pin) S1 fun ρ' a' w' P1=>?_
  have hA:=anB hn KB ρ0 w0 a' w' hN (At.post (st:=st) (a:=a) E W hbk hle P1)
  cases e' with
  | normal=>exact hr ρ0 w0 hN K hK a' w' hA
  | ret=>exact hK _ _ _ _ hr hA
  | exit id=>exact hK _ _ _ _ hr hA
def MQ(P:Program)(lent:List aU){σ:Type}(I:σ→aM)(G:σ→Prop)(m:σ→Nat)(s:σ)(id:Nat)(rest:List Code)(Q:AE→aM→Prop)(e:AE)(st:aM) :Prop :=
  match e with
  | .normal=>∃ s',G s'∧m s'<m s∧st=I s'
  | .exit j=>if j=id then kA P lent rest st Q else Q (.exit j) st
  | .ret=>Q .ret st
theorem MQ.out{P:Program}{lent:List aU}{σ:Type}{I:σ→aM}{G:σ→Prop}{m:σ→Nat}{s:σ}{id:Nat}{rest:List Code}{Q:AE→aM→Prop}{st:aM}(h:kA P lent rest st Q) :MQ P lent I G m s id rest Q (.exit id) st:=by
  simp only [MQ,if_true];exact h
theorem MQ.on{P:Program}{lent:List aU}{σ:Type}{I:σ→aM}{G:σ→Prop}{m:σ→Nat}{s:σ}{id:Nat}{rest:List Code}{Q:AE→aM→Prop}{st:aM}(s':σ)(hs:st=I s')(hm:m s'<m s)(hG:G s') :kA P lent [] st (MQ P lent I G m s id rest Q) :=
  kA.nil ⟨s',hG,hm,hs⟩
theorem kA.loop{P:Program}{lent:List aU}{σ:Type}(I:σ→aM)(G:σ→Prop)(m:σ→Nat){id:Nat}{b:Code}{cs rest:List Code}{Q:AE→aM→Prop}(hcs:cs=.block id (.loop b)::rest) 
    (body:∀ s,G s→kA P lent (cg b) (I s) (MQ P lent I G m s id rest Q)) (s:σ) (hs:G s):kA P lent cs (I s) Q:=by
  subst hcs
  intro ρ0 w0 hN K hK a w hA
  simp only [Yi]
  refine wp_block ?_
  refine wp_loop_rounds (m s+1) ?_
  have key:∀ n s,m s<n→G s→∀ a w,At lent.length ρ0 w0 (I s) a w→Code.rounds P b (Exit.inBlock id fun (e:Exit) a' w'=>match e with | .normal=>Yi P rest K a' w' | e=>K e a' w') n a w:=by
    intro n
    induction n with
    | zero=>intro s h;omega
    | succ n ih =>
      intro s hm hs a w hA
      rw [rounds_succ]
      refine EZ b ?_
      refine body s hs ρ0 w0 hN _ ?_ a w hA
      intro e st' a' w' hR hA'
      cases e with
      | normal =>
        obtain ⟨s',h1,h2,rfl⟩:=hR
        exact ih s' (by omega) h1 a' w' hA'
      | ret=>exact hK _ _ _ _ hR hA'
      | exit j =>
        simp only [MQ] at hR
        by_cases hj:j=id
        · subst hj
          rw [if_pos rfl] at hR
          simp only [AE.real,Exit.then,Exit.inBlock,if_true]
          exact hR ρ0 w0 hN K hK a' w' hA'
        · rw [if_neg hj] at hR
          simp only [AE.real,Exit.then,Exit.inBlock,hj,if_false]
          exact hK _ _ _ _ hR hA'
  exact key _ s (Nat.lt_succ_self _) hs a w hA
theorem kA.mono{P:Program}{lent:List aU}{cs:List Code}{st:aM}{Q Q':AE→aM→Prop}(hQ:∀ e st,Q e st→Q' e st)(h:kA P lent cs st Q) :kA P lent cs st Q' :=
  fun ρ0 w0 hN K hK a w hA=>h ρ0 w0 hN K (fun e st' a' w' q hA'=>hK e st' a' w' (hQ e st' q) hA') a w hA
theorem kA.block{P:Program}{lent:List aU}{id:Nat}{b:Code}{cs rest:List Code}{st:aM}{Q:AE→aM→Prop}(hcs:cs=.block id b::rest) 
    (h:kA P lent (cg b) st fun e st'=>match e with | .normal=>kA P lent rest st' Q | .exit j=>if j=id then kA P lent rest st' Q else Q (.exit j) st' | .ret=>Q .ret st'):kA P lent cs st Q:=by
  subst hcs
  intro ρ0 w0 hN K hK a w hA
  simp only [Yi]
  refine wp_block (EZ b ?_)
  refine h ρ0 w0 hN _ ?_ a w hA
  intro e st' a' w' hR hA'
  cases e with
  | normal=>exact hR ρ0 w0 hN K hK a' w' hA'
  | ret=>exact hK _ _ _ _ hR hA'
  | exit j =>
    simp only at hR
    by_cases hj:j=id
    · subst hj
      rw [if_pos rfl] at hR
      simp only [AE.real,Exit.inBlock,if_true]
      exact hR ρ0 w0 hN K hK a' w' hA'
    · rw [if_neg hj] at hR
      simp only [AE.real,Exit.inBlock,hj,if_false]
      exact hK _ _ _ _ hR hA'
theorem kA.scope{P:Program}{lent:List aU}{b:Code}{cs rest:List Code}{st:aM}{Q:AE→aM→Prop}(hcs:cs=.scope b::rest) 
    (h:kA P lent (cg b) st fun e st'=>YC P lent rest e st' Q):kA P lent cs st Q:=by
  subst hcs
  intro ρ0 w0 hN K hK a w hA
  simp only [Yi]
  refine wp_scope_straight (EZ b ?_)
  refine h ρ0 w0 hN _ ?_ a w hA
  intro e st' a' w' hR hA'
  cases e with
  | normal=>exact hR ρ0 w0 hN K hK a' w' hA'
  | ret=>exact hK _ _ _ _ hR hA'
  | exit j=>exact hK _ _ _ _ hR hA'
def akP(P:Program)(fn:Func)(k:Nat)(keep:Bool)(r:ib)(e:AE)(st:aM) :Prop :=
  (e=.normal∨e=.ret)∧∃ vs obs,mP P fn st fn.results.toList=some (vs,obs)∧aQ obs∧U2 k keep st.heap (O2 vs)=some r
theorem kA.contract{P:Program}{f:FuncId}{fn:Func}{c:Code}(hf:P.funcs[f]? = some fn)(hc:fn.body=some c){lent:List aU}{args:List AV}{r:ib}{keep:Bool} 
    (h:kA P lent (cg c) (wS fn lent args) (akP P fn lent.length keep r)):aB P f lent args r:=by
  refine HW (keep:=keep) hf hc ?_
  intro ρ w a hN hs
  refine EZ c ?_
  refine h ρ w hN _ ?_ a w ⟨ρ,oj.refl _ _,ki.refl _ _,hs,fun _ _ q=>q,Nat.le_refl _⟩
  rintro e st' a' w' ⟨he,vs,obs,h1,h2,h3⟩ ⟨ρ',E,W,S,hbk,_⟩
  refine ⟨?_,ρ',st',vs,obs,E,W,hbk,S,h1,h2,h3⟩
  rcases he with rfl | rfl
  · exact .inl rfl
  · exact .inr rfl
def co(x:Nat) :Nat:=x%9223372036854775808
def kj(x y:Nat) :Nat:=x%9223372036854775808+y/9223372036854775808%2*9223372036854775808
def anD(x y:Nat) :Bool:=(isNaN x&&isNaN y)||x==y
theorem Js(x:Nat) :BitVec.ofInt 64 (x:Int)=BitVec.ofNat 64 x:=by simp
theorem apo : ~~~ BitVec.ofInt 64 9223372036854775808=BitVec.ofNat 64 (2^63-1):=by decide
theorem te(n:Nat) :IntKind.u64.wrap (n:Int)=((n%18446744073709551616:Nat):Int):=by
  simp [IntKind.wrap,IntKind.signed,IntKind.bits]
theorem anE(x:Nat) :(cL .andNot .u64 (x:Int) 9223372036854775808)=((co x:Nat):Int):=by
  have e:(BitVec.ofInt IntKind.u64.bits (x:Int) &&& ~~~ BitVec.ofInt IntKind.u64.bits 9223372036854775808).toNat=x%9223372036854775808:=by
    show (BitVec.ofInt 64 (x:Int) &&& ~~~ BitVec.ofInt 64 9223372036854775808).toNat=_
    rw [apo,Js,BitVec.toNat_and,BitVec.toNat_ofNat,BitVec.toNat_ofNat]
    have:(2^63-1)%2^64=2^63-1:=by decide
    rw [this,Nat.and_two_pow_sub_one_eq_mod]
    omega
  unfold cL
  simp only
  rw [e,te]
  congr 1
  unfold co
  omega
theorem aqR(y:Nat) :(cL .and .u64 (y:Int) 9223372036854775808)=((y/9223372036854775808%2*9223372036854775808:Nat):Int):=by
  have e:(BitVec.ofInt IntKind.u64.bits (y:Int) &&& BitVec.ofInt IntKind.u64.bits 9223372036854775808).toNat=y/9223372036854775808%2*9223372036854775808:=by
    show (BitVec.ofInt 64 (y:Int) &&& BitVec.ofInt 64 9223372036854775808).toNat=_
    have h1:BitVec.ofInt 64 9223372036854775808=BitVec.ofNat 64 (2^63):=by decide
    rw [h1,Js,BitVec.toNat_and,BitVec.toNat_ofNat,BitVec.toNat_ofNat]
    have:2^63%2^64=2^63:=by decide
    rw [this]
    apply Nat.eq_of_testBit_eq;intro i
    have e2:(9223372036854775808:Nat)=2^63:=by decide
    rw [e2,Nat.testBit_and,Nat.testBit_two_pow,Nat.testBit_mod_two_pow,Nat.testBit_mul_two_pow]
    by_cases hi:63=i
    · subst hi
      simp [Nat.testBit_eq_decide_div_mod_eq]
    · by_cases h2:63≤i
      · have h3:∃ j,i-63=j+1:=⟨i-64,by omega⟩
        obtain ⟨j,hj⟩:=h3
        have:(y/2^63%2).testBit (i-63)=false:=by
          have:=Nat.mod_lt (y/2^63) (by decide:2>0)
          apply Nat.testBit_lt_two_pow
          calc y/2^63%2<2:=this
            _=2^1:=rfl
            _≤2^(i-63):=Nat.pow_le_pow_right (by decide) (by omega)
        simp [hi,this]
      · simp [hi,h2]
  unfold cL
  simp only
  rw [e,te]
  congr 1
  omega
theorem akQ(x:Nat) :(IntKind.u64.wrap ((x:Int)*2^min (Int.toNat 1) IntKind.u64.bits)).fdiv (2^min (Int.toNat 1) IntKind.u64.bits)=((co x:Nat):Int):=by
  have h1:min (Int.toNat 1) IntKind.u64.bits=1:=by decide
  have h2:(2:Int)^1=2:=by decide
  rw [h1,h2]
  have h3:(x:Int)*2=((x*2:Nat):Int):=by push_cast;rfl
  rw [h3,te,Int.fdiv_eq_ediv_of_nonneg _ (by decide:(0:Int)≤2)]
  unfold co
  omega
theorem apq(y:Nat) :IntKind.u64.wrap ((y:Int).fdiv (2^min (Int.toNat 63) IntKind.u64.bits)*2^min (Int.toNat 63) IntKind.u64.bits)=((y/9223372036854775808%2*9223372036854775808:Nat):Int):=by
  have h1:min (Int.toNat 63) IntKind.u64.bits=63:=by decide
  have h2:(2:Int)^63=9223372036854775808:=by decide
  rw [h1,h2,Int.fdiv_eq_ediv_of_nonneg _ (by decide:(0:Int)≤9223372036854775808)]
  have h3:(y:Int)/9223372036854775808*9223372036854775808=((y/9223372036854775808*9223372036854775808:Nat):Int):=by rw [Int.natCast_mul,Int.natCast_ediv];rfl
  rw [h3,te]
  congr 1
  omega
theorem aqe(x y:Nat) :cL .or .u64 ((co x:Nat):Int) ((y/9223372036854775808%2*9223372036854775808:Nat):Int)=((kj x y:Nat):Int):=by
  have e:(BitVec.ofInt IntKind.u64.bits ((co x:Nat):Int) ||| BitVec.ofInt IntKind.u64.bits ((y/9223372036854775808%2*9223372036854775808:Nat):Int)).toNat=kj x y:=by
    show (BitVec.ofInt 64 ((co x:Nat):Int) ||| BitVec.ofInt 64 ((y/9223372036854775808%2*9223372036854775808:Nat):Int)).toNat=_
    rw [Js,Js,BitVec.toNat_or,BitVec.toNat_ofNat,BitVec.toNat_ofNat]
    unfold co kj
    have hb0:=Nat.mod_lt (y/9223372036854775808) (by decide:2>0)
    generalize y/9223372036854775808%2=b at *
    have e2:(9223372036854775808:Nat)=2^63:=by decide
    have l1:x%9223372036854775808%2^64=x%9223372036854775808:=by omega
    rw [l1]
    rcases Nat.lt_or_ge b 2 with hb | hb
    · have l2:b*9223372036854775808%2^64=b*9223372036854775808:=by omega
      rw [l2,Nat.or_comm,Nat.add_comm,e2,Nat.mul_comm b,Nat.two_pow_add_eq_or_of_lt (Nat.mod_lt _ (by decide))]
    · omega
  unfold cL
  simp only
  rw [e,te]
  congr 1
  unfold kj
  have:=Nat.mod_lt x (by decide:9223372036854775808>0)
  have:=Nat.mod_lt (y/9223372036854775808) (by decide:2>0)
  omega
theorem oF(x:Nat) :isNaN (co x)=isNaN x:=by
  rw [oy,oy];unfold co;rw [Nat.mod_mod]
theorem BU(x y:Nat) :isNaN (kj x y)=isNaN x:=by
  rw [oy,oy];unfold kj
  rw [Nat.add_mul_mod_self_right,Nat.mod_mod]
theorem anF{ex:Bool}{x y:Nat}(h:FR ex x y) :FR false (co x) (co y):=by
  rcases h with rfl | ⟨h1,h2,h3⟩
  · exact .inl rfl
  · exact .inr ⟨rfl,by rw [oF];exact h2,by rw [oF];exact h3⟩
theorem FR.copy{e1 e2:Bool}{x y x' y':Nat}(h:FR e1 x x')(k:FR e2 y y')(hn:isNaN y=true→isNaN x=true) :FR false (kj x y) (kj x' y'):=by
  rcases h with rfl | ⟨h1,h2,h3⟩
  · rcases k with rfl | ⟨k1,k2,k3⟩
    · exact .inl rfl
    · exact .inr ⟨rfl,by rw [BU];exact hn k2,by rw [BU];exact hn k2⟩
  · exact .inr ⟨rfl,by rw [BU];exact h2,by rw [BU];exact h3⟩
theorem FR.same{e1 e2:Bool}{x y x' y':Nat}(h:FR e1 x x')(k:FR e2 y y') :anD x' y'=anD x y:=by
  unfold anD
  rcases h with rfl | ⟨h1,h2,h3⟩
  · rcases k with rfl | ⟨k1,k2,k3⟩
    · rfl
    · rw [k2,k3]
      cases hx:isNaN x' with
      | true=>rfl
      | false =>
        have a:(x'==y')=false:=by
          rw [beq_eq_false_iff_ne];intro e;rw [e] at hx;rw [hx] at k3;cases k3
        have b:(x'==y)=false:=by
          rw [beq_eq_false_iff_ne];intro e;rw [e] at hx;rw [hx] at k2;cases k2
        rw [a,b]
  · rcases k with rfl | ⟨k1,k2,k3⟩
    · rw [h2,h3]
      cases hx:isNaN y' with
      | true=>rfl
      | false =>
        have a:(x'==y')=false:=by
          rw [beq_eq_false_iff_ne];intro e;rw [e] at h3;rw [hx] at h3;cases h3
        have b:(x==y')=false:=by
          rw [beq_eq_false_iff_ne];intro e;rw [e] at h2;rw [hx] at h2;cases h2
        rw [a,b]
    · rw [h2,h3,k2,k3];rfl
theorem ib.Holds.weak{ρ:aC}{w w':World}{k:Nat}{v v':AV}{own:List (Option aU)}{u:Value}(h:(⟨v,own⟩:ib).Holds ρ w w' k u)(hw:∀ ρ w,VR ρ w v u→VR ρ w v' u) :(⟨v',own⟩:ib).Holds ρ w w' k u:=by
  obtain ⟨ρ',h1,h2,h3,h4⟩:=h
  exact ⟨ρ',h1,h2,h3,hw _ _ h4⟩
theorem Gq{P:Program}{f:FuncId}{ex:Bool}{x:Nat}{r:Nat→AV}{r':AV}(h:∀ y,aB P f [] [.flt true y] ⟨r y,[]⟩) 
    (hw:∀ y,FR ex x y→∀ ρ w u,VR ρ w (r y) u→VR ρ w r' u):aB P f [] [.flt ex x] ⟨r',[]⟩:=by
  intro ρ w us hN hv
  cases hv with | cons _ u _ _ h1 h2 =>
  cases h2
  cases h1 with | flt _ _ y hf =>
  obtain ⟨q1,q2⟩:=h y ρ w [.float .f64 y] hN (.cons _ _ _ _ (.flt _ _ _ (.inl rfl)) .nil)
  refine ⟨q1,q2.mono ?_⟩
  rintro e w' ⟨u,rfl,W,hu⟩
  exact ⟨u,rfl,W,hu.weak fun ρ w=>hw y hf ρ w u⟩
theorem Gr{P:Program}{f:FuncId}{e1 e2:Bool}{x1 x2:Nat}{r:Nat→Nat→AV}{r':AV}(h:∀ y1 y2,aB P f [] [.flt true y1,.flt true y2] ⟨r y1 y2,[]⟩) 
    (hw:∀ y1 y2,FR e1 x1 y1→FR e2 x2 y2→∀ ρ w u,VR ρ w (r y1 y2) u→VR ρ w r' u):aB P f [] [.flt e1 x1,.flt e2 x2] ⟨r',[]⟩:=by
  intro ρ w us hN hv
  cases hv with | cons _ u _ _ h1 h2 =>
  cases h2 with | cons _ u _ _ h3 h4 =>
  cases h4
  cases h1 with | flt _ _ y1 hf1 =>
  cases h3 with | flt _ _ y2 hf2 =>
  obtain ⟨q1,q2⟩:=h y1 y2 ρ w [.float .f64 y1,.float .f64 y2] hN (.cons _ _ _ _ (.flt _ _ _ (.inl rfl)) (.cons _ _ _ _ (.flt _ _ _ (.inl rfl)) .nil))
  refine ⟨q1,q2.mono ?_⟩
  rintro e w' ⟨u,rfl,W,hu⟩
  exact ⟨u,rfl,W,hu.weak fun ρ w=>hw y1 y2 hf1 hf2 ρ w u⟩
theorem VR.flt_weak{ρ:aC}{w:World}{x y:Nat}{u:Value}(h:VR ρ w (.flt true y) u)(hf:FR false x y) :VR ρ w (.flt false x) u:=by
  cases h with | flt _ _ z hz =>
  rcases hz with rfl | ⟨h1,_⟩
  · exact .flt _ _ _ hf
  · cases h1
theorem aeI(x:Nat) :fne x x=isNaN x:=by
  cases h:isNaN x with
  | true=>unfold fne;rw [BI (.inl h)];rfl
  | false =>
    simp only [fne,vv]
    unfold isNaN FloatKind.decode at h
    unfold Ieee.Format.order
    generalize FloatKind.f64.format.read x=d at h
    cases d with
    | nan=>simp [Ieee.Datum.isNaN] at h
    | infinity s=>simp [Ieee.Datum.order]
    | number s m i=>simp [Ieee.Datum.order]
structure aK where
  f:FuncId
  on:List aU→List AV→Option (List xx)
def HZ:List aK→G5
  | [],_,_,_=>none
  | e::l,f,lent,args=>bif Nat.beq e.f f then (match e.on lent args with | some r=>some r | none=>HZ l f lent args) else HZ l f lent args
def aeJ:List aK→Nat
  | []=>0
  | e::l=>Nat.lor (Nat.shiftLeft 1 e.f) (aeJ l)
def aT(L:List aK) :G5:=fun f lent args=>bif UR (aeJ L) f then HZ L f lent args else none
def aY(P:Program)(e:aK) :Prop:=∀ lent args alts a,e.on lent args=some alts→a∈alts→aQ a.obs→aB P e.f lent args a.out
theorem aaq:∀ {L:List aK} {e:aK},e∈L→UR (aeJ L) e.f=true
  | x::l,e,h=>by
    rw [Jp]
    show ((1 <<< x.f) ||| aeJ l).testBit e.f=true
    rw [Nat.testBit_or,Bool.or_eq_true]
    rcases List.mem_cons.1 h with rfl | h
    · left;rw [Nat.one_shiftLeft,Nat.testBit_two_pow];simp
    · right;rw [←Jp];exact aaq h
theorem Lt:∀ {L:List aK} {f:FuncId} {lent:List aU} {args:List AV} {alts:List xx},HZ L f lent args=some alts→∃ e∈L,e.f=f∧e.on lent args=some alts
  | e::l,f,lent,args,alts,h=>by
    simp only [HZ] at h
    cases hb:Nat.beq e.f f with
    | false=>rw [hb] at h;obtain ⟨x,h1,h2⟩:=Lt h;exact ⟨x,by simp [h1],h2⟩
    | true =>
      rw [hb] at h
      have:=Nat.eq_of_beq_eq_true hb
      simp only [cond_true] at h
      split at h
      · rename_i r hr;cases h;exact ⟨e,by simp,this,hr⟩
      · obtain ⟨x,h1,h2⟩:=Lt h;exact ⟨x,by simp [h1],h2⟩
theorem aar{L:List aK}{f:FuncId}{lent:List aU}{args:List AV}{alts:List xx}(h:HZ L f lent args=some alts) :aT L f lent args=some alts:=by
  obtain ⟨e,h1,h2,_⟩:=Lt h
  have:=aaq h1
  rw [h2] at this
  simp only [aT,this,cond_true];exact h
theorem Ve{L:List aK}{f:FuncId}{lent:List aU}{args:List AV}{alts:List xx}(h:aT L f lent args=some alts) :HZ L f lent args=some alts:=by
  unfold aT at h
  cases hb:UR (aeJ L) f with
  | false=>rw [hb] at h;cases h
  | true=>rw [hb] at h;exact h
theorem Vf(P:Program) :aW P (aT []):=fun f lent args alts a h=>by have:=Ve h;cases this
theorem aF{P:Program}{e:aK}{l:List aK}(he:aY P e)(hl:aW P (aT l)) :aW P (aT (e::l)):=by
  intro f lent args alts a h ha ho
  replace h:=Ve h
  simp only [HZ] at h
  cases hb:Nat.beq e.f f with
  | false=>rw [hb] at h;exact hl f lent args alts a (aar h) ha ho
  | true =>
    rw [hb] at h
    have:=Nat.eq_of_beq_eq_true hb
    subst this
    simp only [cond_true] at h
    split at h
    · rename_i r hr
      cases h
      exact he lent args alts a hr ha ho
    · exact hl _ lent args alts a (aar h) ha ho
def one(v:AV)(obs:List Bool) :Option (List xx):=some [⟨⟨v,[]⟩,obs⟩]
def anG(v:AV)(own:List (Option aU))(obs:List Bool) :Option (List xx):=some [⟨⟨v,own⟩,obs⟩]
theorem al3{P:Program}{f:FuncId}{lent:List aU}{args:List AV}{alts:List xx}{a:xx}{v:AV}{own:List (Option aU)}{obs:List Bool}(h:anG v own obs=some alts)(ha:a∈alts)(ho:aQ a.obs) 
    (hc:aQ obs→aB P f lent args ⟨v,own⟩):aB P f lent args a.out:=by
  simp only [anG,Option.some.injEq] at h;subst h
  simp only [List.mem_singleton] at ha;subst ha
  exact hc ho
theorem Af{P:Program}{f:FuncId}{lent:List aU}{args:List AV}{alts:List xx}{a:xx}{v:AV}{obs:List Bool}(h:one v obs=some alts)(ha:a∈alts)(ho:aQ a.obs) 
    (hc:aQ obs→aB P f lent args ⟨v,[]⟩):aB P f lent args a.out:=al3 (own:=[]) h ha ho hc
theorem aB.run{C:BO}(hC:C.Ok){S:G5}(hS:aW C.P S)(p:fC){f:FuncId}{lent:List aU}{args:List AV}{p':fC}{r:ib}{obs:List Bool}(N n:Nat)(h:vi C S (kx C S N n) f lent args p=some (r,obs,p'))(ho:aQ obs) :
    aB C.P f lent args r:=RV hC hS N n h ho
theorem ob{b:Bool}{l:List Bool}(h:b=true)(t:aQ l) :aQ (b::l):=⟨h,t⟩
theorem nob:aQ []:=trivial
inductive jJ:List AV→List AV→Prop
  | nil:jJ [] []
  | cons {v v':AV} {l l':List AV} (h:bJ v v') (t:jJ l l'):jJ (v::l) (v'::l')
theorem jJ.vrs{ρ:aC}{w:World} :∀ {l l':List AV} {c:List Value},jJ l l'→dC ρ w l c→dC ρ w l' c
  | _,_,_,.nil,.nil=>.nil
  | _,_,_,.cons h t,.cons _ _ _ _ hv tv=>.cons _ _ _ _ (h _ _ _ hv) (jJ.vrs t tv)
theorem jJ.refl:∀ l:List AV,jJ l l
  | []=>.nil
  | v::l=>.cons (bJ.refl v) (jJ.refl l)
theorem bJ.agg{l l':List AV}(h:jJ l l') :bJ (.agg l) (.agg l'):=by
  intro ρ w u hv;cases hv with | agg _ _ hl=>exact .agg _ _ (h.vrs hl)
theorem bJ.tup{l l':List AV}(h:jJ l l') :bJ (.tup l) (.tup l'):=by
  intro ρ w u hv;cases hv with | tup _ _ hl=>exact .tup _ _ (h.vrs hl)
theorem aB.args{P:Program}{f:FuncId}{lent:List aU}{a a':List AV}{r:ib}(h:aB P f lent a' r)(ha:jJ a a') :aB P f lent a r :=
  fun ρ w us hN hv=>h ρ w us hN (ha.vrs hv)
theorem aB.weak{P:Program}{f:FuncId}{lent:List aU}{a:List AV}{v v':AV}{own:List (Option aU)}(h:aB P f lent a ⟨v,own⟩)(hw:bJ v v') :aB P f lent a ⟨v',own⟩:=by
  intro ρ w us hN hv
  obtain ⟨q1,q2⟩:=h ρ w us hN hv
  refine ⟨q1,q2.mono ?_⟩
  rintro e w' ⟨u,rfl,W,hu⟩
  exact ⟨u,rfl,W,hu.weak fun ρ w=>hw ρ w u⟩
theorem Lu(k k' b:Bool) :bJ (.bool k b) (.bool k' b):=by
  intro ρ w u h;cases h;exact .bool _ _
end
end Go.Plb
namespace Go.Plb
noncomputable section
open Go.ChangeShapes Go.WideShapes Go.ChangeAt Go.RowKit Go.Deep
set_option linter.unusedSimpArgs false
set_option linter.unusedVariables false
set_option linter.unusedSectionVars false
variable [Rom]
def aC.none_:aC:={ at_:=fun _=>0,live:=fun _=>False,out:=fun _ _=>False,ok:=fun _=>False,pin:=(0,none) }
theorem apr(w:World)(hr:∀ x∈Rom.tab,VR aC.none_ w x.2 (.pointer (some ⟨x.1,0,none⟩))) :kG aC.none_ w [] :=
  ⟨⟨fun b d q=>by simp [gh,gC,eZ] at q,fun b c d e q=>by simp [gh,gC,eZ] at q,fun bl q=>q.elim,fun bl q=>q.elim,fun j bl q=>q.elim,fun b q=>q.elim,hr⟩,fun bl q=>q.elim,rfl⟩
theorem Lw(l:Lv)(bl:Nat) :aC.none_.avoid l bl:=nu (fun j=>by cases j<;>exact id) l 0
inductive FA where
  | i (k:IntKind) (n:Int)
  | f (x:Nat)
  | s (b:ByteArray)
  | b (b:Bool)
  | fl (xs:List Nat)
  | ns (k:IntKind) (xs:List Int)
def FA.av:FA→AV
  | .i k n=>.int k n
  | .f x=>.flt true x
  | .s z=>.str z
  | .b z=>.bool false z
  | .fl xs=>.imm .free (.fl xs) 1 1 0 xs.length
  | .ns k xs=>.imm .free (.ns k xs) 1 1 0 xs.length
theorem FA.kept(a:FA) :a.av.kept=true:=by cases a<;>rfl
inductive FT where
  | i (k:IntKind)
  | f
  | s
  | b
  | fl
  | ns (k:IntKind)
def FA.has:FT→FA→Prop
  | .i k,.i k' n=>k'=k∧(Lit.int k n).wf=true
  | .f,.f x=>(Lit.float .f64 x).wf=true
  | .s,.s z=>z.size≤maxLen
  | .b,.b _=>True
  | .fl,.fl xs=>xs.length≤maxLen∧∀ x∈xs,(Lit.float .f64 x).wf=true
  | .ns k,.ns k' xs=>k'=k∧xs.length≤maxLen∧∀ n∈xs,(Lit.int k n).wf=true
  | _,_=>False
def aps(P:Program)(t:TypeId) :Option FT :=
  match P.underlying t with
  | some (.int k)=>some (.i k)
  | some (.float .f64)=>some .f
  | some .string=>some .s
  | some .bool=>some .b
  | some (.slice e) =>
    match P.underlying e,P.cellsOf e with
    | some (.float .f64),1=>some .fl
    | some (.int k),1=>some (.ns k)
    | _,_=>none
  | _=>none
def ab5:Value→Nat
  | .float _ b=>b
  | _=>0
def ab6:Value→Int
  | .int _ n=>n
  | _=>0
theorem Rn{W:World}{a:Addr}{i:Nat}{v:Value}(c:W.cell? (a.add i)=some v)(h0:a.spot=none) :a.add i=⟨a.block,a.off+i,none⟩:=by
  cases a;simp only at h0;subst h0
  unfold Addr.add;split
  · rename_i q;subst q;rfl
  · rfl
theorem MR{W:World}{a:Addr}{v:Value}(c:W.cell? a=some v) :a.spot=none:=by
  unfold World.cell? at c
  split at c
  · cases q:a.spot with
    | none=>rfl
    | some s=>rw [q] at c;simp at c
  · cases c
theorem Vg{W:World}{a:Addr}{v:Value}(c:W.cell? a=some v) :a.block<W.heap.size:=by
  unfold World.cell? at c
  split at c
  · rename_i q;exact (Array.getElem?_eq_some_iff.1 q).1
  · cases c
theorem tg{α:Type}(f:Nat→α)(n x:Nat)(y:α)(h:((List.range n).map f)[x]? = some y) :x<n∧y=f x:=by
  rw [List.getElem?_map] at h
  rcases Nat.lt_or_ge x n with q | q
  · rw [List.getElem?_range q] at h;simp only [Option.map_some,Option.some.injEq] at h;exact ⟨q,h.symm⟩
  · rw [List.getElem?_eq_none (by simpa using q)] at h;cases h
variable {H : Type} {enc : TypeId × Value → H} {P : Program} {W : World}
theorem al4{t:TypeId}{ft:FT}{fuel:Nat}{v:Value}{x:DataW H×List MemPlace}(ht:aps P t=some ft)(h:DataW.trod enc P W 0 (fun _=>true) true fuel t [v]=some x) :
    ∃ a:FA,a.has ft∧VR aC.none_ W a.av v:=by
  cases fuel with
  | zero=>simp [DataW.trod] at h
  | succ fuel =>
  have h0:=h
  unfold aps at ht
  split at ht
  · rename_i k hk
    cases ht
    simp only [DataW.trod,hk] at h
    cases v<;>simp at h
    rename_i k' n
    obtain ⟨⟨rfl,hw⟩,_⟩:=h
    exact ⟨.i k' n,⟨rfl,hw⟩,.int _ _⟩
  · rename_i hk
    cases ht
    simp only [DataW.trod,hk] at h
    cases v<;>simp at h
    rename_i k b
    obtain ⟨⟨rfl,hw⟩,_⟩:=h
    exact ⟨.f b,hw,.flt _ _ _ (.inl rfl)⟩
  · rename_i hk
    cases ht
    simp only [DataW.trod,hk] at h
    cases v<;>simp at h
    exact ⟨.s _,h.1,.str _⟩
  · rename_i hk
    cases ht
    simp only [DataW.trod,hk] at h
    cases v<;>simp at h
    exact ⟨.b _,trivial,.bool _ _⟩
  · rename_i e hk
    have key:∀ (he:P.cellsOf e=1),(v=.slice none 0 0)∨∃ (a:Addr) (len cap n:Nat) (V:Nat→Value),v=.slice (some a) len cap∧len≤cap∧cap≤maxLen ∧
        ∀ i,i<len→∃ y,W.cell? (a.add i)=some (V i)∧DataW.trod enc P W 0 (fun _=>true) true n e [V i]=some y:=by
      intro he
      rcases open_slice1 hk he h0 with ⟨h1,_⟩ | ⟨a,len,cap,m,n,V,D,Pl,h1,hb,hl,hm,hmm,_,hx⟩
      · simp only [List.cons.injEq,and_true] at h1
        exact .inl h1
      · simp only [List.cons.injEq,and_true] at h1
        refine .inr ⟨a,len,cap,n,V,h1,hl,hm,fun i hi=>⟨_,hx i (by rw [hmm,if_pos rfl];omega)⟩⟩
    split at ht
    · rename_i he hc
      cases ht
      rcases key hc with rfl | ⟨a,len,cap,n,V,rfl,hl,hm,hx⟩
      · exact ⟨.fl [],⟨Nat.zero_le _,fun x hx=>by cases hx⟩,.immEnd _ _ _ _ _ _ _ trivial (fun _=>rfl) rfl⟩
      · have hV:∀ i,i<len→V i=.float .f64 (ab5 (V i))∧(Lit.float .f64 (ab5 (V i))).wf=true:=by
          intro i hi
          obtain ⟨y,c1,c2⟩:=hx i hi
          cases n with
          | zero=>simp [DataW.trod] at c2
          | succ n =>
            simp only [DataW.trod,he] at c2
            cases hV:V i<;>rw [hV] at c2<;>simp at c2
            obtain ⟨⟨rfl,hw⟩,_⟩:=c2
            exact ⟨rfl,hw⟩
        refine ⟨.fl ((List.range len).map fun i=>ab5 (V i)),⟨by simp;omega,fun x hx=>?_⟩,?_⟩
        · simp only [List.mem_map,List.mem_range] at hx
          obtain ⟨i,hi,rfl⟩:=hx
          exact (hV i hi).2
        · simp only [FA.av,List.length_map,List.length_range]
          rcases Nat.eq_zero_or_pos len with rfl | hz
          · exact .immEnd _ _ _ _ _ _ _ trivial (fun _=>rfl) rfl
          · have h0:=MR (hx 0 hz).choose_spec.1
            have hs:a.spot=none:=by
              have e:a.add 0=a:=by simp [Addr.add]
              rw [e] at h0;exact h0
            have hcell:∀ i,i<len→W.cell? ⟨a.block,a.off+i,none⟩=some (V i):=fun i hi=>by
              obtain ⟨y,c1,_⟩:=hx i hi
              rw [Rn c1 hs] at c1;exact c1
            have ha:a=⟨a.block,a.off+0*1,none⟩:=by cases a;simp only at hs;subst hs;rfl
            have:=VR.imm (ρ:=aC.none_) (w:=W) .free (.fl ((List.range len).map fun i=>ab5 (V i))) 1 1 0 len cap a.block a.off V (Lw _ _) (Vg (a:=⟨a.block,a.off+0,none⟩) (hcell 0 hz))
              (fun x v hx'=>by
                simp only [aU.cell?,Option.map_eq_some_iff] at hx'
                obtain ⟨y,h1,h2⟩:=hx'
                exact hcell x (tg _ _ _ _ h1).1)
              (fun x v hx'=>by
                simp only [aU.cell?,Option.map_eq_some_iff] at hx'
                obtain ⟨y,h1,rfl⟩:=hx'
                obtain ⟨q1,rfl⟩:=tg _ _ _ _ h1
                rw [(hV x q1).1]
                exact .flt _ _ _ (.inl rfl)) hl trivial (fun _=>rfl) rfl
            rw [ha];exact this
    · rename_i k he hc
      cases ht
      rcases key hc with rfl | ⟨a,len,cap,n,V,rfl,hl,hm,hx⟩
      · exact ⟨.ns k [],⟨rfl,Nat.zero_le _,fun x hx=>by cases hx⟩,.immEnd _ _ _ _ _ _ _ trivial (fun _=>rfl) rfl⟩
      · have hV:∀ i,i<len→V i=.int k (ab6 (V i))∧(Lit.int k (ab6 (V i))).wf=true:=by
          intro i hi
          obtain ⟨y,c1,c2⟩:=hx i hi
          cases n with
          | zero=>simp [DataW.trod] at c2
          | succ n =>
            simp only [DataW.trod,he] at c2
            cases hV:V i<;>rw [hV] at c2<;>simp at c2
            obtain ⟨⟨rfl,hw⟩,_⟩:=c2
            exact ⟨rfl,hw⟩
        refine ⟨.ns k ((List.range len).map fun i=>ab6 (V i)),⟨rfl,by simp;omega,fun x hx=>?_⟩,?_⟩
        · simp only [List.mem_map,List.mem_range] at hx
          obtain ⟨i,hi,rfl⟩:=hx
          exact (hV i hi).2
        · simp only [FA.av,List.length_map,List.length_range]
          rcases Nat.eq_zero_or_pos len with rfl | hz
          · exact .immEnd _ _ _ _ _ _ _ trivial (fun _=>rfl) rfl
          · have h0:=MR (hx 0 hz).choose_spec.1
            have hs:a.spot=none:=by
              have e:a.add 0=a:=by simp [Addr.add]
              rw [e] at h0;exact h0
            have hcell:∀ i,i<len→W.cell? ⟨a.block,a.off+i,none⟩=some (V i):=fun i hi=>by
              obtain ⟨y,c1,_⟩:=hx i hi
              rw [Rn c1 hs] at c1;exact c1
            have ha:a=⟨a.block,a.off+0*1,none⟩:=by cases a;simp only at hs;subst hs;rfl
            have:=VR.imm (ρ:=aC.none_) (w:=W) .free (.ns k ((List.range len).map fun i=>ab6 (V i))) 1 1 0 len cap a.block a.off V (Lw _ _) (Vg (a:=⟨a.block,a.off+0,none⟩) (hcell 0 hz))
              (fun x v hx'=>by
                simp only [aU.cell?,Option.map_eq_some_iff] at hx'
                obtain ⟨y,h1,h2⟩:=hx'
                exact hcell x (tg _ _ _ _ h1).1)
              (fun x v hx'=>by
                simp only [aU.cell?,Option.map_eq_some_iff] at hx'
                obtain ⟨y,h1,rfl⟩:=hx'
                obtain ⟨q1,rfl⟩:=tg _ _ _ _ h1
                rw [(hV x q1).1]
                exact .int _ _) hl trivial (fun _=>rfl) rfl
            rw [ha];exact this
    · cases ht
  · cases ht
theorem Vh{t:TypeId}{ft:FT}{v:Value}{d:DataW H}{p:List MemPlace}{base:Nat}(ht:aps P t=some ft)(ho:Value.okWide P W .any base t v)(h:DataW.Trod enc P W 0 (fun _=>true) true t v d p) :
    ∃ a:FA,a.has ft∧VR aC.none_ W a.av v:=by
  obtain ⟨fuel,hf⟩:=h
  have hc:v.cells.toList=[v]:=by
    have hne:∀ c,v ≠ .agg c:=by
      rintro c rfl
      unfold aps at ht
      unfold Value.okWide at ho
      split at ht
      case h_6=>cases ht
      all_goals (rename_i hk;rw [hk] at ho;simp [Cell.okWide,Cell.ok,hk] at ho)
    cases v<;>first | rfl | exact (hne _ rfl).elim
  rw [hc] at hf
  exact al4 ht hf
def FA.avs:List FA→List AV
  | []=>[]
  | a::l=>a.av::FA.avs l
theorem anH{W W':World}(h:ki (fun _=>False) W W') :Below W.heap.size W W' :=
  ⟨h.os,h.tape,h.output,h.size,fun k hk=>h.same k hk (fun q=>q)⟩
def BV(P:Program)(ts:List TypeId) :Bool:=ts.all fun t=>P.readableRec t&&decide (t<P.types.size)
theorem aas{W W':World}(hl:laidOutB P=true)(hb:Below W.heap.size W W') :∀ {ts:List TypeId} {vs:List Value} {ds:List (DataW H)} {ps:List MemPlace},BV P ts=true →
    DataW.TrodAll enc P W 0 (fun _=>true) true ts vs ds ps→(∀ x∈ps,x.block<W.heap.size)→∀ sp:Nat→Bool,(∀ p∈ps,sp p.block=true)→DataW.TrodAll enc P W' 0 sp true ts vs ds ps
  | [],vs,ds,ps,_,h,_,_,_=>by obtain ⟨rfl,rfl,rfl⟩:=trodAll_nil h;rfl
  | t::ts,vs,ds,ps,hp,h,hlt,sp,hsp=>by
    obtain ⟨v,vs',d,ds',p,q,rfl,rfl,rfl,h1,h2⟩:=trodAll_cons h
    simp only [BV,List.all_cons,Bool.and_eq_true,decide_eq_true_eq] at hp
    exact ⟨p,q,WideElems.Trod_stays hl hp.1.1 hp.1.2 h1 (fun x hx=>hb.same (hlt x (by simp [hx]))) (fun x hx=>hsp x (by simp [hx])),
      aas hl hb (by simpa [BV] using hp.2) h2 (fun x hx=>hlt x (by simp [hx])) sp (fun x hx=>hsp x (by simp [hx])),rfl⟩
theorem anI{f:Func}{s:ChangeSpec}{W W':World}{args:Array Value}{ds gs:List (DataW H)}{before:List MemPlace}{tb:TypeId}(hl:laidOutB P=true) 
    (hW:DataW.Whole enc P f.params.toList s.vars false W args.toList ds gs before) (hv:s.vars=[]) (hp:BV P f.params.toList=true)
    (hs:s.fn H (ds++gs) = { results:=[.lit (.bool true)],args:=ds }) (hr:f.resultTypes = #[tb]) (ht:P.underlying tb=some .bool) (hw:ki (fun _=>False) W W') :
    s.post enc P f false true false false W args (.bool true) W':=by
  have hb:=anH hw
  have hlt:∀ p∈before,p.block<W.heap.size:=fun p hp=>hW.lt p hp
  have hW':=hW
  obtain ⟨p,q,hA,hV,rfl,hfz,ly⟩:=hW'
  rw [hv] at hV
  obtain ⟨rfl,rfl⟩:=trodVars_none hV
  simp only [List.append_nil] at hlt hs hW
  have harg:=aas hl hb hp hA hlt (fun b=>decide (b<W.heap.size)) (fun x hx=>by simpa using hlt x hx)
  refine ⟨ds,[],p,[],p,[],hW,?_,?_,?_,World.keptBut_mono (fun x hx=>⟨hx,.inr (.inl hx)⟩) (hb.frame (· ∈ p)),fun e=>(by cases e)⟩
  · rw [List.append_nil,hs,hr]
    exact trodAll_mk1 (shut_bool ht true)
  · rw [List.append_nil,hs];exact harg
  · rw [hv];simp only [List.append_nil,hs];exact rfl
theorem aqf{k:IntKind}{a:FA}(h:a.has (.i k)) :∃ n,a=.i k n:=by
  cases a<;>simp only [FA.has] at h
  obtain ⟨rfl,_⟩:=h;exact ⟨_,rfl⟩
theorem aqS{k:IntKind}{a:FA}(h:a.has (.ns k)) :∃ x,a=.ns k x:=by
  cases a<;>simp only [FA.has] at h
  obtain ⟨rfl,_⟩:=h;exact ⟨_,rfl⟩
theorem anJ{ρ:aC}{w w':World}{k b:Bool}{u:Value}(h:(⟨.bool k b,[]⟩:ib).Holds ρ w w' 0 u) :u=.bool b:=by
  obtain ⟨ρ',_,_,_,h4⟩:=h
  cases h4;rfl
end
end Go.Plb
namespace Go.Plb.Seat
open Go Go.Plb Go.Proofs
noncomputable abbrev prog:Program:=Tryz.prog
def bA:List Int:=[0,1,56,2,57,49,28,3,61,58,42,50,38,29,17,4,62,47,59,36,45,43,51,22,53,39,33,30,24,18,12,5,63,55,48,27,60,41,37,16,46,35,44,21,52,32,23,11,54,26,40,15,34,20,31,10,25,14,19,9,13,8,7,6]
instance:Rom:=⟨[(1,.iptr .free (.ns .u8 bA) 1 0 0)],by intro x hx;simp only [List.mem_cons,List.not_mem_nil,or_false] at hx;rcases hx with rfl<;>rfl⟩
abbrev mj:FuncId:=7
abbrev CQ:FuncId:=16
abbrev E3:FuncId:=20
abbrev AC:FuncId:=21
abbrev O3:FuncId:=22
abbrev aeK:FuncId:=23
abbrev DR:FuncId:=30
abbrev AD:FuncId:=32
abbrev ml:FuncId:=36
abbrev E5:FuncId:=60
abbrev aim:FuncId:=63
abbrev th:FuncId:=65
abbrev Gs:FuncId:=66
abbrev YD:FuncId:=69
abbrev YE:FuncId:=70
abbrev ab7:FuncId:=71
abbrev ab8:FuncId:=72
abbrev ab9:FuncId:=73
abbrev O4:FuncId:=74
abbrev Vi:FuncId:=75
abbrev rv:FuncId:=76
abbrev ry:FuncId:=77
abbrev E6:FuncId:=78
abbrev MS:FuncId:=80
abbrev wT:FuncId:=82
abbrev yx:FuncId:=83
abbrev CR:FuncId:=84
abbrev AF:FuncId:=85
abbrev AG:FuncId:=86
abbrev zI:FuncId:=89
abbrev E7:FuncId:=90
abbrev CS:FuncId:=91
abbrev AH:FuncId:=93
abbrev Ke:FuncId:=95
abbrev al5:FuncId:=100
abbrev Lx:FuncId:=101
abbrev ain:FuncId:=104
abbrev aeL:FuncId:=106
abbrev aeM:FuncId:=108
abbrev aat:FuncId:=109
abbrev km:FuncId:=110
abbrev MT:FuncId:=112
abbrev MU:FuncId:=113
abbrev jn:FuncId:=115
abbrev Vj:FuncId:=117
abbrev RX:FuncId:=118
abbrev E8:FuncId:=123
abbrev gB:FuncId:=124
abbrev CT:FuncId:=125
abbrev CU:FuncId:=126
abbrev aca:FuncId:=127
abbrev aio:FuncId:=131
abbrev al6:FuncId:=132
abbrev YF:FuncId:=133
abbrev acb:FuncId:=134
abbrev aeN:FuncId:=135
abbrev acd:FuncId:=136
abbrev aip:FuncId:=137
abbrev aeO:FuncId:=139
abbrev ace:FuncId:=140
abbrev RY:FuncId:=143
abbrev YG:FuncId:=145
abbrev YH:FuncId:=146
abbrev YJ:FuncId:=147
abbrev aeP:FuncId:=148
abbrev acf:FuncId:=149
abbrev qE:FuncId:=152
abbrev CV:FuncId:=158
abbrev nO:FuncId:=160
abbrev ti:FuncId:=161
abbrev si:FuncId:=162
abbrev G6:FuncId:=163
abbrev xy:FuncId:=164
abbrev qF:FuncId:=165
abbrev E9:FuncId:=166
abbrev zJ:FuncId:=167
abbrev tj:FuncId:=169
abbrev xz:FuncId:=170
abbrev H0:FuncId:=173
abbrev Vk:FuncId:=174
abbrev aeQ:FuncId:=175
abbrev Jt:FuncId:=176
abbrev H3:FuncId:=177
abbrev Fa:FuncId:=178
abbrev O5:FuncId:=179
abbrev aeR:FuncId:=180
abbrev aeS:FuncId:=181
abbrev acg:FuncId:=182
abbrev ach:FuncId:=183
abbrev aeT:FuncId:=184
abbrev aci:FuncId:=185
abbrev aeU:FuncId:=186
abbrev acj:FuncId:=187
abbrev YK:FuncId:=188
abbrev aeV:FuncId:=189
abbrev xA:FuncId:=190
abbrev kM:FuncId:=192
abbrev MV:FuncId:=194
abbrev H4:FuncId:=196
abbrev Vl:FuncId:=197
abbrev O6:FuncId:=198
abbrev MW:FuncId:=201
abbrev Vm:FuncId:=202
abbrev MX:FuncId:=204
abbrev tk:FuncId:=207
abbrev Gt:FuncId:=208
abbrev Kf:FuncId:=211
abbrev MY:FuncId:=217
abbrev ack:FuncId:=219
abbrev Vn:FuncId:=220
abbrev acl:FuncId:=221
abbrev Vo:FuncId:=222
abbrev aiq:FuncId:=224
abbrev aeW:FuncId:=225
abbrev Ly:FuncId:=226
abbrev aeX:FuncId:=228
abbrev aeY:FuncId:=229
abbrev BW:FuncId:=237
abbrev rz:FuncId:=240
abbrev Fb:FuncId:=241
abbrev ka:FuncId:=243
abbrev tm:FuncId:=244
abbrev Kg:FuncId:=245
abbrev dH:FuncId:=246
abbrev ny:FuncId:=247
abbrev nP:FuncId:=248
abbrev Lz:FuncId:=252
abbrev BX:FuncId:=253
abbrev O7:FuncId:=254
abbrev rA:FuncId:=255
abbrev LA:FuncId:=256
abbrev air:FuncId:=257
abbrev Ju:FuncId:=258
abbrev AI:FuncId:=259
abbrev O8:FuncId:=261
abbrev aeZ:FuncId:=262
abbrev acm:FuncId:=263
abbrev YL:FuncId:=264
abbrev ae0:FuncId:=265
abbrev ae1:FuncId:=266
abbrev acn:FuncId:=267
abbrev ae2:FuncId:=269
abbrev kN:FuncId:=270
abbrev mn:FuncId:=278
abbrev Ro:FuncId:=280
abbrev MZ:FuncId:=282
abbrev JM:FuncId:=291
abbrev aco:FuncId:=292
abbrev JN:FuncId:=294
abbrev Vp:FuncId:=299
abbrev RZ:FuncId:=300
abbrev YM:FuncId:=301
abbrev YN:FuncId:=302
abbrev LB:FuncId:=304
abbrev ae3:FuncId:=305
abbrev ae4:FuncId:=306
abbrev acp:FuncId:=307
abbrev pn:FuncId:=312
abbrev H5:FuncId:=313
abbrev cN:FuncId:=314
abbrev nQ:FuncId:=315
abbrev Jv:FuncId:=316
abbrev YO:FuncId:=317
abbrev BY:FuncId:=318
abbrev tn:FuncId:=319
abbrev O9:FuncId:=320
abbrev acq:FuncId:=321
abbrev ae5:FuncId:=322
abbrev acr:FuncId:=323
abbrev R0:FuncId:=326
abbrev LC:FuncId:=334
abbrev LD:FuncId:=335
abbrev YP:FuncId:=338
abbrev Vq:FuncId:=339
abbrev R1:FuncId:=340
abbrev Vr:FuncId:=341
abbrev LF:FuncId:=342
abbrev po:FuncId:=343
abbrev Jw:FuncId:=344
abbrev Pa:FuncId:=345
abbrev YQ:FuncId:=346
abbrev Jx:FuncId:=347
abbrev Pb:FuncId:=351
abbrev H6:FuncId:=352
abbrev Pc:FuncId:=353
abbrev M0:FuncId:=354
abbrev BZ:FuncId:=355
abbrev Jy:FuncId:=356
abbrev tp:FuncId:=358
noncomputable def FN(f:FuncId) :Func:=(prog.funcs[f]?).getD default
noncomputable def kB(f:FuncId) :Code:=((FN f).body).getD .skip
noncomputable def C0:BO:=akL prog [(ml,.frombits),(rv,.bits),(H5,.sqrt),(tn,.add64),(tp,.sub64)] [(O3,⟨[],true⟩),(aeK,⟨[],true⟩),(aim,⟨[],true⟩),(YD,⟨[],true⟩),(YE,⟨[],true⟩),(ab7,⟨[],true⟩),(ab8,⟨[],true⟩),(ab9,⟨[],true⟩),(O4,⟨[],true⟩),(Vi,⟨[],true⟩),(wT,⟨[],true⟩),(al5,⟨[],true⟩),(Lx,⟨[],true⟩),(ain,⟨[],true⟩),(aeL,⟨[],true⟩),(aeM,⟨[],true⟩),(km,⟨[true,true,true,true,true,true,true,true,true,true],false⟩),(MT,⟨[true,true,true,true,true,true,true,true,true,true],false⟩),(MU,⟨[true,true,true,true,true,true,true,true,true,true],false⟩),(Vj,⟨[true,true,true,true,true,true,true,true,true,true],false⟩),(RX,⟨[true,true,true,true,true,true,true,true,true,true],false⟩),(aio,⟨[],true⟩),(al6,⟨[],true⟩),(YF,⟨[],true⟩),(acb,⟨[],true⟩),(aeN,⟨[],true⟩),(acd,⟨[],true⟩),(aip,⟨[],true⟩),(aeO,⟨[],true⟩),(ace,⟨[],true⟩),(RY,⟨[],true⟩),(YG,⟨[],true⟩),(YH,⟨[],true⟩),(YJ,⟨[],true⟩),(aeP,⟨[],true⟩),(acf,⟨[],true⟩),(G6,⟨[true,true,true,true,true,true,true,true,true,true],false⟩),(H0,⟨[],true⟩),(Vk,⟨[],true⟩),(aeQ,⟨[true],false⟩),(Jt,⟨[],true⟩),(H3,⟨[],true⟩),(Fa,⟨[],true⟩),(O5,⟨[],true⟩),(aeR,⟨[],true⟩),(aeS,⟨[],true⟩),(acg,⟨[],true⟩),(ach,⟨[],true⟩),(aeT,⟨[],true⟩),(aci,⟨[],true⟩),(aeU,⟨[],true⟩),(acj,⟨[],true⟩),(YK,⟨[],true⟩),(aeV,⟨[],true⟩),(MV,⟨[true,true,true,true,true,true,true,true,true,true],false⟩),(Vl,⟨[true,true,true,true,true,true,true,true,true,true],false⟩),(O6,⟨[true,true,true,true,true,true,true,true,true,true],false⟩),(MW,⟨[true,true,true,true,true,true,true,true,true,true],false⟩),(Vm,⟨[true,true,true,true,true,true,true,true,true,true],false⟩),(MX,⟨[true,true,true,true,true,true,true,true,true,true],false⟩),(ack,⟨[],true⟩),(Vn,⟨[],true⟩),(acl,⟨[],true⟩),(Vo,⟨[],true⟩),(aiq,⟨[],true⟩),(aeW,⟨[],true⟩),(Ly,⟨[],true⟩),(aeX,⟨[],true⟩),(aeY,⟨[],true⟩),(Lz,⟨[],true⟩),(BX,⟨[],true⟩),(O7,⟨[],true⟩),(rA,⟨[true],false⟩),(LA,⟨[],true⟩),(air,⟨[true],false⟩),(Ju,⟨[true],false⟩),(AI,⟨[true],false⟩),(aeZ,⟨[],true⟩),(acm,⟨[],true⟩),(YL,⟨[],true⟩),(ae0,⟨[],true⟩),(ae1,⟨[],true⟩),(acn,⟨[],true⟩),(ae2,⟨[],true⟩),(JM,⟨[true,true,true,true,true,true,true,true,true,true],false⟩),(aco,⟨[true,true,true,true,true,true,true,true,true,true],false⟩),(JN,⟨[true,true,true,true,true,true,true,true,true,true],false⟩),(Vp,⟨[true,true,true,true,true,true,true,true,true,true],false⟩),(RZ,⟨[true,true,true,true,true,true,true,true,true,true],false⟩),(YM,⟨[true,true,true,true,true,true,true,true,true,true],false⟩),(YN,⟨[true,true,true,true,true,true,true,true,true,true],false⟩),(LB,⟨[],true⟩),(ae3,⟨[],true⟩),(ae4,⟨[],true⟩),(acp,⟨[],true⟩),(Jv,⟨[],true⟩),(YO,⟨[],true⟩),(O9,⟨[],true⟩),(acq,⟨[],true⟩),(ae5,⟨[],true⟩),(acr,⟨[],true⟩),(R0,⟨[true,true,true,true,true,true,true,true,true,true],false⟩),(LC,⟨[true,true,true,true,true,true,true,true,true,true],false⟩),(LD,⟨[true,true,true,true,true,true,true,true,true,true],false⟩),(YP,⟨[true,true,true,true,true,true,true,true,true,true],false⟩),(Vq,⟨[true,true,true,true,true,true,true,true,true,true],false⟩),(R1,⟨[true,true,true,true,true,true,true,true,true,true],false⟩),(Vr,⟨[true,true,true,true,true,true,true,true,true,true],false⟩),(LF,⟨[true,true,true,true,true,true,true,true,true,true],false⟩),(Jw,⟨[],true⟩),(Pa,⟨[],true⟩),(YQ,⟨[],true⟩),(Jx,⟨[],true⟩),(Pb,⟨[true,true,true,true,true,true,true,true,true,true],false⟩),(H6,⟨[true,true,true,true,true,true,true,true,true,true],false⟩),(Pc,⟨[true,true,true,true,true,true,true,true,true,true],false⟩),(M0,⟨[true,true,true,true,true,true,true,true,true,true],false⟩),(BZ,⟨[false,false,true],false⟩),(Jy,⟨[],true⟩)]
theorem CW:aan prog ml .frombits:=⟨FN ml,by kernel_rfl,by kernel_rfl,by kernel_rfl,by kernel_rfl,by kernel_rfl⟩
theorem H7:aan prog rv .bits:=⟨FN rv,by kernel_rfl,by kernel_rfl,by kernel_rfl,by kernel_rfl,by kernel_rfl⟩
theorem YR:aan prog H5 .sqrt:=⟨FN H5,by kernel_rfl,by kernel_rfl,by kernel_rfl,by kernel_rfl,by kernel_rfl⟩
theorem JO:aan prog tn .add64:=⟨FN tn,by kernel_rfl,by kernel_rfl,by kernel_rfl,by kernel_rfl,by kernel_rfl⟩
theorem JP:aan prog tp .sub64:=⟨FN tp,by kernel_rfl,by kernel_rfl,by kernel_rfl,by kernel_rfl,by kernel_rfl⟩
theorem mixed:prog.follows .mixedOrders=true:=by kernel_rfl
theorem arw:akM prog=true:=by kernel_rfl
theorem im:C0.Ok:=ant mixed arw (by
  intro x hx
  simp only [List.mem_cons,List.not_mem_nil,or_false] at hx
  rcases hx with rfl | rfl | rfl | rfl | rfl
  · exact CW
  · exact H7
  · exact YR
  · exact JO
  · exact JP
  )
end Go.Plb.Seat
