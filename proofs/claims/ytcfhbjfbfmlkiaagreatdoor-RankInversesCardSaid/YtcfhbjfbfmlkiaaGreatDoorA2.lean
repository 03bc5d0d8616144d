/-
  Part 2 of what the claim leans on: an evaluator of the model, proved sound; the contracts of the functions.
-/
import Derived.Laws.BytesString
import GoSem.Instr.Lookup
import GoSem.Extern.MathSqrt
import GoSem.Extern.MathFloatBits
import GoSem.Extern.MathBitsCarry
import GoSem.Extern.BytealgIndexByte
import GoSem.Extern.BytealgCount
import Derived.OrdersIn
import Derived.LoopNIn
import Derived.RangeFuncRecord
import Derived.RangeFuncLeaves
import Derived.LoopN
import Derived.Scope
import Derived.RangeFuncIn
import Derived.Laws.Externs
import Derived.WalkKit
import Derived.ProofKit
import Derived.OpenShut
import Derived.Deep.Slices
import Derived.Test.YtcfhbjfbfmlkiaaGreatDoorA1
namespace Go.Plb
noncomputable section
set_option linter.unusedSimpArgs false
set_option linter.unusedVariables false
set_option linter.unusedSectionVars false
variable [Rom]
def uS(d:aI) :Nat→Nat→Option (List AV)
  | 0,_=>some []
  | n+1,x=>match d.cell? x,uS d n (x+1) with
    | some v,some l=>some (v::l)
    | _,_=>none
theorem HV{d:aI} :∀ {n x:Nat} {l:List AV},uS d n x=some l→l.length=n∧∀ j,j<n→d.cell? (x+j)=l[j]?
  | 0,x,l,h=>by simp only [uS,Option.some.injEq] at h;subst h;exact ⟨rfl,fun j hj=>absurd hj (Nat.not_lt_zero _)⟩
  | n+1,x,l,h=>by
    unfold uS at h
    split at h
    case h_2=>cases h
    rename_i v l' h1 h2
    simp only [Option.some.injEq] at h;subst h
    obtain ⟨a,b⟩:=HV h2
    refine ⟨by simp [a],fun j hj=>?_⟩
    cases j with
    | zero=>simpa using h1
    | succ j =>
      have:=b j (by omega)
      rw [show x+(j+1)=x+1+j by omega,this];simp
def cpL{α:Type}(xs:List α)(i k:Nat)(ys:List α) :List α:=xs.take i++(ys.take k++xs.drop (i+k))
def afk(blk nb:aI)(w i k:Nat) :Option (aI×List Bool) :=
  match blk,nb with
  | .fl xs,.fl ys=>bif Nat.beq w 1 then some (.fl (cpL xs i k ys),[lV (i+k) xs.length,lV k ys.length]) else none
  | .ns kd xs,.ns kd' ys=>bif Nat.beq w 1&&cN kd kd' then some (.ns kd (cpL xs i k ys),[lV (i+k) xs.length,lV k ys.length]) else none
  | .bs xs,.bs ys=>bif Nat.beq w 1 then some (.bs (cpL xs i k ys),[lV (i+k) xs.length,lV k ys.length]) else none
  | blk,nb=>match uS nb k 0 with
    | some l=>bif gX l then blk.wrN w i l 0 else none
    | none=>none
theorem Kd{α:Type}{d:aI}{f:α→AV}{ys:List α}(hd:∀ x,d.cell? x=(ys[x]?).map f) :∀ {k x:Nat},x+k≤ys.length→uS d k x=some (((ys.drop x).take k).map f)
  | 0,x,h=>by simp [uS]
  | k+1,x,h=>by
    have e1:ys[x]? = some (ys[x]'(by omega)):=List.getElem?_eq_getElem (by omega)
    have e2:=Kd hd (k:=k) (x:=x+1) (by omega)
    unfold uS
    rw [hd,e1,e2]
    simp only [Option.map_some]
    rw [List.drop_eq_getElem_cons (show x<ys.length by omega),List.take_succ_cons,List.map_cons]
theorem aaa{α:Type}{g:List α→aI}{f:α→AV}{i:Nat}(hg:∀ xs j z,(g xs).wr 1 i j (f z)=some (g (xs.set (fa j i) z),[eX (fa j i) xs.length])) :
    ∀ {zs xs:List α} {j:Nat},i+j+zs.length≤xs.length→∃ o,(g xs).wrN 1 i (zs.map f) j=some (g (xs.take (i+j)++(zs++xs.drop (i+j+zs.length))),o)∧aG o
  | [],xs,j,h=>⟨[],by simp [aI.wrN],trivial⟩
  | z::zs,xs,j,h=>by
    rw [List.length_cons] at h
    have ad:fa j i=i+j:=by rw [lg];omega
    obtain ⟨o,h1,h2⟩:=aaa hg (zs:=zs) (xs:=xs.set (fa j i) z) (j:=j+1) (by rw [List.length_set];omega)
    refine ⟨eX (fa j i) xs.length::o,?_,by rw [ad];unfold eX;exact decide_eq_true (by omega),h2⟩
    simp only [List.map_cons,aI.wrN,hg,h1,List.singleton_append,Option.some.injEq,Prod.mk.injEq,and_true]
    congr 1
    rw [ad]
    have hp:i+j<xs.length:=by omega
    rw [show i+(j+1)=i+j+1 by omega,show i+j+(z::zs).length=i+j+1+zs.length by rw [List.length_cons];omega]
    generalize i+j=p at hp
    rw [List.drop_set_of_lt (by omega),List.take_succ_eq_append_getElem (by rw [List.length_set];exact hp),List.take_set_of_le (Nat.le_refl p),List.getElem_set_self]
    simp
theorem Ke{α:Type}{f:α→AV}(hf:∀ z,(f z).one=true) :∀ (zs:List α),gX (zs.map f)=true
  | []=>rfl
  | z::zs=>by simp only [List.map_cons,gX,hf,Ke hf zs,Bool.and_self]
theorem Qr{α:Type}{g:List α→aI}{f:α→AV}{i k:Nat}{xs ys:List α}(hg:∀ xs j z,(g xs).wr 1 i j (f z)=some (g (xs.set (fa j i) z),[eX (fa j i) xs.length]))(hd:∀ x,(g ys).cell? x=(ys[x]?).map f)(hf:∀ z,(f z).one=true) 
    (h1:lV (i+k) xs.length=true) (h2:lV k ys.length=true):∃ l o',uS (g ys) k 0=some l∧gX l=true∧(g xs).wrN 1 i l 0=some (g (cpL xs i k ys),o')∧aG o':=by
  unfold lV at h1 h2
  rw [decide_eq_true_eq] at h1 h2
  have hlen:(ys.take k).length=k:=by rw [List.length_take];omega
  obtain ⟨o,w1,w2⟩:=aaa hg (zs:=ys.take k) (xs:=xs) (j:=0) (by rw [hlen];omega)
  refine ⟨_,o,Kd hd (by omega),Ke hf _,?_,w2⟩
  rw [List.drop_zero,w1,hlen];rfl
theorem abg{blk nb blk':aI}{w i k:Nat}{o:List Bool}(h:afk blk nb w i k=some (blk',o))(ho:aG o) :∃ l o',uS nb k 0=some l∧gX l=true∧blk.wrN w i l 0=some (blk',o')∧aG o':=by
  unfold afk at h
  split at h
  · cases e:Nat.beq w 1 with
    | false=>rw [e] at h;cases h
    | true =>
      rw [e] at h;cases h
      cases Nat.eq_of_beq_eq_true e
      exact Qr (g:=.fl) (f:=.flt false) (fun _ _ _=>rfl) (fun _=>rfl) (fun _=>rfl) ho.1 ho.2.1
  · rename_i kd xs kd' ys
    cases e:Nat.beq w 1&&cN kd kd' with
    | false=>rw [e] at h;cases h
    | true =>
      rw [e] at h;cases h
      rw [Bool.and_eq_true] at e
      cases Nat.eq_of_beq_eq_true e.1
      have e2:kd=kd':=by have:=e.2;simpa [cN] using this
      cases e2
      exact Qr (g:=.ns kd) (f:=.int kd) (fun xs j z=>by simp [aI.wr,cN]) (fun _=>rfl) (fun _=>rfl) ho.1 ho.2.1
  · cases e:Nat.beq w 1 with
    | false=>rw [e] at h;cases h
    | true =>
      rw [e] at h;cases h
      cases Nat.eq_of_beq_eq_true e
      exact Qr (g:=.bs) (f:=.bool false) (fun _ _ _=>rfl) (fun _=>rfl) (fun _=>rfl) ho.1 ho.2.1
  · split at h
    case h_2=>cases h
    rename_i l hl
    cases e:gX l with
    | false=>rw [e] at h;cases h
    | true=>rw [e] at h;exact ⟨l,o,hl,e,h,ho⟩
def OT(P:Program)(g:Nat→Option aI)(t:TypeId)(d x:AV) :Option (Nat×Nat×aI×List Bool×List Nat) :=
  match P.underlying t,d with
  | some (.slice e),.sl b w es i len _ =>
    match P.info? e,g b,Tm g x with
    | some inf,some blk,some (m,es',nb,obs,rs) =>
      bif Nat.beq inf.size 1&&Nat.beq es' 1 then (afk blk nb w i (Nat.min m len)).map fun r=>(Nat.min m len,b,r.1,obs++r.2,b::rs) else none
    | _,_,_=>none
  | _,_=>none
theorem HR.same{ρ:ae}{w:World}{h:bR}{n b:Nat}{d:aI}(hh:HR ρ w h n)(hg:bn h b=some d) :HR ρ w (eW h b d) n:=by
  have e:∀ c,bn (eW h b d) c=bn h c:=by
    intro c;rw [cS];split
    · rename_i q;subst q;exact hg.symm
    · rfl
  exact ⟨fun c e' he=>hh.cell c e' (by rw [←e];exact he),fun a c d e' h1 h2=>hh.inj a c d e' (by rw [←e];exact h1) (by rw [←e];exact h2),hh.fresh,hh.liveLt,hh.outLt,hh.lt,hh.rom⟩
theorem Ts{P:Program}{ρ:ae}{w:World}{h:bR}{n:Nat}(hh:HR ρ w h n){t t' T:TypeId}{d x:AV}{d' x':Value}(hd:VR ρ w d d')(hx:VR ρ w x x'){k b:Nat}{blk:aI}{obs:List Bool}{rs:List Nat} 
    (hc:OT P (bn h) t d x=some (k,b,blk,obs,rs)) (ho:aG obs):∃ w',(Builtin.copy_ #[t,t'] T #[d',x']).run P w=.ok (.int .i64 (k:Int)) w'∧HR ρ w' (eW h b blk) n∧gT ρ.live w w':=by
  unfold OT at hc
  split at hc
  case h_2=>cases hc
  rename_i e b' kk es i len cap ht
  split at hc
  case h_2=>cases hc
  rename_i inf blk0 m es' nb obs' rs' hi hg hsrc
  cases h1:Nat.beq inf.size 1&&Nat.beq es' 1 with
  | false=>rw [h1] at hc;cases hc
  | true =>
  rw [h1] at hc
  simp only [Bool.and_eq_true] at h1
  have hsz:=Nat.eq_of_beq_eq_true h1.1
  have hes:=Nat.eq_of_beq_eq_true h1.2
  subst hes
  simp only [cond_true,Option.map_eq_some_iff,Prod.mk.injEq] at hc
  obtain ⟨⟨blk',o'0⟩,hc2,rfl,rfl,rfl,rfl,rfl⟩:=hc
  rw [bt] at ho
  obtain ⟨l,o',hl,h2,hw,ho2⟩:=abg hc2 ho.2
  replace ho:aG obs'∧aG o':=⟨ho.1,ho2⟩
  have hS:=J9 hh hx hsrc ho.1
  obtain ⟨l1,l2⟩:=HV hl
  obtain ⟨a,c,rfl,hv⟩:=hS.val
  have hsize:P.cellsOf e=1:=by simp [Program.cellsOf,hi,hsz]
  by_cases hn0:Nat.min m len=0
  · have el:l=[]:=List.length_eq_zero_iff.1 (by rw [l1,hn0])
    subst el
    simp only [aI.wrN,Option.some.injEq,Prod.mk.injEq] at hw
    obtain ⟨rfl,rfl⟩:=hw
    refine ⟨w,?_,hh.same hg,gT.refl _ _⟩
    rw [hn0]
    cases hd with
    | sl _ _ _ _ _ _ cap' hb hcap hle c' t' hhh hss =>
      have hn0':min m len=0:=hn0
      cases a<;>simp [Builtin.copy_,run_underlying ht,sizeOf,typeInfo,hi,Builtin.lenOf,Builtin.firstCells,storeCells,loadCells,loadCellsFrom,hn0',goInt]<;>rfl
    | slEnd _ _ _ _ a' =>
      cases a<;>cases a'<;>simp [Builtin.copy_,run_underlying ht,sizeOf,typeInfo,hi,Builtin.lenOf,Builtin.firstCells,storeCells,loadCells,loadCellsFrom,goInt]<;>rfl
  · have hmn : ¬ m=0:=fun q=>hn0 (by subst q;exact Nat.zero_min _)
    rcases hv with q | ⟨bl,o,rfl,news,hnl,hnews,hone,hrel⟩
    · exact absurd q hmn
    have hle:Nat.min m len≤news.length:=by rw [hnl,Nat.mul_one];exact Nat.min_le_left _ _
    have hvs:cU ρ w l (news.take (Nat.min m len)):=by
      have key:∀ (l:List AV) (us:List Value),l.length=us.length→(∀ (j:Nat) (v:AV) (u:Value),l[j]? = some v→us[j]? = some u→VR ρ w v u)→cU ρ w l us:=by
        intro l
        induction l with
        | nil=>intro us h1 _;have:us=[]:=List.length_eq_zero_iff.1 h1.symm;subst this;exact .nil
        | cons v l ih =>
          intro us h1 h2
          cases us with
          | nil=>simp at h1
          | cons u us=>exact .cons _ _ _ _ (h2 0 v u rfl rfl) (ih us (by simpa using h1) fun j v' u' q1 q2=>h2 (j+1) v' u' (by simpa using q1) (by simpa using q2))
      refine key _ _ (by rw [l1,List.length_take];omega) fun j v u q1 q2=>?_
      have hj:j<Nat.min m len:=by
        rcases Nat.lt_or_ge j (Nat.min m len) with z | z
        · exact z
        · rw [List.getElem?_eq_none (by omega)] at q1;cases q1
      have:=l2 j hj
      rw [Nat.zero_add,q1] at this
      obtain ⟨u',r1,r2⟩:=hrel j v this
      rw [List.getElem?_take,if_pos hj,r1] at q2
      cases q2
      exact r2
    cases hd with
    | slEnd=>exact absurd (Nat.min_zero m) hn0
    | sl _ _ _ _ _ _ cap' hb hcap hle' c' t'' hhh hss =>
      obtain ⟨w',r1,r2,r3⟩:=sC (P:=P) (x0:=0) (j:=0) hh hg hvs h2 hw ho.2
      refine ⟨w',?_,r2,r3⟩
      have hf:=run_firstCells_some (P:=P) w 1 (Nat.min m len) ⟨bl,o,none⟩ m c (news.take (Nat.min m len)) (by rw [List.length_take];omega) (fun j v hj=>by
        rw [List.getElem?_take] at hj
        split at hj
        · exact hnews j v hj
        · cases hj)
      simp only [Nat.add_zero] at r1
      have hf':(Builtin.firstCells 1 (min m len) (.slice (some ⟨bl,o,none⟩) m c)).run P w=.ok (news.take (min m len)).toArray w:=hf
      have r1':(storeCells ⟨ρ.at_ b',i*kk,none⟩ (news.take (min m len)) 0).run P w=.ok () w':=r1
      have hm:((Nat.min m len:Nat):Int)=((min m len:Nat):Int):=rfl
      simp [Builtin.copy_,run_underlying ht,sizeOf,typeInfo,hi,hsz,Builtin.lenOf,hf',r1',goInt,hm]
def acz:AV→Bool
  | .nsl | .esl | .zsl _=>true
  | _=>false
theorem acA{ρ:ae}{w:World}{x:AV}{u:Value}(h:VR ρ w x u)(hv:acz x=true) :∃ a c,u=.slice a 0 c:=by
  cases h<;>first | exact ⟨_,_,rfl⟩ | cases hv
def OU(P:Program)(g:Nat→Option aI)(t:TypeId)(d x:AV) :Option (Nat×Nat×aI×List Bool×List Nat) :=
  match acz x with
  | false=>OT P g t d x
  | true=>match P.underlying t,d with
    | some (.slice e),.sl b _ _ _ _ _=>match P.info? e,g b with
      | some _,some blk=>some (0,b,blk,[],[b])
      | _,_=>none
    | _,_=>none
theorem Tt{P:Program}{ρ:ae}{w:World}{h:bR}{n:Nat}(hh:HR ρ w h n){t t' T:TypeId}{d x:AV}{d' x':Value}(hd:VR ρ w d d')(hx:VR ρ w x x'){k b:Nat}{blk:aI}{obs:List Bool}{rs:List Nat} 
    (hc:OU P (bn h) t d x=some (k,b,blk,obs,rs)) (ho:aG obs):∃ w',(Builtin.copy_ #[t,t'] T #[d',x']).run P w=.ok (.int .i64 (k:Int)) w'∧HR ρ w' (eW h b blk) n∧gT ρ.live w w':=by
  unfold OU at hc
  split at hc
  · exact Ts hh hd hx hc ho
  · rename_i hvx
    obtain ⟨a,c,rfl⟩:=acA hx hvx
    split at hc
    case h_2=>cases hc
    rename_i e b' kk es i len cap ht
    split at hc
    case h_2=>cases hc
    rename_i inf blk0 hi hg
    simp only [Option.some.injEq,Prod.mk.injEq] at hc
    obtain ⟨rfl,rfl,rfl,rfl,rfl⟩:=hc
    refine ⟨w,?_,hh.same hg,gT.refl _ _⟩
    cases hd with
    | sl _ _ _ _ _ _ cap' hb hcap hle c' t' hhh hss =>
      cases a<;>simp [Builtin.copy_,run_underlying ht,sizeOf,typeInfo,hi,Builtin.lenOf,Builtin.firstCells,storeCells,loadCells,loadCellsFrom,goInt]<;>rfl
    | slEnd _ _ _ _ a' =>
      cases a<;>cases a'<;>simp [Builtin.copy_,run_underlying ht,sizeOf,typeInfo,hi,Builtin.lenOf,Builtin.firstCells,storeCells,loadCells,loadCellsFrom,goInt]<;>rfl
def afS(l:List Int) :ByteArray:=l.foldl (fun r n=>r.push (UInt8.ofNat n.toNat)) ByteArray.empty
def abh(P:Program)(g:Nat→Option aI)(s d:TypeId)(x:AV) :Option (ByteArray×List Bool×List Nat) :=
  match P.underlying s,P.underlying d with
  | some (.slice e),some .string =>
    match P.underlying e,Tm g x with
    | some (.int .u8),some (m,es,.ns k ys,obs,rs)=>bif Nat.beq es 1&&cN k .u8 then some (afS ys,obs,rs) else none
    | _,_=>none
  | _,_=>none
theorem Xv{P:Program}{ρ:ae}{w:World}{h:bR}{n:Nat}(hh:HR ρ w h n){s d:TypeId}{x:AV}{x':Value}(hx:VR ρ w x x'){t:ByteArray}{obs:List Bool}{rs:List Nat} 
    (hc:abh P (bn h) s d x=some (t,obs,rs)) (ho:aG obs):(convert s d x').run P w=.ok (.string t) w:=by
  unfold abh at hc
  split at hc
  case h_2=>cases hc
  rename_i e hs hd
  split at hc
  case h_2=>cases hc
  rename_i m es k ys obs' rs' he hsrc
  cases h1:Nat.beq es 1&&cN k .u8 with
  | false=>rw [h1] at hc;cases hc
  | true =>
  rw [h1] at hc
  simp only [Bool.and_eq_true] at h1
  have hes:=Nat.eq_of_beq_eq_true h1.1
  have hk:k=.u8:=by simpa [cN] using h1.2
  subst hes hk
  simp only [cond_true,Option.some.injEq,Prod.mk.injEq] at hc
  obtain ⟨rfl,rfl,rfl⟩:=hc
  have hS:=J9 hh hx hsrc ho
  obtain ⟨a,c,rfl,hv⟩:=hS.val
  have hlen:ys.length=m:=by
    have:=hS.count
    rw [Nat.mul_one] at this
    exact this
  rw [run_convert_bytes_string w s d e a m c hs he hd]
  rcases hv with h0 | ⟨bl,o,rfl,news,hnl,hnews,hone,hrel⟩
  · subst h0
    have hy:ys=[]:=List.length_eq_zero_iff.1 hlen
    subst hy
    cases a with
    | none=>rfl
    | some a=>exact run_bytesToString w a 0 c [] (by simp [loadCells,loadCellsFrom])
  · have hnews':news=ys.map (Value.int .u8):=by
      refine List.ext_getElem? fun j=>?_
      rw [List.getElem?_map]
      cases hj:ys[j]? with
      | none =>
        rw [List.getElem?_eq_none_iff] at hj
        rw [List.getElem?_eq_none (by omega)];rfl
      | some z =>
        obtain ⟨u,q1,q2⟩:=hrel j (.int .u8 z) (by show (ys[j]?).map _=_;rw [hj];rfl)
        rw [q1]
        cases q2
        rfl
    subst hnews'
    refine run_bytesToString w ⟨bl,o,none⟩ m c ys ?_
    have hf:=run_firstCells_some (P:=P) w 1 m ⟨bl,o,none⟩ m c (ys.map (Value.int .u8)) (by rw [hnl]) hnews
    simpa [Builtin.firstCells] using hf
def Gc(P:Program)(g:Nat→Option aI)(t:TypeId)(x:AV)(lo hi:Option AV) :Option (AV×List Bool×List Nat) :=
  match P.underlying t,x with
  | some (.array n e),.ptr b 1 0 0 =>
    match g b,P.info? e,F2 hi n,F2 lo 0 with
    | some (.ns k xs),some ie,some h,some l =>
      bif Nat.beq ie.size 1 then some (.sl b 1 1 l.toNat (h.toNat-l.toNat) (n-l.toNat),[vL h n,vL l h.toNat,lV n xs.length],[b]) else none
    | _,_,_,_=>none
  | _,_=>none
theorem Qs{P:Program}{ρ:ae}{w:World}{hp:bR}{m:Nat}(hh:HR ρ w hp m){e:Operand→AV}{g:Operand→Value}(hops:∀ x,VR ρ w (e x) (g x)){t:TypeId}{x:AV}{x':Value}{lo hi:Option Operand}{v:AV}{obs:List Bool}{rs:List Nat} 
    (hx:VR ρ w x x') (h:Gc P (bn hp) t x (lo.map e) (hi.map e)=some (v,obs,rs)) (ho:aG obs):iE P ρ w (Instr.sliceAt t x' (lo.map g) (hi.map g) none) v:=by
  unfold Gc at h
  split at h
  case h_2=>cases h
  rename_i n el b hu
  split at h
  case h_2=>cases h
  rename_i k xs ie hh' ll hg hi' e1 e2
  cases hb1:Nat.beq ie.size 1 with
  | false=>rw [hb1] at h;cases h
  | true =>
  rw [hb1] at h
  simp only [cond_true,Option.some.injEq,Prod.mk.injEq] at h
  obtain ⟨rfl,rfl,rfl⟩:=h
  have hsz:ie.size=1:=Nat.eq_of_beq_eq_true hb1
  have b1:=im ho.1
  have b2:=im ho.2.1
  have b3:n≤xs.length:=by have:=ho.2.2.1;unfold lV at this;exact of_decide_eq_true this
  have hce:P.cellsOf el=1:=by simp [Program.cellsOf,hi',hsz]
  cases hx with
  | ptr _ _ _ _ hbo =>
  obtain ⟨hl,hr,c,ty,hc,hcv⟩:=hh.real hg hbo
  have hn:n≤c.size:=by
    rcases Nat.eq_zero_or_pos n with z | z
    · omega
    · have hlt:n-1<xs.length:=by omega
      obtain ⟨u,q,_⟩:=hcv (n-1) (.int k (xs[n-1]'hlt)) (by show (xs[n-1]?).map _=_;rw [List.getElem?_eq_getElem hlt];rfl)
      have:=(Array.getElem?_eq_some_iff.1 q).1
      omega
  have run:=jE (P:=P) (w:=w) false n n (lo.map g) (hi.map g) ll hh' (lY hops e2) (lY hops e1) b1 ⟨b2.1,by omega⟩
  have run2:(Instr.sliceAt t (.pointer (some ⟨ρ.at_ b,0*1+0,none⟩)) (lo.map g) (hi.map g) none).run P w=.ok (.slice (some (if n=ll.toNat then ⟨ρ.at_ b,0*1+0,none⟩ else (Addr.add ⟨ρ.at_ b,0*1+0,none⟩ (ll.toNat*P.cellsOf el)))) (hh'.toNat-ll.toNat) (n-ll.toNat)) w:=by
    simp only [Instr.sliceAt,Sem.run_bind,run_underlying hu,Result.andThen]
    simp [Instr.sureAddr,run,run_sizeOf w hi',hce,hsz,Sem.run_bind,Result.andThen,Sem.run_pure,Go.asAddr]
  refine .plain run2 ?_
  by_cases q:n=ll.toNat
  · rw [if_pos q]
    have z1:hh'.toNat-ll.toNat=0:=by omega
    have z2:n-ll.toNat=0:=by omega
    rw [z1,z2]
    exact .slEnd _ _ _ _ _
  · rw [if_neg q,ky,hce]
    have:0*1+0+ll.toNat*1=ll.toNat*1:=by omega
    rw [this]
    exact .sl _ _ _ _ _ _ _ hbo (Nat.le_refl _) (by omega) c ty hc (by omega)
theorem Qt{P:Program}{g g':Nat→Option aI}{t:TypeId}{x:AV}{lo hi:Option AV}{r:AV×List Bool×List Nat}(h:Gc P g t x lo hi=some r)(hg:∀ b∈r.2.2,g' b=g b) :Gc P g' t x lo hi=some r:=by
  unfold Gc at h ⊢
  split at h
  case h_2=>cases h
  rename_i n el b hu
  split at h
  case h_2=>cases h
  rename_i k xs ie hh' ll hgb hi' e1 e2
  cases hb1:Nat.beq ie.size 1 with
  | false=>rw [hb1] at h;cases h
  | true =>
  rw [hb1] at h
  simp only [cond_true,Option.some.injEq] at h
  subst h
  have:g' b=some (.ns k xs):=by rw [hg b (by simp)];exact hgb
  simp only [this,hi',e1,e2,hb1,cond_true]
def dj.like:dj→dj→Bool
  | .i k _,.i k' _=>cN k k'
  | .s _,.s _=>true
  | .p k _ _,.p k' _ _=>cN k k'
  | _,_=>false
def dj.same:dj→dj→Bool
  | .i _ n,.i _ m=>n==m
  | .s a,.s b=>decide (a=b)
  | .p _ x y,.p _ x' y'=>x==x'&&y==y'
  | _,_=>false
def dj.fits:TypeDesc→dj→Bool
  | .int _,.i ..=>true
  | .string,.s _=>true
  | _,_=>false
def Ec(k:dj) :List dj→Bool
  | []=>true
  | q::l=>k.like q&&Ec k l
def Kf:List dj→Bool
  | []=>true
  | q::l=>(l.all fun r=>!q.same r)&&Kf l
def afl:AV→Option dj
  | .int k n=>some (.i k n)
  | .str s=>some (.s s)
  | .agg [.int k x,.int k' y]=>bif cN k k' then some (.p k x y) else none
  | _=>none
def Kg(P:Program)(kt:TypeId) :dj→Bool
  | .p k _ _=>match P.underlying kt with
    | some (.array 2 et)=>match P.underlying et,(P.info? et).map (·.size) with
      | some (.int _),some 1=>true
      | _,_=>false
    | _=>false
  | _=>false
def acB:Value→AV
  | .agg c=>.agg (c.toList.map fe)
  | v=>fe v
def okV(cok:Bool)(v:AV)(b:Bool) :AV:=bif cok then .tup [v,.bool true b] else v
def Ed(cok:Bool)(k:dj) :List dj→List AV→List rG
  | q::ks,v::vs=>⟨okV cok v true,[],[k.same q]⟩::Ed cok k ks vs
  | _,_=>[]
def Qu(P:Program)(t:TypeId)(x k:AV)(cok:Bool) :List rG :=
  match P.underlying t,x,afl k with
  | some (.map kt et),.gmap ks vs,some key =>
    match P.underlying kt,(P.info? et).bind (·.zero) with
    | some d,some z=>bif (key.fits d||Kg P kt key)&&Ec key ks&&Kf ks then Ed cok key ks vs++[⟨okV cok (acB z) false,[],ks.map fun q=>!key.same q⟩] else []
    | _,_=>[]
  | _,_,_=>[]
theorem Kh{P:Program}{w:World}{t:TypeId}{n:Nat}(h:(P.info? t).map (·.size)=some n) :(sizeOf t).run P w=.ok n w:=by
  obtain ⟨i,h1,h2⟩:=Option.map_eq_some_iff.1 h
  subst h2
  simp [sizeOf,typeInfo,Sem.run_bind,h1]
theorem Ee{P:Program}{w:World}{et:TypeId}{k:IntKind}(he:P.underlying et=some (.int k)){cs:Array Value}{off:Nat}{v:Value}(hc:cs[off]? = some v) :(part et cs off).run P w=.ok v w:=by
  unfold part
  simp [isAgg,Sem.run_bind,run_underlying he,hc]
theorem ad4{P:Program}{w:World}{kt et:TypeId}{k:IntKind}(hu:P.underlying kt=some (.array 2 et))(he:P.underlying et=some (.int k))(hs:(P.info? et).map (·.size)=some 1)(j:IntKind)(x y x' y':Int)(n:Nat) :
    (Op.equalIn (n+2) kt (.agg #[.int j x,.int j y]) (.agg #[.int j x',.int j y'])).run P w=.ok (x==x'&&y==y') w:=by
  unfold Op.equalIn
  rw [Sem.run_bind,run_underlying hu]
  simp only [Result.andThen_ok,Sem.run_bind,Kh hs]
  have e1:∀ a b,(Op.equalIn (n+1) et (.int j a) (.int j b)).run P w=.ok (a==b) w:=fun a b=>by
    unfold Op.equalIn
    rw [Sem.run_bind,run_underlying he]
    simp
  have p0:∀ a b:Int,(part et #[.int j a,.int j b] 0).run P w=.ok (.int j a) w:=fun a b=>Ee he rfl
  have p1:∀ a b:Int,(part et #[.int j a,.int j b] 1).run P w=.ok (.int j b) w:=fun a b=>Ee he rfl
  simp [Std.Legacy.Range.forIn_eq_forIn_range',Std.Legacy.Range.size,List.range',Sem.run_bind,p0,p1,e1]
  cases h1:(x==x')<;>cases h2:(y==y')<;>simp_all [Sem.run_bind,p0,p1,e1]
theorem Ki{P:Program}{w:World}{kt et:TypeId}{k:IntKind}(hu:P.underlying kt=some (.array 2 et))(he:P.underlying et=some (.int k))(hs:(P.info? et).map (·.size)=some 1)(j:IntKind)(x y:Int)(b:Bool)(n:Nat) :
    (Instr.checkKey b (n+2) kt (.agg #[.int j x,.int j y])).run P w=.ok () w:=by
  unfold Instr.checkKey
  rw [Sem.run_bind,run_underlying hu]
  have p0:∀ a b:Int,(part et #[.int j a,.int j b] 0).run P w=.ok (.int j a) w:=fun a b=>Ee he rfl
  have p1:∀ a b:Int,(part et #[.int j a,.int j b] 1).run P w=.ok (.int j b) w:=fun a b=>Ee he rfl
  have c1:∀ a,(Instr.checkKey b (n+1) et (.int j a)).run P w=.ok () w:=fun a=>by
    unfold Instr.checkKey
    rw [Sem.run_bind,run_underlying he]
    rfl
  simp [Std.Legacy.Range.forIn_eq_forIn_range',Std.Legacy.Range.size,List.range',Sem.run_bind,Kh hs,p0,p1,c1]
theorem OV{P:Program}{kt:TypeId}{key:dj}(h:Kg P kt key=true) :∃ k x y et k',key=.p k x y∧P.underlying kt=some (.array 2 et)∧P.underlying et=some (.int k')∧(P.info? et).map (·.size)=some 1:=by
  unfold Kg at h
  split at h
  case h_2=>cases h
  rename_i k x y
  split at h
  case h_2=>cases h
  rename_i et hu
  split at h
  case h_2=>cases h
  rename_i k' he hs
  exact ⟨k,x,y,et,k',rfl,hu,he,hs⟩
theorem nc{k:dj} :∀ {l:List dj},Ec k l=true→∀ q∈l,k.like q=true
  | [],_,q,h=>by cases h
  | r::l,h,q,hq=>by
    simp only [Ec,Bool.and_eq_true] at h
    rcases List.mem_cons.1 hq with rfl | hq
    · exact h.1
    · exact nc h.2 q hq
theorem Tu(ρ:ae)(w:World)(v:Value) :VR ρ w (acB v) v:=by
  unfold acB
  split
  · exact .agg _ _ (wv ρ w _)
  · exact oX ρ w v
theorem acC{ρ:ae}{w:World}{k:AV}{k':Value}{key:dj}(h:VR ρ w k k')(hk:afl k=some key) :k'=key.val:=by
  unfold afl at hk
  split at hk
  · cases hk;cases h;rfl
  · cases hk;cases h;rfl
  · rename_i k x k' y
    cases hs:cN k k' with
    | false=>rw [hs] at hk;cases hk
    | true =>
      rw [hs] at hk
      have hkk:k=k':=by simpa [cN] using hs
      subst hkk
      cases hk
      cases h with | agg _ c h =>
      obtain ⟨c⟩:=c
      cases h with | cons _ _ _ _ h1 h2 =>
      cases h2 with | cons _ _ _ _ h2 h3 =>
      cases h3;cases h1;cases h2;rfl
  · cases hk
theorem vQ{k q:dj}(h:k.like q=true) :k.same q=true↔q.val=k.val:=by
  cases k with
  | i k n =>
    cases q with
    | i k' m =>
      have:k=k':=by simpa [dj.like,cN] using h
      subst this
      simp only [dj.same,dj.val,beq_iff_eq,Value.int.injEq,true_and]
      exact ⟨fun e=>e.symm,fun e=>e.symm⟩
    | s b=>cases h
    | p=>cases h
  | p k x y =>
    cases q with
    | p k' x' y' =>
      have:k=k':=by simpa [dj.like,cN] using h
      subst this
      simp only [dj.same,dj.val,Bool.and_eq_true,beq_iff_eq]
      exact ⟨fun ⟨h1,h2⟩=>by rw [h1,h2],fun h=>by simp at h;exact ⟨h.1.symm,h.2.symm⟩⟩
    | i=>cases h
    | s=>cases h
  | s a =>
    cases q with
    | i k' m=>cases h
    | p=>cases h
    | s b =>
      simp only [dj.same,dj.val,decide_eq_true_eq,Value.string.injEq]
      exact ⟨fun e=>e.symm,fun e=>e.symm⟩
theorem afm(a b:ByteArray) :(a==b)=decide (a=b):=by
  have e:(a==b)=(a.data==b.data):=rfl
  rw [e]
  by_cases h:a=b
  · subst h;simp
  · rw [decide_eq_false h]
    have:a.data≠b.data:=fun c=>h (by cases a;cases b;simp at c;subst c;rfl)
    simpa using this
theorem ad5{d:TypeDesc}{k q:dj}(hf:k.fits d=true)(h:k.like q=true) :Instr.sameNow d k.val q.val=some (k.same q):=by
  cases k with
  | i k n =>
    cases q with
    | i k' m =>
      have:k=k':=by simpa [dj.like,cN] using h
      subst this
      cases d<;>first | (cases hf;done) | simp [dj.val,Instr.sameNow,dj.same]
    | s b=>cases h
    | p=>cases h
  | p k x y=>cases d<;>cases hf
  | s a =>
    cases q with
    | i k' m=>cases h
    | p=>cases h
    | s b =>
      cases d<;>first | (cases hf;done) | (simp only [dj.val,Instr.sameNow,dj.same,afm])
theorem Ef{d:TypeDesc}{key:dj}(hf:key.fits d=true) :∀ (es:List MapEntry) (i:Nat),(∀ e∈es,∃ q:dj,key.like q=true∧e.key=q.val) →
    (Instr.findNow d key.val es i=some none∧∀ e∈es,e.key≠key.val)∨∃ j e,e∈es∧e.key=key.val∧Instr.findNow d key.val es i=some (some (j,e.val))
  | [],i,_=>.inl ⟨rfl,fun e h=>by cases h⟩
  | e::es,i,h=>by
    obtain ⟨q,hq,he⟩:=h e (by simp)
    have hn:Instr.sameNow d key.val e.key=some (key.same q):=by rw [he];exact ad5 hf hq
    cases hs:key.same q with
    | true =>
      refine .inr ⟨i,e,by simp,by rw [he];exact (vQ hq).1 hs,?_⟩
      simp only [Instr.findNow,hn,hs]
    | false =>
      have hne:e.key≠key.val:=by rw [he];intro c;rw [(vQ hq).2 c] at hs;cases hs
      rcases Ef hf es (i+1) (fun e he=>h e (by simp [he])) with ⟨q1,q2⟩ | ⟨j,e',q1,q2,q3⟩
      · refine .inl ⟨by simp only [Instr.findNow,hn,hs];exact q1,fun e' he'=>?_⟩
        rcases List.mem_cons.1 he' with rfl | he'
        · exact hne
        · exact q2 e' he'
      · exact .inr ⟨j,e',by simp [q1],q2,by simp only [Instr.findNow,hn,hs];exact q3⟩
theorem Eg{P:Program}{w:World}{kt et:TypeId}{k':IntKind}(hu:P.underlying kt=some (.array 2 et))(he:P.underlying et=some (.int k'))(hs:(P.info? et).map (·.size)=some 1){k:IntKind}{x y:Int} :∀ (es:List MapEntry) (i:Nat),(∀ e∈es,∃ q:dj,(dj.p k x y).like q=true∧e.key=q.val) →
    ((Instr.findAsking kt (dj.p k x y).val es i).run P w=.ok none w∧∀ e∈es,e.key≠(dj.p k x y).val)∨∃ j e,e∈es∧e.key=(dj.p k x y).val∧(Instr.findAsking kt (dj.p k x y).val es i).run P w=.ok (some (j,e.val)) w
  | [],i,_=>.inl ⟨by simp [Instr.findAsking],fun e h=>by cases h⟩
  | e::es,i,h=>by
    obtain ⟨q,hq,hk⟩:=h e (by simp)
    obtain ⟨k2,x',y',rfl⟩:∃ k2 x' y',q=.p k2 x' y':=by cases q<;>first | exact ⟨_,_,_,rfl⟩ | cases hq
    have hkk:k=k2:=by simpa [dj.like,cN] using hq
    subst hkk
    have heq:(Op.equal kt (dj.p k x y).val e.key).run P w=.ok (x==x'&&y==y') w:=by
      rw [hk];exact ad4 hu he hs k x y x' y' _
    have hfa:(Instr.findAsking kt (dj.p k x y).val (e::es) i).run P w=if (x==x'&&y==y')=true then .ok (some (i,e.val)) w else (Instr.findAsking kt (dj.p k x y).val es (i+1)).run P w:=by
      rw [Instr.findAsking]
      simp only [Sem.run_bind,heq,Result.andThen_ok]
      split<;>simp
    cases hb:(x==x'&&y==y') with
    | true =>
      refine .inr ⟨i,e,by simp,?_,by rw [hfa,hb];rfl⟩
      simp only [Bool.and_eq_true,beq_iff_eq] at hb
      rw [hk,hb.1,hb.2]
    | false =>
      have hne:e.key≠(dj.p k x y).val:=by
        rw [hk]
        intro c
        simp [dj.val] at c
        rw [c.1,c.2] at hb
        simp at hb
      rw [hb] at hfa
      simp only [Bool.false_eq_true,if_false] at hfa
      rcases Eg hu he hs es (i+1) (fun e he=>h e (by simp [he])) with ⟨q1,q2⟩ | ⟨j,e',q1,q2,q3⟩
      · refine .inl ⟨by rw [hfa];exact q1,fun e' he'=>?_⟩
        rcases List.mem_cons.1 he' with rfl | he'
        · exact hne
        · exact q2 e' he'
      · exact .inr ⟨j,e',by simp [q1],q2,by rw [hfa];exact q3⟩
theorem abi{P:Program}{w:World}{kt:TypeId}{d:TypeDesc}(hu:P.underlying kt=some d){key:dj}(hf:key.fits d=true)(b:Bool)(n:Nat) :(Instr.checkKey b (n+1) kt key.val).run P w=.ok () w:=by
  unfold Instr.checkKey
  rw [Sem.run_bind,run_underlying hu]
  cases key<;>cases d<;>first | (cases hf;done) | rfl
theorem OW{P:Program}{w:World}{kt:TypeId}{d:TypeDesc}(hu:P.underlying kt=some d){key:dj}(hf:(key.fits d||Kg P kt key)=true)(b:Bool)(n:Nat) :(Instr.checkKey b (n+2) kt key.val).run P w=.ok () w:=by
  rcases Bool.or_eq_true _ _ ▸ hf with h | h
  · exact abi hu h b (n+1)
  · obtain ⟨k,x,y,et,k',rfl,h1,h2,h3⟩:=OV h
    exact Ki h1 h2 h3 k x y b n
theorem Eh{P:Program}{w:World}{kt:TypeId}{d:TypeDesc}(hu:P.underlying kt=some d){key:dj}(hf:(key.fits d||Kg P kt key)=true)(es:List MapEntry)(h:∀ e∈es,∃ q:dj,key.like q=true∧e.key=q.val) :
    ((Instr.findKey kt key.val es).run P w=.ok none w∧∀ e∈es,e.key≠key.val)∨∃ j e,e∈es∧e.key=key.val∧(Instr.findKey kt key.val es).run P w=.ok (some (j,e.val)) w:=by
  unfold Instr.findKey
  rcases Bool.or_eq_true _ _ ▸ hf with hk | hk
  · rcases Ef hk es 0 h with ⟨q1,q2⟩ | ⟨j,e,q1,q2,q3⟩
    · exact .inl ⟨by simp only [Sem.run_bind,run_underlying hu,Result.andThen_ok,q1];rfl,q2⟩
    · exact .inr ⟨j,e,q1,q2,by simp only [Sem.run_bind,run_underlying hu,Result.andThen_ok,q3];rfl⟩
  · obtain ⟨k,x,y,et,k',rfl,h1,h2,h3⟩:=OV hk
    have hd:d=.array 2 et:=by rw [hu] at h1;exact Option.some.inj h1
    subst hd
    cases es with
    | nil=>exact .inl ⟨by simp only [Sem.run_bind,run_underlying hu,Result.andThen_ok,Instr.findNow];rfl,fun e h=>by cases h⟩
    | cons e es =>
      have hn:Instr.findNow (.array 2 et) (dj.p k x y).val (e::es) 0=none:=rfl
      simp only [Sem.run_bind,run_underlying hu,Result.andThen_ok,hn]
      exact Eg h1 h2 h3 (e::es) 0 h
theorem wD{cok:Bool}{k:dj} :∀ {ks:List dj} {vs:List AV} {r:rG},r∈Ed cok k ks vs→∃ (i:Nat) (q:dj) (v:AV),ks[i]? = some q∧vs[i]? = some v∧r=⟨okV cok v true,[],[k.same q]⟩
  | q::ks,v::vs,r,h=>by
    simp only [Ed,List.mem_cons] at h
    rcases h with rfl | h
    · exact ⟨0,q,v,rfl,rfl,rfl⟩
    · obtain ⟨i,q',v',h1,h2,h3⟩:=wD h
      exact ⟨i+1,q',v',by simpa using h1,by simpa using h2,h3⟩
  | [],_,r,h=>by cases h
  | _::_,[],r,h=>by cases h
theorem C2:∀ {l:List dj},Kf l=true→∀ {i j:Nat} {q r:dj},l[i]? = some q→l[j]? = some r→i<j→q.same r=false
  | [],_,i,j,q,r,h1,_,_=>by simp at h1
  | x::l,hn,i,j,q,r,h1,h2,hlt=>by
    simp only [Kf,Bool.and_eq_true,List.all_eq_true,Bool.not_eq_true'] at hn
    cases j with
    | zero=>omega
    | succ j =>
      cases i with
      | zero =>
        simp at h1 h2;subst h1
        exact hn.1 r (List.mem_of_getElem? h2)
      | succ i=>exact C2 hn.2 (i:=i) (j:=j) (by simpa using h1) (by simpa using h2) (by omega)
theorem Kj{P:Program}{w:World}{t kt et:TypeId}(ht:P.underlying t=some (.map kt et)){bl cl:Nat}{es:Array MapEntry}(hh:w.heap[bl]? = some (.map es cl)){key:dj}(hck:∀ b,(Instr.checkKey b 10000 kt key.val).run P w=.ok () w) 
    {r:Option (Nat×Value)} (hfk:(Instr.findKey kt key.val es.toList).run P w=.ok r w) {z:Value} (hz:(zeroValue et).run P w=.ok z w) (cok:Bool) :
    (Instr.lookup t (.map (some bl)) key.val cok).run P w=.ok (if cok then .tuple #[(r.map Prod.snd).getD z,.bool r.isSome] else (r.map Prod.snd).getD z) w:=by
  unfold Instr.lookup
  simp only [Sem.run_bind,run_underlying ht,Result.andThen_ok]
  have hg:(getObj bl).run P w=.ok (.map es cl) w:=by simp [getObj,Sem.run,hh]
  simp only [Sem.run_bind,hg,Result.andThen_ok,Sem.run_pure,hck]
  simp only [hfk,Result.andThen_ok]
  cases r with
  | none=>simp only [Sem.run_bind,hz,Result.andThen_ok,Sem.run_pure];cases cok<;>rfl
  | some p=>obtain ⟨j,v⟩:=p;simp only [Sem.run_bind,Result.andThen_ok,Sem.run_pure];cases cok<;>rfl
theorem M1{P:Program}{ρ:ae}{w:World}{t:TypeId}{x k:AV}{x' k':Value}{cok:Bool}{r:rG}(hx:VR ρ w x x')(hk:VR ρ w k k')(h:r∈Qu P t x k cok)(ho:aG r.obs) :
    iE P ρ w (Instr.lookup t x' k' cok) r.v:=by
  unfold Qu at h
  split at h
  case h_2=>cases h
  rename_i kt et ks vs key ht hkey
  split at h
  case h_2=>cases h
  rename_i d z hd hz
  cases hb:(key.fits d||Kg P kt key)&&Ec key ks&&Kf ks with
  | false=>rw [hb] at h;cases h
  | true =>
  rw [hb] at h
  simp only [cond_true,List.mem_append,List.mem_singleton] at h
  simp only [Bool.and_eq_true] at hb
  obtain ⟨⟨hf,hl⟩,hn⟩:=hb
  have hkv:=acC hk hkey
  subst hkv
  cases hx with | gmap _ _ bl es cl u ha hb' hh hin hex hv hlen hkept =>
  simp only [Option.bind_eq_some_iff] at hz
  obtain ⟨inf,hi,hz⟩:=hz
  have hzv:(zeroValue et).run P w=.ok z w:=by simp [zeroValue,typeInfo,hi,hz]
  have hes:∀ e∈es.toList,∃ q:dj,key.like q=true∧e.key=q.val:=fun e he=>by
    obtain ⟨i,q,h1,h2,_⟩:=hin e he
    exact ⟨q,nc hl q (List.mem_of_getElem? h1),h2⟩
  rcases Eh hd hf es.toList hes with ⟨q1,q2⟩ | ⟨j,e,q1,q2,q3⟩
  · have run:=Kj ht hh (fun b=>OW hd hf b 9998) q1 hzv cok
    rcases h with h | rfl
    · obtain ⟨i,q,v,h1,h2,rfl⟩:=wD h
      obtain ⟨e,he,h3,_⟩:=hex i q h1
      exact absurd (h3.trans ((vQ (nc hl q (List.mem_of_getElem? h1))).1 ho.1)) (q2 e he)
    · refine .plain run ?_
      cases cok
      · exact Tu ρ w z
      · exact .tup _ #[_,_] (.cons _ _ _ _ (Tu ρ w z) (.cons _ _ _ _ (.bool _ _) .nil))
  · have run:=Kj ht hh (fun b=>OW hd hf b 9998) q3 hzv cok
    obtain ⟨i,q,h1,h2,h3⟩:=hin e q1
    have hsame:key.same q=true:=(vQ (nc hl q (List.mem_of_getElem? h1))).2 (h2.symm.trans q2)
    rcases h with h | rfl
    · obtain ⟨i',q',v,k1,k2,rfl⟩:=wD h
      have hij:i=i':=by
        have l1:=nc hl q (List.mem_of_getElem? h1)
        have l2:=nc hl q' (List.mem_of_getElem? k1)
        have e1:=(vQ l1).1 hsame
        have e2:=(vQ l2).1 ho.1
        have lk:∀ {a b:dj},key.like a=true→key.like b=true→a.val=b.val→a.same b=true:=by
          intro a b ha hb e
          cases key<;>cases a<;>cases b<;>simp_all [dj.like,dj.same,dj.val]
        rcases Nat.lt_trichotomy i i' with c | c | c
        · have:=C2 hn h1 k1 c
          rw [lk l1 l2 (e1.trans e2.symm)] at this;cases this
        · exact c
        · have:=C2 hn k1 h1 c
          rw [lk l2 l1 (e2.trans e1.symm)] at this;cases this
      subst hij
      refine .plain run ?_
      have hvr:VR ρ w v e.val:=by rw [h3];exact hv i v k2
      cases cok
      · exact hvr
      · exact .tup _ #[_,_] (.cons _ _ _ _ hvr (.cons _ _ _ _ (.bool _ _) .nil))
    · exfalso
      have:∀ (l:List dj),aG (l.map fun q=>!key.same q)→∀ q∈l,key.same q=false:=by
        intro l
        induction l with
        | nil=>intro _ q hq;cases hq
        | cons a l ih =>
          intro h q hq
          simp only [List.map_cons,aG,Bool.not_eq_true'] at h
          rcases List.mem_cons.1 hq with rfl | hq
          · exact h.1
          · exact ih h.2 q hq
      have:=this ks ho q (List.mem_of_getElem? h1)
      rw [hsame] at this;cases this
inductive IM where
  | sqrt | bits | frombits | add64 | sub64 | idxb | cntb
def afn(s:ByteArray)(c:Int) :Int:=match (List.range s.size).find? fun i=>s[i]! == c.toNat.toUInt8 with
  | some i=>(i:Int)
  | none=>-1
def afo(s:ByteArray)(c:Int) :Int:=s.foldl (fun n x=>if x==c.toNat.toUInt8 then n+1 else n) (0:Int)
def zK:IM→Array Value→Sem Value
  | .sqrt=>Extern.MathSqrt.sqrt
  | .bits=>Extern.MathFloatBits.float64bits
  | .frombits=>Extern.MathFloatBits.float64frombits
  | .add64=>fun args=>do
    let (x, y, c) ← Extern.MathBitsCarry.three "Add64" args
    pure (Extern.MathBitsCarry.pair ((x+y+c)%Extern.MathBitsCarry.m64) ((x+y+c)/Extern.MathBitsCarry.m64))
  | .sub64=>fun args=>do
    let (x, y, b) ← Extern.MathBitsCarry.three "Sub64" args
    pure (Extern.MathBitsCarry.pair ((x+Extern.MathBitsCarry.m64-y-b)%Extern.MathBitsCarry.m64) (if x<y+b then 1 else 0))
  | .idxb=>Extern.BytealgIndexByte.indexByte
  | .cntb=>Extern.BytealgCount.count
def ad6(k:IM)(args:List AV) :List rG :=
  match k,args with
  | .sqrt,[.flt _ x]=>[⟨.flt false (aci x),[],[]⟩]
  | .bits,[.flt true x]=>[⟨.int .u64 x,[],[]⟩]
  | .bits,[.flt false x]=>[⟨.int .u64 x,[],[!isNaN x]⟩,⟨.nan,[],[isNaN x]⟩]
  | .frombits,[.int .u64 n]=>[⟨.flt true n.toNat,[],[]⟩]
  | .add64,[.int _ x,.int _ y,.int _ c]=>[⟨.tup [.int .u64 (((x.toNat+y.toNat+c.toNat)%18446744073709551616:Nat):Int),.int .u64 (((x.toNat+y.toNat+c.toNat)/18446744073709551616:Nat):Int)],[],[lV c.toNat 1]⟩]
  | .sub64,[.int _ x,.int _ y,.int _ c]=>[⟨.tup [.int .u64 (((x.toNat+18446744073709551616-y.toNat-c.toNat)%18446744073709551616:Nat):Int),.int .u64 (bif Nat.blt x.toNat (y.toNat+c.toNat) then 1 else 0)],[],[lV c.toNat 1]⟩]
  | .idxb,[.str s,.int .u8 c]=>[⟨.int .i64 (afn s c),[],[]⟩]
  | .cntb,[.str s,.int .u8 c]=>[⟨.int .i64 (afo s c),[],[]⟩]
  | _,_=>[]
abbrev dY:=Option (List Nat)
structure acD where
  mask:List Bool
  keep:Bool
abbrev eC:=FuncId→List aI→List AV→dY→Option (gw×List Bool×dY)
structure tL where
  P:Program
  ext:FuncId→Option IM
  mode:FuncId→acD
  wrap:Bool
structure tL.Ok (C:tL):Prop where
  mixed:C.P.follows .mixedOrders=true
  enter:∀ (f:FuncId) (fn:Func) (args:Array Value) (w:World),C.P.funcs[f]? = some fn→fn.body.isSome=true→(callFunc f args).run C.P w=.ok (.enter f args) w
  ext:∀ (f:FuncId) (k:IM) (args:Array Value) (w:World),C.ext f=some k→(callFunc f args).run C.P w=(do pure (Next.value (←zK k args)):Sem Next).run C.P w
def Kk(P:Program)(run:eC) :Prop :=
  ∀ f lent args p r obs p',run f lent args p=some (r,obs,p')→aG obs→∀ (ρ:ae) (w:World) (us:List Value),ik ρ w lent→cU ρ w args us →
    (∃ fn,P.funcs[f]? = some fn∧fn.body.isSome=true)∧Calls P f us.toArray w fun e w'=>∃ u,e=.returned u∧gT ρ.live w w'∧r.Holds ρ w w' lent.length u
structure OpR where
  v:AV
  sets:List (Nat×Option aI)
  reads:List Nat
  obs:List Bool
  path:dY
def Qv:List Bool→Bool
  | []=>true
  | b::l=>b&&Qv l
theorem Gd:∀ {l:List Bool},Qv l=true→aG l
  | [],_=>trivial
  | b::l,h=>by simp only [Qv,Bool.and_eq_true] at h;exact ⟨h.1,Gd h.2⟩
def wE(alts:List rG)(p:dY) :Option (rG×dY) :=
  match alts,p with
  | [a],p=>some (a,p)
  | alts,none=>(alts.find? fun a=>Qv a.obs).map fun a=>(a,none)
  | alts,some (k::r)=>(alts[k]?).map fun a=>(a,some r)
  | _,_=>none
theorem tR{alts:List rG}{p p':dY}{a:rG}(h:wE alts p=some (a,p')) :a∈alts:=by
  unfold wE at h
  split at h
  · simp only [Option.some.injEq,Prod.mk.injEq] at h;rw [←h.1];simp
  · simp only [Option.map_eq_some_iff,Prod.mk.injEq] at h;obtain ⟨b,h1,rfl,_⟩:=h;exact List.mem_of_find?_eq_some h1
  · simp only [Option.map_eq_some_iff,Prod.mk.injEq] at h;obtain ⟨b,h1,rfl,_⟩:=h;exact List.mem_of_getElem? h1
  · cases h
def hU:Nat:=100000
mutual
def Qw:AV→List Nat
  | .ptr b ..=>[b]
  | .sl b ..=>[b]
  | .fn _ l1 l2=>io l1++io l2
  | .agg l | .tup l=>io l
  | .iface _ v=>Qw v
  | _=>[]
def io:List AV→List Nat
  | []=>[]
  | v::l=>Qw v++io l
end
def ad7:aI→List Nat
  | .vs l=>io l
  | _=>[]
def qW:List Nat→Nat→Bool
  | [],_=>false
  | k::l,b=>bif Nat.beq k b then true else qW l b
def mb(g:Nat→Option aI) :Nat→List Nat→List Nat→List Nat
  | 0,_,acc=>acc
  | _+1,[],acc=>acc
  | n+1,b::t,acc=>match qW acc b with
    | true=>mb g n t acc
    | false=>mb g n ((match g b with | some d=>ad7 d | none=>[])++t) (acc++[b])
def nv:List Bool→List AV→List AV
  | true::m,v::l=>v::nv m l
  | false::m,_::l=>nv m l
  | _,_=>[]
def jG(σ:Nat→Option Nat)(g:Nat→Option aI) :List Bool→List AV→List AV×List Nat
  | _,[]=>([],[])
  | true::m,v::l=>let s:=jG σ g m l;(JH σ v::s.1,s.2)
  | false::m,v::l=>let r:=Ga σ g hU v;let s:=jG σ g m l;(r.1::s.1,r.2++s.2)
  | [],v::l=>let r:=Ga σ g hU v;let s:=jG σ g [] l;(r.1::s.1,r.2++s.2)
theorem tS{ρ τ:ae}{w:World}{h:bR}{m:Nat}{σ:Nat→Option Nat}(hh:HR ρ w h m)(L:Tq ρ τ w h σ) :∀ (k:List Bool) {l:List AV} {c:List Value},cU ρ w l c→cU τ w (jG σ (bn h) k l).1 c
  | k,[],c,hv=>by cases hv;cases k<;>exact .nil
  | true::k,v::l,c,hv=>by cases hv with | cons _ u _ c' h1 h2=>exact .cons _ _ _ _ (iX L h1) (tS hh L k h2)
  | false::k,v::l,c,hv=>by cases hv with | cons _ u _ c' h1 h2=>exact .cons _ _ _ _ (Qq hh L _ h1) (tS hh L k h2)
  | [],v::l,c,hv=>by cases hv with | cons _ u _ c' h1 h2=>exact .cons _ _ _ _ (Qq hh L _ h1) (tS hh L [] h2)
def uT:List Nat→Bool
  | []=>true
  | k::l=>bif qW l k then false else uT l
def nw(g:Nat→Option aI)(nid:Nat) :List Nat→Bool
  | []=>true
  | b::l=>(match g b with | some _=>Nat.blt b nid||Nat.ble (nid+qp) b | none=>false)&&nw g nid l
theorem C3:∀ {l:List Nat} {i b:Nat},l[i]? = some b→qW l b=true
  | [],i,b,h=>by simp at h
  | k::l,0,b,h=>by simp at h;subst h;simp [qW,mJ]
  | k::l,i+1,b,h=>by
    simp only [qW]
    cases Nat.beq k b with
    | true=>rfl
    | false=>simp only [cond_false];exact C3 (i:=i) (by simpa using h)
theorem sE:∀ {l:List Nat},uT l=true→∀ {i j b:Nat},l[i]? = some b→l[j]? = some b→i=j
  | [],_,i,j,b,h1,_=>by simp at h1
  | k::l,hn,i,j,b,h1,h2=>by
    simp only [uT] at hn
    cases e:qW l k with
    | true=>rw [e] at hn;cases hn
    | false =>
      rw [e] at hn;simp only [cond_false] at hn
      cases i with
      | zero =>
        cases j with
        | zero=>rfl
        | succ j=>simp at h1 h2;subst h1;rw [C3 h2] at e;cases e
      | succ i =>
        cases j with
        | zero=>simp at h1 h2;subst h2;rw [C3 h1] at e;cases e
        | succ j=>have:=sE hn (i:=i) (j:=j) (b:=b) (by simpa using h1) (by simpa using h2);omega
theorem uU{g:Nat→Option aI}{nid:Nat} :∀ {l:List Nat},nw g nid l=true→∀ b,b∈l→(∃ d,g b=some d)∧(b<nid∨nid+qp≤b)
  | [],_,b,hb=>by cases hb
  | k::l,h,b,hb=>by
    simp only [nw,Bool.and_eq_true] at h
    rcases List.mem_cons.1 hb with rfl | q
    · have:=h.1
      cases e:g b with
      | none=>rw [e] at this;cases this
      | some d =>
        rw [e] at this
        simp only [Bool.or_eq_true] at this
        refine ⟨⟨d,rfl⟩,this.imp (fun q=>by simpa [Nat.blt_eq] using q) (fun q=>Nat.le_of_ble_eq_true q)⟩
    · exact uU h.2 b q
def zL(e:Operand→AV)(f:Operand)(args:Array Operand) :Option (FuncId×List AV) :=
  match e f with
  | .fn (.func fid) first caps=>some (fid,first++args.toList.map e++caps)
  | _=>none
def Kl(C:tL)(run:eC)(g:Nat→Option aI)(nid:Nat)(p:dY)(fid:FuncId)(vals:List AV) :Option OpR :=
  let bs:=mb g hU (io (nv (C.mode fid).mask vals)) []
  let la:=jG (iU bs 0) g (C.mode fid).mask vals
  bif uT bs&&nw g nid bs then
    match run fid (qV (iU bs 0) g bs) la.1 p with
    | some (r,obs,p') =>
      bif Nat.ble r.own.length (bs.length+qp) then
        some { v:=ma (fb bs nid) r.v,sets:=jF (fb bs nid) 0 r.own,reads:=bs++la.2,obs,path:=p' }
      else none
    | none=>none
  else none
def Xw(C:tL)(run:eC)(e:Operand→AV)(g:Nat→Option aI)(nid:Nat)(p:dY)(op:Op) :Option OpR :=
  match sy C.wrap C.P e op with
  | some (v,obs)=>some { v,sets:=[],reads:=[],obs,path:=p }
  | none =>
    match op with
    | .load t x=>(Ch C.P g t (e x)).map fun r=>{ v:=r.1,sets:=[],reads:=r.2.2,obs:=r.2.1,path:=p }
    | .convert t d x=>(abh C.P g t d (e x)).map fun r=>{ v:=.str r.1,sets:=[],reads:=r.2.2,obs:=r.2.1,path:=p }
    | .slice t x lo hi none=>(Gc C.P g t (e x) (lo.map e) (hi.map e)).map fun r=>{ v:=r.1,sets:=[],reads:=r.2.2,obs:=r.2.1,path:=p }
    | .store t x v=>(CU C.P g t (e x) (e v)).map fun r=>{ v:=.any,sets:=[(r.1,some r.2.1)],reads:=[r.1],obs:=r.2.2,path:=p }
    | .lookup t x k cok=>(wE (Qu C.P t (e x) (e k) cok) p).map fun r=>{ v:=r.1.v,sets:=[],reads:=[],obs:=r.1.obs,path:=r.2 }
    | .alloc t=>(Qe C.P nid t).map fun r=>{ v:=r.1,sets:=[(nid,some r.2)],reads:=[],obs:=[],path:=p }
    | .box t x=>(ad2 C.P nid t (e x)).map fun r=>{ v:=r.1,sets:=[(nid,some r.2)],reads:=[],obs:=[],path:=p }
    | .makeSlice t l c=>(acs C.P nid t (e l) (e c)).map fun r=>{ v:=r.1,sets:=[(nid,some r.2.1)],reads:=[],obs:=r.2.2,path:=p }
    | .build t parts=>(Xo C.P t (parts.toList.map fun x=>(x.1,e x.2))).map fun v=>{ v,sets:=[],reads:=[],obs:=[],path:=p }
    | .buildSlice t len parts=>(zG C.P nid t len (parts.toList.map fun x=>(x.1,e x.2))).map fun r=>{ v:=r.1,sets:=[(nid,some r.2)],reads:=[],obs:=[],path:=p }
    | .call { callee:=.builtin .append,args,argTypes } =>
      match args.toList,argTypes.toList with
      | [s,x],[t,t']=>bif Nat.beq t t' then
          match Bk C.P g nid t (e s) (e x) with
          | some (alts,rs)=>(wE alts p).map fun r=>{ v:=r.1.v,sets:=r.1.sets,reads:=rs,obs:=r.1.obs,path:=r.2 }
          | none=>none
        else match Bl C.P g nid t t' (e s) (e x) with
          | some (alts,rs)=>(wE alts p).map fun r=>{ v:=r.1.v,sets:=r.1.sets,reads:=rs,obs:=r.1.obs,path:=r.2 }
          | none=>none
      | _,_=>none
    | .call { callee:=.builtin .copy,args,argTypes } =>
      match args.toList,argTypes.toList with
      | [s,x],[t,_]=>(OU C.P g t (e s) (e x)).map fun r=>{ v:=.int .i64 (r.1:Int),sets:=[(r.2.1,some r.2.2.1)],reads:=r.2.2.2.2,obs:=r.2.2.2.1,path:=p }
      | _,_=>none
    | .call { callee:=.value f,args,.. } =>
      match zL e f args with
      | some (fid,l) =>
        match C.ext fid with
        | some k=>(wE (ad6 k l) p).map fun r=>{ v:=r.1.v,sets:=[],reads:=[],obs:=r.1.obs,path:=r.2 }
        | none=>Kl C run g nid p fid l
      | none=>none
    | _=>none
def uV(p:dY)(r:Option (AV×List Bool)) :Option OpR:=match r with | some (v,obs)=>some { v,sets:=[],reads:=[],obs,path:=p } | none=>none
def afp(P:Program)(g:Nat→Option aI)(p:dY)(t:TypeId)(v:AV) :Option OpR:=(Ch P g t v).map fun r=>{ v:=r.1,sets:=[],reads:=r.2.2,obs:=r.2.1,path:=p }
def ad8(P:Program)(g:Nat→Option aI)(p:dY)(t:TypeId)(x v:AV) :Option OpR:=(CU P g t x v).map fun r=>{ v:=.any,sets:=[(r.1,some r.2.1)],reads:=[r.1],obs:=r.2.2,path:=p }
def ad9(P:Program)(nid:Nat)(p:dY)(t:TypeId) :Option OpR:=(Qe P nid t).map fun r=>{ v:=r.1,sets:=[(nid,some r.2)],reads:=[],obs:=[],path:=p }
def afT(P:Program)(nid:Nat)(p:dY)(t:TypeId)(x:AV) :Option OpR:=(ad2 P nid t x).map fun r=>{ v:=r.1,sets:=[(nid,some r.2)],reads:=[],obs:=[],path:=p }
def afU(C:tL)(run:eC)(e:Operand→AV)(g:Nat→Option aI)(nid:Nat)(p:dY)(f:Operand)(args:Array Operand) :Option OpR :=
  match zL e f args with
  | some (fid,l) =>
    match C.ext fid with
    | some k=>(wE (ad6 k l) p).map fun r=>{ v:=r.1.v,sets:=[],reads:=[],obs:=r.1.obs,path:=r.2 }
    | none=>Kl C run g nid p fid l
  | none=>none
def afq(C:tL)(run:eC)(e:Operand→AV)(g:Nat→Option aI)(nid:Nat)(p:dY)(c:Call) :Option OpR :=
  match c.callee with
  | .value f=>afU C run e g nid p f c.args
  | _=>Xw C run e g nid p (.call c)
def opF(C:tL)(run:eC)(e:Operand→AV)(g:Nat→Option aI)(nid:Nat)(p:dY)(op:Op) :Option OpR :=
  match op with
  | .move x=>some { v:=e x,sets:=[],reads:=[],obs:=[],path:=p }
  | .assign x=>some { v:=e x,sets:=[],reads:=[],obs:=[],path:=p }
  | .binOp op t x y _=>uV p (ack C.wrap C.P op t (e x) (e y))
  | .unOp op _ x=>uV p (unA op (e x))
  | .load t x=>afp C.P g p t (e x)
  | .store t x v=>ad8 C.P g p t (e x) (e v)
  | .fieldAddr s x f=>uV p (yw (wt C.P s (e x) f))
  | .field t x f=>uV p (yw (P6 C.P t (e x) f))
  | .indexAddr t x ix=>uV p (wu C.P t (e x) (e ix))
  | .alloc t=>ad9 C.P nid p t
  | .box t x=>afT C.P nid p t (e x)
  | .call c=>afq C run e g nid p c
  | op=>Xw C run e g nid p op
theorem acE(C:tL)(run:eC)(e:Operand→AV)(g:Nat→Option aI)(nid:Nat)(p:dY)(op:Op) :opF C run e g nid p op=Xw C run e g nid p op:=by
  cases op with
  | binOp op t x y _=>simp only [opF,Xw,sy,uV]
  | unOp op t x=>simp only [opF,Xw,sy,uV]
  | fieldAddr s x f=>simp only [opF,Xw,sy,uV]
  | field s x f=>simp only [opF,Xw,sy,uV]
  | indexAddr s x f=>simp only [opF,Xw,sy,uV]
  | call c =>
    obtain ⟨callee,args,ats⟩:=c
    cases callee<;>rfl
  | _=>rfl
theorem Tv{x:Nat}(h:isNaN x=true) :FloatKind.f64.format.sqrt x=none:=by
  obtain ⟨s,t,e⟩:=vK h
  simp [Ieee.Format.sqrt,e,Ieee.Datum.root]
theorem Km{ρ:ae}{w:World}{k1 k2 k3:IntKind}{x y z:Int}{c:Array Value}(hl:cU ρ w [.int k1 x,.int k2 y,.int k3 z] c.toList) :c = #[.int k1 x,.int k2 y,.int k3 z]:=by
  have h:c.toList=[.int k1 x,.int k2 y,.int k3 z]:=by
    generalize c.toList=l at hl
    cases hl with | cons _ u1 _ _ h1 t1 =>
    cases t1 with | cons _ u2 _ _ h2 t2 =>
    cases t2 with | cons _ u3 _ _ h3 t3 =>
    cases t3;cases h1;cases h2;cases h3;rfl
  rw [←c.toArray_toList,h]
theorem OX{P:Program}{w:World}(name:String){k1 k2 k3:IntKind}{x y z:Int}(hz:z.toNat≤1) :(Extern.MathBitsCarry.three name #[.int k1 x,.int k2 y,.int k3 z]).run P w=.ok (x.toNat,y.toNat,z.toNat) w:=by
  have e:Extern.MathBitsCarry.three name #[.int k1 x,.int k2 y,.int k3 z]=(do
      if z.toNat > 1 then unsupported (.noEntry ("extern/math/bits." ++ name ++ ": a carry that is neither 0 nor 1"))
      pure (x.toNat,y.toNat,z.toNat):Sem (Nat×Nat×Nat)):=rfl
  rw [e,if_neg (by omega)]
  rfl
theorem Xx{P:Program}{ρ:ae}{w:World}{k:IM}{l:List AV}{c:Array Value}{r:rG}(hl:cU ρ w l c.toList)(h:r∈ad6 k l)(ho:aG r.obs) :iE P ρ w (zK k c) r.v:=by
  have one:∀ {a:AV},cU ρ w [a] c.toList→∃ u,c = #[u]∧VR ρ w a u:=by
    intro a h
    generalize hc:c.toList=l at h
    cases h with | cons _ u _ _ h1 h2=>cases h2;exact ⟨u,by rw [←hc],h1⟩
  unfold ad6 at h
  split at h
  · simp only [List.mem_singleton] at h;subst h
    obtain ⟨u,rfl,hu⟩:=one hl
    cases hu with | flt _ _ y hf =>
    rename_i ex x
    have es:zK .sqrt #[.float .f64 y]=(match FloatKind.f64.format.sqrt y with
      | some r=>pure (.float .f64 r)
      | none=>do pure (.float .f64 (←choose (.nanBits .f64 y y)))):=rfl
    rw [es]
    have e:FloatKind.f64.format.sqrt y=FloatKind.f64.format.sqrt x:=by
      rcases hf with rfl | ⟨_,h2,h3⟩
      · rfl
      · rw [Tv h2,Tv h3]
    cases hr:FloatKind.f64.format.sqrt y with
    | some r=>exact ⟨.float .f64 r,w.drawn,rfl,.flt _ _ _ (.inl (by rw [e] at hr;simp [aci,hr]))⟩
    | none=>exact ⟨_,w.drawn+1,rfl,.flt _ _ _ (.inr ⟨rfl,by rw [e] at hr;simp [aci,hr,JX],ZX y y _⟩)⟩
  · simp only [List.mem_singleton] at h;subst h
    obtain ⟨u,rfl,hu⟩:=one hl
    cases hu with | flt _ _ y hf =>
    rcases hf with rfl | ⟨h1,_⟩
    · exact ⟨_,w.drawn,rfl,.int _ _⟩
    · cases h1
  · simp only [List.mem_cons,List.not_mem_nil,or_false] at h
    obtain ⟨u,rfl,hu⟩:=one hl
    cases hu with | flt _ _ y hf =>
    rcases h with rfl | rfl
    · rcases hf with rfl | ⟨_,h2,_⟩
      · exact ⟨_,w.drawn,rfl,.int _ _⟩
      · have:=ho.1;rw [h2] at this;cases this
    · have hy:isNaN y=true:=by
        rcases hf with rfl | ⟨_,_,h3⟩
        · exact ho.1
        · exact h3
      exact ⟨_,w.drawn,rfl,.nan _ hy⟩
  · simp only [List.mem_singleton] at h;subst h
    obtain ⟨u,rfl,hu⟩:=one hl
    cases hu
    exact ⟨_,w.drawn,rfl,.flt _ _ _ (.inl rfl)⟩
  · simp only [List.mem_singleton] at h;subst h
    have hz:=ho.1
    replace hz:=of_decide_eq_true hz
    cases Km hl
    refine ⟨_,w.drawn,?_,.tup _ #[_,_] (.cons _ _ _ _ (.int _ _) (.cons _ _ _ _ (.int _ _) .nil))⟩
    simp only [zK, Sem.run_bind, OX "Add64" hz, Result.andThen_ok]
    rfl
  · simp only [List.mem_singleton] at h;subst h
    have hz:=ho.1
    replace hz:=of_decide_eq_true hz
    cases Km hl
    refine ⟨_,w.drawn,?_,.tup _ #[_,_] (.cons _ _ _ _ (.int _ _) (.cons _ _ _ _ (.int _ _) .nil))⟩
    simp only [zK, Sem.run_bind, OX "Sub64" hz, Result.andThen_ok]
    rename_i x _ y _ z
    have e:(bif Nat.blt x.toNat (y.toNat+z.toNat) then (1:Int) else 0)=Int.ofNat (if x.toNat<y.toNat+z.toNat then 1 else 0):=by
      by_cases q:x.toNat<y.toNat+z.toNat
      · rw [if_pos q,show Nat.blt x.toNat (y.toNat+z.toNat)=true by rw [Nat.blt_eq];exact q];rfl
      · rw [if_neg q]
        have:Nat.blt x.toNat (y.toNat+z.toNat)=false:=by
          cases h:Nat.blt x.toNat (y.toNat+z.toNat) with
          | false=>rfl
          | true=>rw [Nat.blt_eq] at h;exact absurd h q
        rw [this];rfl
    rw [e]
    rfl
  · simp only [List.mem_singleton] at h;subst h
    rename_i s b
    obtain ⟨u,rfl⟩:∃ u,c=u:=⟨c,rfl⟩
    have hc:c = #[.string s,.int .u8 b]:=by
      have h:c.toList=[.string s,.int .u8 b]:=by
        generalize c.toList=l at hl
        cases hl with | cons _ u1 _ _ h1 t1 =>
        cases t1 with | cons _ u2 _ _ h2 t2 =>
        cases t2;cases h1;cases h2;rfl
      rw [←c.toArray_toList,h]
    subst hc
    refine ⟨.int .i64 (afn s b),w.drawn,?_,.int _ _⟩
    have e:zK .idxb #[.string s,.int .u8 b]=(match (List.range s.size).find? fun i=>s[i]! == b.toNat.toUInt8 with
      | some i=>pure (goInt i)
      | none=>pure (goInt (-1))):=rfl
    rw [e]
    unfold afn
    cases (List.range s.size).find? fun i=>s[i]! == b.toNat.toUInt8<;>rfl
  · simp only [List.mem_singleton] at h;subst h
    rename_i s b
    have hc:c = #[.string s,.int .u8 b]:=by
      have h:c.toList=[.string s,.int .u8 b]:=by
        generalize c.toList=l at hl
        cases hl with | cons _ u1 _ _ h1 t1 =>
        cases t1 with | cons _ u2 _ _ h2 t2 =>
        cases t2;cases h1;cases h2;rfl
      rw [←c.toArray_toList,h]
    subst hc
    refine ⟨.int .i64 (afo s b),w.drawn,?_,.int _ _⟩
    have e:zK .cntb #[.string s,.int .u8 b]=(do
      let b' ← Extern.Bytes.bytesOf (.string s)
      let c ← Extern.Bytes.asByte (.int .u8 b)
      pure (goInt (b'.foldl (fun n x=>if x==c then n+1 else n) (0:Nat)))):=rfl
    rw [e]
    simp [Extern.Bytes.bytesOf,Extern.Bytes.asByte,Sem.run_bind,Sem.run_pure,goInt,afo]
  · simp at h
theorem abk{C:tL}(hC:C.Ok){run:eC}(hrun:Kk C.P run){e:Operand→AV}{h:bR}{nid:Nat}{p:dY}{o:Oper}{r:OpR}(hr:Xw C run e (bn h) nid p o.op=some r)(ho:aG r.obs) 
    {ρ:ae} {w:World} {n:Nat} (hh:HR ρ w h n) (hid:∀ x,nid≤x→x<nid+qp→¬ ρ.ok x) (hn0:nid+qp≤n) {a:Act} (hops:∀ x,VR ρ w (e x) (a.eval x)) {next:Act→World→Prop} {Q:Exit→Act→World→Prop}
    (hK:∀ ρ' w' u,jY ρ ρ' w→gT ρ.live w w'→HR ρ' w' (cT r.sets h) n→VR ρ' w' r.v u→(∀ b,ρ'.ok b→ρ.ok b∨(nid≤b∧b<nid+qp))→next (a.put o.dst u) w'):o.wp C.P a w next Q:=by
  have hS:0<qp:=by decide
  have hb : ¬ ρ.ok nid:=hid nid (Nat.le_refl _) (by omega)
  have hn:nid<n:=by omega
  have one:∀ {b:Nat},b=nid→nid≤b∧b<nid+qp:=fun e=>by omega
  have plain:∀ {v:AV},(∃ u k,(execOp a.eval o).run C.P w=.ok (.value u) { w with drawn:=k }∧VR ρ w v u)→r.v=v→r.sets=[]→o.wp C.P a w next Q:=by
    intro v ⟨u,k,h1,h2⟩ hv hs
    unfold Oper.wp
    rw [h1]
    have E:=jY.refl ρ w
    have W:=gT.drawn ρ.live w k
    exact hK ρ _ u E W (by rw [hs];exact hh.drawn k) (by rw [hv];exact h2.mono E W) (fun b q=>.inl q)
  have made:∀ {s:Sem Value} {v:AV} {h':bR},(execOp a.eval o).run C.P w=(do pure (Next.value (←s)):Sem Next).run C.P w→yx C.P ρ w h n nid s v h'→r.v=v→cT r.sets h=h'→o.wp C.P a w next Q:=by
    intro s v h' he ⟨u,w',ρ',h1,h2,h3,h4,h5,h6⟩ hv hs
    unfold Oper.wp
    rw [he,cX h1]
    exact hK ρ' w' u h2 h3 (by rw [hs];exact h4) (by rw [hv];exact h5) (fun b q=>(h6 b q).imp id one)
  unfold Xw at hr
  split at hr
  · rename_i v obs hp
    simp only [Option.some.injEq] at hr;subst hr
    exact plain (Qa hops hp ho) rfl rfl
  · rename_i hpo
    clear hpo
    generalize hop:o.op=op at hr
    split at hr
    · rename_i t x
      simp only [Option.map_eq_some_iff] at hr
      obtain ⟨⟨v,obs,rs⟩,hl,rfl⟩:=hr
      obtain ⟨u,k,h1,h2⟩:=Td (P:=C.P) hh (hops x) hl ho
      exact plain ⟨u,k,by simp only [execOp,hop];exact cX h1,h2⟩ rfl rfl
    · rename_i t d x
      simp only [Option.map_eq_some_iff] at hr
      obtain ⟨⟨z,obs,rs⟩,hc,rfl⟩:=hr
      exact plain ⟨.string z,w.drawn,by simp only [execOp,hop];exact cX (Xv hh (hops x) hc ho),.str _⟩ rfl rfl
    · rename_i t x lo hi
      simp only [Option.map_eq_some_iff] at hr
      obtain ⟨⟨v,obs,rs⟩,hc,rfl⟩:=hr
      obtain ⟨u,k,q1,q2⟩:=Qs (P:=C.P) hh hops (hops x) hc ho
      exact plain ⟨u,k,by simp only [execOp,hop];exact cX q1,q2⟩ rfl rfl
    · rename_i t x v
      simp only [Option.map_eq_some_iff] at hr
      obtain ⟨⟨b,d,obs⟩,hl,rfl⟩:=hr
      obtain ⟨w',h1,h2,h3⟩:=Qb (P:=C.P) hh (hops x) (hops v) hl ho
      unfold Oper.wp
      have:(execOp a.eval o).run C.P w=.ok .skip w':=by
        simp only [execOp,hop];rw [Sem.run_bind,h1];rfl
      rw [this]
      exact hK ρ w' undef (jY.refl _ _) h3 h2 (.any _) (fun b q=>.inl q)
    · rename_i t x k cok
      simp only [Option.map_eq_some_iff] at hr
      obtain ⟨⟨a,_⟩,hl,rfl⟩:=hr
      obtain ⟨u,kk,q1,q2⟩:=M1 (P:=C.P) (hops x) (hops k) (tR hl) ho
      exact plain ⟨u,kk,by simp only [execOp,hop];exact cX q1,q2⟩ rfl rfl
    · rename_i t
      simp only [Option.map_eq_some_iff] at hr
      obtain ⟨⟨v,d⟩,hl,rfl⟩:=hr
      exact made (by simp only [execOp,hop]) (Qf hh hb hn hl true) rfl rfl
    · rename_i t x
      simp only [Option.map_eq_some_iff] at hr
      obtain ⟨⟨v,d⟩,hl,rfl⟩:=hr
      exact made (by simp only [execOp,hop]) (Xm hh hb hn (hops x) hl) rfl rfl
    · rename_i t l c
      simp only [Option.map_eq_some_iff] at hr
      obtain ⟨⟨v,d,obs⟩,hl,rfl⟩:=hr
      exact made (by simp only [execOp,hop]) (Tf hh hb hn (hops l) (hops c) hl ho) rfl rfl
    · rename_i t parts
      simp only [Option.map_eq_some_iff] at hr
      obtain ⟨v,hl,rfl⟩:=hr
      have h1:(parts.toList.map fun x=>(x.1,e x.2)).map Prod.fst=(parts.map fun (x:Nat×Operand)=>(x.1,a.eval x.2)).toList.map Prod.fst:=by simp
      have h2:cU ρ w ((parts.toList.map fun x=>(x.1,e x.2)).map Prod.snd) ((parts.map fun (x:Nat×Operand)=>(x.1,a.eval x.2)).toList.map Prod.snd):=by
        have:=cU.map hops (parts.toList.map Prod.snd)
        simpa [Function.comp_def] using this
      obtain ⟨u,k,q1,q2⟩:=Ql (P:=C.P) h1 h2 hl
      exact plain ⟨u,k,by simp only [execOp,hop];exact cX q1,q2⟩ rfl rfl
    · rename_i t len parts
      simp only [Option.map_eq_some_iff] at hr
      obtain ⟨⟨v,d⟩,hl,rfl⟩:=hr
      have h1:(parts.toList.map fun x=>(x.1,e x.2)).map Prod.fst=(parts.map fun (x:Nat×Operand)=>(x.1,a.eval x.2)).toList.map Prod.fst:=by simp
      have h2:cU ρ w ((parts.toList.map fun x=>(x.1,e x.2)).map Prod.snd) ((parts.map fun (x:Nat×Operand)=>(x.1,a.eval x.2)).toList.map Prod.snd):=by
        have:=cU.map hops (parts.toList.map Prod.snd)
        simpa [Function.comp_def] using this
      exact made (by simp only [execOp,hop]) (D6 hh hb hn h1 h2 hl) rfl rfl
    · rename_i args argTypes
      split at hr
      case h_2=>cases hr
      rename_i s x t t' e1 e2
      cases ht:Nat.beq t t' with
      | false =>
        rw [ht] at hr
        simp only [cond_false] at hr
        split at hr
        case h_2=>cases hr
        rename_i alts rs ha
        simp only [Option.map_eq_some_iff] at hr
        obtain ⟨⟨alt,p'⟩,hp,rfl⟩:=hr
        have ea:args = #[s,x]:=by rw [←e1]
        have et:argTypes = #[t,t']:=by rw [←e2]
        subst ea;subst et
        have hm:=MZ hh hb hn (hops s) (hops x) ha (tR hp) ho o.type
        refine made (s:=Builtin.append_ #[t,t'] o.type #[a.eval s,a.eval x]) ?_ hm rfl rfl
        simp only [execOp,hop]
        rw [ii a.eval .append #[s,x] #[t,t'] o.type _ rfl]
        simp [invoke,builtin]
      | true =>
      rw [ht] at hr
      have:=Nat.eq_of_beq_eq_true ht
      subst this
      simp only [cond_true] at hr
      split at hr
      case h_2=>cases hr
      rename_i alts rs ha
      simp only [Option.map_eq_some_iff] at hr
      obtain ⟨⟨alt,p'⟩,hp,rfl⟩:=hr
      have ea:args = #[s,x]:=by rw [←e1]
      have et:argTypes = #[t,t]:=by rw [←e2]
      subst ea;subst et
      have hm:=MY hh hb hn (hops s) (hops x) ha (tR hp) ho o.type
      refine made (s:=Builtin.append_ #[t,t] o.type #[a.eval s,a.eval x]) ?_ hm rfl rfl
      simp only [execOp,hop]
      rw [ii a.eval .append #[s,x] #[t,t] o.type _ rfl]
      simp [invoke,builtin]
    · rename_i args argTypes
      split at hr
      case h_2=>cases hr
      rename_i s x t t' e1 e2
      simp only [Option.map_eq_some_iff] at hr
      obtain ⟨⟨k,b,d,obs,rs⟩,hc,rfl⟩:=hr
      have ea:args = #[s,x]:=by rw [←e1]
      have et:argTypes = #[t,t']:=by rw [←e2]
      subst ea;subst et
      obtain ⟨w',h1,h2,h3⟩:=Tt (P:=C.P) (T:=o.type) (t':=t') hh (hops s) (hops x) hc ho
      refine made (s:=Builtin.copy_ #[t,t'] o.type #[a.eval s,a.eval x]) ?_ ⟨_,w',ρ,h1,jY.refl _ _,h3,h2,.int _ _,fun b q=>.inl q⟩ rfl rfl
      simp only [execOp,hop]
      rw [ii a.eval .copy #[s,x] #[t,t'] o.type _ rfl]
      simp [invoke,builtin]
    · rename_i f args ats
      split at hr
      case h_2=>cases hr
      rename_i fid l hca
      unfold zL at hca
      split at hca
      case h_2=>cases hca
      rename_i fid' first caps hef
      simp only [Option.some.injEq,Prod.mk.injEq] at hca
      obtain ⟨rfl,rfl⟩:=hca
      have hf:=hops f
      rw [hef] at hf
      generalize hgf:a.eval f=gf at hf
      cases hf with | fn _ _ _ c1 c2 v1 v2 =>
      have hargs:cU ρ w (first++args.toList.map e++caps) (c1++args.map a.eval++c2).toList:=by
        simp only [Array.toList_append,Array.toList_map]
        exact cU.append v2 (cU.append (cU.map hops args.toList) v1)
      have hex:∀ w0,(execOp a.eval o).run C.P w0=(callFunc fid' (c1++args.map a.eval++c2)).run C.P w0:=by
        intro w0
        simp only [execOp,hop,resolve,hgf,Deferred.ofValue]
        rfl
      split at hr
      · rename_i k hk
        simp only [Option.map_eq_some_iff] at hr
        obtain ⟨⟨a,_⟩,hl,rfl⟩:=hr
        obtain ⟨u,kk,q1,q2⟩:=Xx (P:=C.P) hargs (tR hl) ho
        refine plain ⟨u,kk,?_,q2⟩ rfl rfl
        rw [hex,hC.ext fid' k _ w hk]
        exact cX q1
      · unfold Kl at hr
        simp only at hr
        generalize hbs:mb (bn h) hU (io (nv (C.mode fid').mask (first++args.toList.map e++caps))) []=bs at hr
        cases hlen:(uT bs&&nw (bn h) nid bs) with
        | false=>rw [hlen] at hr;cases hr
        | true =>
        rw [hlen] at hr
        simp only [cond_true] at hr
        rw [Bool.and_eq_true] at hlen
        split at hr
        case h_2=>cases hr
        rename_i r' obs p' hl
        cases hle:Nat.ble r'.own.length (bs.length+qp) with
        | false=>rw [hle] at hr;cases hr
        | true =>
        rw [hle] at hr
        simp only [cond_true,Option.some.injEq] at hr;subst hr
        have hLs:Tr h bs:=⟨fun q1 q2=>sE hlen.1 q1 q2,fun b q=>(uU hlen.2 b q).1⟩
        have L:=Z8 hh hLs
        have hcall:=hrun fid' _ _ p r' obs p' hl ho
        obtain ⟨⟨fn,hfn,hbody⟩,hcalls⟩:=hcall (ρ.lend bs) w _ (Xu hh hLs) (tS hh L _ hargs)
        unfold Oper.wp
        rw [hex,hC.enter fid' fn _ w hfn hbody]
        simp only [Oper.upon]
        have hl2:(c1++args.map a.eval++c2).toList.toArray=c1++args.map a.eval++c2:=by simp
        rw [hl2] at hcalls
        refine hcalls.mono ?_
        rintro e' w' ⟨u,rfl,W,ρ',E,hbk,H,hv⟩
        rw [pR] at hbk
        obtain ⟨q1,q2,q3,q4,q5⟩:=acy hh hLs hid (fun b q=>(uU hlen.2 b q).2) hn0 (Nat.le_of_ble_eq_true hle) W E hbk H hv
        exact hK _ w' u q1 q2 q3 q4 q5
    · cases hr
def FW(ro:Option Nat) :Fence:={ Fence.wide with round:=ro }
theorem afV(ro:Option Nat)(f:FuncId) :(FW ro).fn f:=trivial
theorem JI{ro:Option Nat}{n:Nat} :(FW ro).depth.isSome=true→1≤n:=fun h=>by simp [FW,Fence.wide] at h
theorem Xy{ro:Option Nat}{n:Nat}{P:Program}{f:FuncId}{args:Array Value}{w:World}{R:Ending→World→Prop}(h:Calls P f args w R) :CallsIn (FW ro) n P f args w R :=
  callsIn_wide.2 h
theorem Qx{P:Program}{o:Oper}{a:Act}{w:World}{next:Act→World→Prop}{Q:Exit→Act→World→Prop}{ro:Option Nat}{n:Nat}(hd:∀ c,o.op ≠ .defer c)(h:o.wp P a w next Q) :o.wpIn (FW ro) n P a w next Q:=by
  refine ⟨fun _ _=>trivial,?_⟩
  have e:(FW ro).round=ro:=rfl
  rw [e,Oper.semAt_eq ro a.eval o hd]
  unfold Oper.wp at h
  generalize (execOp a.eval o).run P w=r at h ⊢
  cases r with
  | ok x w' =>
    cases x with
    | value v=>exact h
    | skip=>exact h
    | defer d=>exact h
    | enter f args=>exact ⟨JI,Xy h⟩
    | row row args =>
      refine ⟨JI,fun c cs _=>?_⟩
      obtain ⟨v,w2,h1,h2⟩:=h c cs
      exact ⟨v,w2,h1,stepsIn_wide.2 h2⟩
    | _=>exact h.elim
  | halt x w'=>cases x<;>exact h
structure sF (w w':World):Prop where
  os:w'.os=w.os
  tape:w'.tape=w.tape
  output:w'.output=w.output
  size:w'.heap.size=w.heap.size
  same:∀ b:Nat,w'.heap[b]? = w.heap[b]?∨((∃ o,w.heap[b]? = some o∧((∃ r,o=Obj.loop r)∨∃ r,o=Obj.deferred r))∧∃ o,w'.heap[b]? = some o∧((∃ r,o=Obj.loop r)∨∃ r,o=Obj.deferred r))
theorem sF.cells{w w':World}(h:sF w w'){b:Nat}{c:Array Value}{t:TypeId}{z:Nat×Nat}(hb:w.heap[b]? = some (.cells c t z)) :w'.heap[b]? = some (.cells c t z):=by
  rcases h.same b with q | ⟨⟨o,h1,h2⟩,_⟩
  · rw [q];exact hb
  · rw [hb] at h1;cases h1
    rcases h2 with ⟨r,h2⟩ | ⟨r,h2⟩<;>cases h2
theorem sF.map{w w':World}(h:sF w w'){b:Nat}{es:Array MapEntry}{cl:Nat}(hb:w.heap[b]? = some (.map es cl)) :w'.heap[b]? = some (.map es cl):=by
  rcases h.same b with q | ⟨⟨o,h1,h2⟩,_⟩
  · rw [q];exact hb
  · rw [hb] at h1;cases h1
    rcases h2 with ⟨r,h2⟩ | ⟨r,h2⟩<;>cases h2
theorem sF.cell{w w':World}(h:sF w w'){a:Addr}{u:Value}(hu:w.cell? a=some u) :w'.cell? a=some u:=by
  have key:w'.heap[a.block]? = w.heap[a.block]?:=by
    rcases h.same a.block with q | ⟨⟨o,h1,h2⟩,_⟩
    · exact q
    · exfalso
      unfold World.cell? at hu
      rw [h1] at hu
      rcases h2 with ⟨r,rfl⟩ | ⟨r,rfl⟩<;>simp at hu
  rw [uP key];exact hu
theorem sF.put{w:World}{b:Nat}{o o':Obj}(h:w.heap[b]? = some o)(ho:(∃ r,o=Obj.loop r)∨∃ r,o=Obj.deferred r)(ho':(∃ r,o'=Obj.loop r)∨∃ r,o'=Obj.deferred r) :sF w (w.putObj b o'):=by
  refine ⟨rfl,rfl,rfl,by simp,fun c=>?_⟩
  by_cases e:c=b
  · subst e
    exact .inr ⟨⟨o,h,ho⟩,o',World.putObj_heap_same (Array.getElem?_eq_some_iff.1 h).1,ho'⟩
  · exact .inl (World.putObj_heap_other e)
theorem sF.wle{M:Nat→Prop}{w w':World}(h:sF w w')(hM:∀ b,b<w.heap.size→¬ M b→w'.heap[b]? = w.heap[b]?) :gT M w w' :=
  ⟨h.os,h.tape,h.output,Nat.le_of_eq h.size.symm,hM,fun b c t z hc=>⟨c,h.cells hc,rfl⟩⟩
theorem VR.soft{ρ:ae}{w w':World}(W:sF w w'){v:AV}{u:Value}(h:VR ρ w v u) :VR ρ w' v u:=by
  induction h using VR.rec (motive_2:=fun l c _=>cU ρ w' l c) with
  | int k n=>exact .int k n
  | bool kn b=>exact .bool kn b
  | flt ex x y h=>exact .flt ex x y h
  | str s=>exact .str s
  | nptr=>exact .nptr
  | ptr b k i j hb=>exact .ptr b k i j hb
  | iptr bw d k i j bl o u ha hb hc hv hr hk hg ih=>exact .iptr bw d k i j bl o u ha (by rw [W.size];exact hb) (fun x v hx=>W.cell (hc x v hx)) ih hr hk hg
  | nsl=>exact .nsl
  | esl a=>exact .esl a
  | zsl a c=>exact .zsl a c
  | nan n h=>exact .nan n h
  | sl b k es i len cap cap' hb hcap hl c t hh hs=>exact .sl b k es i len cap cap' hb hcap hl c t (W.cells hh) hs
  | slEnd b k es i a=>exact .slEnd b k es i a
  | imm bw d k es i len cap bl o u ha hb hc hv hl hr hk hg ih=>exact .imm bw d k es i len cap bl o u ha (by rw [W.size];exact hb) (fun x v hx=>W.cell (hc x v hx)) ih hl hr hk hg
  | immEnd bw d k es i cap a hr hk hg=>exact .immEnd bw d k es i cap a hr hk hg
  | fn f l1 l2 c1 c2 h1 h2 i1 i2=>exact .fn f l1 l2 c1 c2 i1 i2
  | nfn=>exact .nfn
  | gmap ks vs bl es cl u ha hb hh hin hex hv hl hk ih=>exact .gmap ks vs bl es cl u ha (by rw [W.size];exact hb) (W.map hh) hin hex ih hl hk
  | gvar c bl t fr ha hb hh=>exact .gvar c bl t fr ha (by rw [W.size];exact hb) (W.cells hh)
  | agg l c h ih=>exact .agg l c ih
  | tup l c h ih=>exact .tup l c ih
  | iface t v u h ih=>exact .iface t v u ih
  | niface=>exact .niface
  | yld b L h=>exact .yld b L h
  | any u=>exact .any u
  | nil=>exact cU.nil
  | cons v u l c h t i1 i2=>exact cU.cons v u l c i1 i2
theorem cU.soft{ρ:ae}{w w':World}(W:sF w w') :∀ {l:List AV} {c:List Value},cU ρ w l c→cU ρ w' l c
  | _,_,.nil=>.nil
  | _,_,.cons v u l c h t=>.cons v u l c (h.soft W) (cU.soft W t)
theorem HR.soft{ρ:ae}{w w':World}{h:bR}{n:Nat}(W:sF w w')(hh:HR ρ w h n) :HR ρ w' h n :=
  ⟨fun b d e=>(hh.cell b d e).imp (fun ⟨q1,q2,q3,c,t,q4,q5⟩=>⟨q1,q2,q3,c,t,W.cells q4,fun x v hx=>by obtain ⟨u,k1,k2⟩:=q5 x v hx;exact ⟨u,k1,k2.soft W⟩⟩) id,hh.inj,hh.fresh,
   fun bl hl=>by rw [W.size];exact hh.liveLt bl hl,fun j bl hl=>by rw [W.size];exact hh.outLt j bl hl,hh.lt,fun x hx=>(hh.rom x hx).soft W⟩
mutual
def AV.noYld:AV→Bool
  | .yld _=>false
  | .fn _ l1 l2=>ny l1&&ny l2
  | .agg l | .tup l=>ny l
  | .iface _ v=>v.noYld
  | _=>true
def ny:List AV→Bool
  | []=>true
  | v::l=>v.noYld&&ny l
end
mutual
theorem dQ:∀ (v:AV),v.foreign=true→v.noYld=true
  | .fn _ l1 l2,h=>by simp only [AV.foreign,AV.noYld,Bool.and_eq_true] at h ⊢;exact ⟨kB l1 h.1,kB l2 h.2⟩
  | .agg l,h=>by simp only [AV.foreign,AV.noYld] at h ⊢;exact kB l h
  | .tup l,h=>by simp only [AV.foreign,AV.noYld] at h ⊢;exact kB l h
  | .iface _ v,h=>by simp only [AV.foreign,AV.noYld] at h ⊢;exact dQ v h
  | .yld _,h=>by simp [AV.foreign] at h
  | .int ..,_ | .bool ..,_ | .flt ..,_ | .str _,_ | .nptr,_ | .ptr ..,_ | .iptr ..,_ | .nsl,_ | .esl,_ | .zsl _,_ | .nan,_ | .sl ..,_ | .imm ..,_ | .nfn,_ | .gmap ..,_ | .gvar _,_ | .niface,_ | .any,_=>rfl
theorem kB:∀ (l:List AV),bU l=true→ny l=true
  | [],_=>rfl
  | v::l,h=>by simp only [bU,ny,Bool.and_eq_true] at h ⊢;exact ⟨dQ v h.1,kB l h.2⟩
end
theorem Kn:∀ {l:List AV},ny l=true→∀ (x:Nat) (v:AV),l[x]? = some v→v.noYld=true
  | [],_,x,v,h=>by simp at h
  | a::l,ha,0,v,h=>by simp at h;subst h;simp only [ny,Bool.and_eq_true] at ha;exact ha.1
  | a::l,ha,x+1,v,h=>by simp only [ny,Bool.and_eq_true] at ha;exact Kn ha.2 x v (by simpa using h)
def ae.pinned(ρ:ae)(x:Nat×Option (Nat×Nat)) :ae:={ ρ with pin:=x }
theorem VR.pinned{ρ:ae}{w:World}(x:Nat×Option (Nat×Nat)){v:AV}{u:Value}(h:VR ρ w v u) :v.noYld=true→VR (ρ.pinned x) w v u:=by
  induction h using VR.rec (motive_2:=fun l c _=>ny l=true→cU (ρ.pinned x) w l c) with
  | int k n=>exact fun _=>.int k n
  | bool kn b=>exact fun _=>.bool kn b
  | flt ex x y h=>exact fun _=>.flt ex x y h
  | str s=>exact fun _=>.str s
  | nptr=>exact fun _=>.nptr
  | ptr b k i j hb=>exact fun _=>VR.ptr (ρ:=ρ.pinned x) b k i j hb
  | iptr bw d k i j bl o u ha hb hc hv hr hk hg ih=>exact fun _=>.iptr bw d k i j bl o u ha hb hc (fun x v hx=>ih x v hx (dQ v (bd hr hg x v hx))) hr hk hg
  | nsl=>exact fun _=>.nsl
  | esl a=>exact fun _=>.esl a
  | zsl a c=>exact fun _=>.zsl a c
  | nan n h=>exact fun _=>.nan n h
  | sl b k es i len cap cap' hb hcap hl c t hh hs=>exact fun _=>VR.sl (ρ:=ρ.pinned x) b k es i len cap cap' hb hcap hl c t hh hs
  | slEnd b k es i a=>exact fun _=>.slEnd b k es i a
  | imm bw d k es i len cap bl o u ha hb hc hv hl hr hk hg ih=>exact fun _=>.imm bw d k es i len cap bl o u ha hb hc (fun x v hx=>ih x v hx (dQ v (bd hr hg x v hx))) hl hr hk hg
  | immEnd bw d k es i cap a hr hk hg=>exact fun _=>.immEnd bw d k es i cap a hr hk hg
  | fn f l1 l2 c1 c2 h1 h2 i1 i2=>intro hk;simp only [AV.noYld,Bool.and_eq_true] at hk;exact .fn f l1 l2 c1 c2 (i1 hk.1) (i2 hk.2)
  | nfn=>exact fun _=>.nfn
  | gmap ks vs bl es cl u ha hb hh hin hex hv hl hk ih=>exact fun _=>.gmap ks vs bl es cl u ha hb hh hin hex (fun x v hx=>ih x v hx (dQ v (gr (na hk x v hx)))) hl hk
  | gvar c bl t fr ha hb hh=>exact fun _=>.gvar c bl t fr ha hb hh
  | agg l c h ih=>intro hk;exact .agg l c (ih hk)
  | tup l c h ih=>intro hk;exact .tup l c (ih hk)
  | iface t v u h ih=>intro hk;exact .iface t v u (ih hk)
  | niface=>exact fun _=>.niface
  | yld b L h=>intro hk;simp [AV.noYld] at hk
  | any u=>exact fun _=>.any u
  | nil=>exact cU.nil
  | cons v u l c h t i1 i2=>rename_i hk;simp only [ny,Bool.and_eq_true] at hk;exact cU.cons v u l c (i1 hk.1) (i2 hk.2)
theorem cU.pinned{ρ:ae}{w:World}(x:Nat×Option (Nat×Nat)) :∀ {l:List AV} {c:List Value},cU ρ w l c→ny l=true→cU (ρ.pinned x) w l c
  | _,_,.nil,_=>.nil
  | _,_,.cons v u l c h t,hk=>by simp only [ny,Bool.and_eq_true] at hk;exact .cons v u l c (h.pinned x hk.1) (cU.pinned x t hk.2)
def Xz:aI→Bool
  | .vs l=>ny l
  | _=>true
def qX:bR→Bool
  | []=>true
  | x::l=>Xz x.2&&qX l
theorem Ko:∀ {h:bR} {b:Nat} {d:aI},qX h=true→bn h b=some d→Xz d=true
  | [],b,d,_,h=>by simp [eF,dk] at h
  | (a1,a2)::l,b,d,hc,h=>by
    simp only [qX,Bool.and_eq_true] at hc
    simp only [eF,dk] at h
    cases e:Nat.beq a1 b with
    | true=>rw [e] at h;simp only [cond_true,Option.some.injEq] at h;rw [←h];exact hc.1
    | false=>rw [e] at h;exact Ko hc.2 h
theorem M2{d:aI}(hr:d.recKept)(hk:Xz d=true)(x:Nat)(v:AV)(hx:d.cell? x=some v) :v.noYld=true:=by
  cases d with
  | vs l=>exact Kn hk x v hx
  | fl xs=>exact dQ v (bd (d:=.fl xs) hr rfl x v hx)
  | ns k xs=>exact dQ v (bd (d:=.ns k xs) hr rfl x v hx)
  | bs xs=>exact dQ v (bd (d:=.bs xs) hr rfl x v hx)
  | ss xs=>exact dQ v (bd (d:=.ss xs) hr rfl x v hx)
  | rows k m get=>exact dQ v (bd (d:=.rows k m get) hr rfl x v hx)
  | cols m cs=>exact dQ v (bd (d:=.cols m cs) hr rfl x v hx)
theorem HR.pinned{ρ:ae}{w:World}{h:bR}{n:Nat}(x:Nat×Option (Nat×Nat))(hh:HR ρ w h n)(hc:qX h=true) :HR (ρ.pinned x) w h n :=
  ⟨fun b d e=>(hh.cell b d e).imp (fun ⟨q1,q2,q3,c,t,q4,q5⟩=>⟨q1,q2,q3,c,t,q4,fun y v hx=>by
      obtain ⟨u,k1,k2⟩:=q5 y v hx
      exact ⟨u,k1,k2.pinned x (M2 q3 (Ko hc e) y v hx)⟩⟩) id,hh.inj,hh.fresh,hh.liveLt,hh.outLt,hh.lt,
   fun y hy=>(hh.rom y hy).pinned x (dQ _ (gr (Rom.kept y hy)))⟩
theorem VR.noPin{ρ:ae}{w:World}(hp:ρ.pin.2=none)(x:Nat×Option (Nat×Nat)){v:AV}{u:Value}(h:VR ρ w v u) :VR (ρ.pinned x) w v u:=by
  induction h using VR.rec (motive_2:=fun l c _=>cU (ρ.pinned x) w l c) with
  | int k n=>exact .int k n
  | bool kn b=>exact .bool kn b
  | flt ex x y h=>exact .flt ex x y h
  | str s=>exact .str s
  | nptr=>exact .nptr
  | ptr b k i j hb=>exact VR.ptr (ρ:=ρ.pinned x) b k i j hb
  | iptr bw d k i j bl o u ha hb hc hv hr hk hg ih=>exact .iptr bw d k i j bl o u ha hb hc ih hr hk hg
  | nsl=>exact .nsl
  | esl a=>exact .esl a
  | zsl a c=>exact .zsl a c
  | nan n h=>exact .nan n h
  | sl b k es i len cap cap' hb hcap hl c t hh hs=>exact VR.sl (ρ:=ρ.pinned x) b k es i len cap cap' hb hcap hl c t hh hs
  | slEnd b k es i a=>exact .slEnd b k es i a
  | imm bw d k es i len cap bl o u ha hb hc hv hl hr hk hg ih=>exact .imm bw d k es i len cap bl o u ha hb hc ih hl hr hk hg
  | immEnd bw d k es i cap a hr hk hg=>exact .immEnd bw d k es i cap a hr hk hg
  | fn f l1 l2 c1 c2 h1 h2 i1 i2=>exact .fn f l1 l2 c1 c2 i1 i2
  | nfn=>exact .nfn
  | gmap ks vs bl es cl u ha hb hh hin hex hv hl hk ih=>exact .gmap ks vs bl es cl u ha hb hh hin hex ih hl hk
  | gvar c bl t fr ha hb hh=>exact .gvar c bl t fr ha hb hh
  | agg l c h ih=>exact .agg l c ih
  | tup l c h ih=>exact .tup l c ih
  | iface t v u h ih=>exact .iface t v u ih
  | niface=>exact .niface
  | yld b L h=>rw [hp] at h;cases h
  | any u=>exact .any u
  | nil=>exact cU.nil
  | cons v u l c h t i1 i2=>exact cU.cons v u l c i1 i2
theorem cU.noPin{ρ:ae}{w:World}(hp:ρ.pin.2=none)(x:Nat×Option (Nat×Nat)) :∀ {l:List AV} {c:List Value},cU ρ w l c→cU (ρ.pinned x) w l c
  | _,_,.nil=>.nil
  | _,_,.cons v u l c h t=>.cons v u l c (h.noPin hp x) (cU.noPin hp x t)
theorem HR.noPin{ρ:ae}{w:World}{h:bR}{n:Nat}(hp:ρ.pin.2=none)(x:Nat×Option (Nat×Nat))(hh:HR ρ w h n) :HR (ρ.pinned x) w h n :=
  ⟨fun b d e=>(hh.cell b d e).imp (fun ⟨q1,q2,q3,c,t,q4,q5⟩=>⟨q1,q2,q3,c,t,q4,fun y v hx=>by obtain ⟨u,k1,k2⟩:=q5 y v hx;exact ⟨u,k1,k2.noPin hp x⟩⟩) id,hh.inj,hh.fresh,hh.liveLt,hh.outLt,hh.lt,
   fun y hy=>(hh.rom y hy).noPin hp x⟩
theorem jD.shut{ρ:ae}{w:World} :∀ {ds:List Deferred},jD ρ w ds→∀ {D:Nat},(∀ e∈ds,e ≠ { target:=.collected D,args:=#[] })→∀ {o:Obj},jD ρ (w.putObj D o) ds
  | [],h,D,_,o=>by simpa [jD] using h
  | d::ds,⟨⟨E,h1,hb,h2,h3,h4,h5⟩,h⟩,D,hn,o=>by
    have hne:E≠D:=fun e=>hn d (by simp) (by rw [h1,e])
    exact ⟨⟨E,h1,hb,by simpa using h2,h3,(World.putObj_heap_other hne).trans h4,h5⟩,jD.shut h fun e he=>hn e (by simp [he])⟩
theorem zM{P:Program}{fn:Func}{tmps:Array Value}{R:Ending→World→Prop}{ro:Option Nat}{n:Nat}{ρ:ae} :∀ (ds:List Deferred) {w:World},jD ρ w ds →
    (∀ w',sF w w'→(∀ b,b<ρ.pin.1→w'.heap[b]? = w.heap[b]?)→(∀ b,ρ.live b→w'.heap[b]? = w.heap[b]?)→∃ v,(results fn tmps).run P w'=.ok v w'∧R (.returned v) w')→LeavesInM (FW ro) n P fn tmps R ds .returning w
  | [],w,hm,h=>by
    obtain ⟨v,h1,h2⟩:=h w ⟨rfl,rfl,rfl,rfl,fun _=>.inl rfl⟩ (fun _ _=>rfl) (fun _ _=>rfl)
    exact ⟨v,h1,h2⟩
  | d::ds,w,⟨⟨D,h1,hb,h2,h3,h4,h5⟩,hm⟩,h=>by
    have S:=sF.put h4 (.inr ⟨_,rfl⟩) (o':=.deferred none) (.inr ⟨_,rfl⟩)
    refine ⟨by simp,.inl ⟨D,w.putObj D (.deferred none),by rw [h1],run_takeDeferred h4,zM ds (hm.shut h5) fun w' S' hb' hl'=>h w' ?_ (fun b q=>?_) (fun b q=>?_)⟩⟩
    · refine ⟨S'.os,S'.tape,S'.output,S'.size.trans S.size,fun b=>?_⟩
      rcases S'.same b with q | ⟨⟨o,q1,q2⟩,q3⟩
      · rcases S.same b with r | ⟨r1,r2⟩
        · exact .inl (q.trans r)
        · rw [←q] at r2;exact .inr ⟨r1,r2⟩
      · rcases S.same b with r | ⟨r1,r2⟩
        · rw [r] at q1;exact .inr ⟨⟨o,q1,q2⟩,q3⟩
        · exact .inr ⟨r1,q3⟩
    · rw [hb' b q];exact World.putObj_heap_other (by omega)
    · rw [hl' b q];exact World.putObj_heap_other (fun e=>h3 (e ▸ q))
structure pS where
  v:AV
  sets:List (Nat×Option aI)
  reads:List Nat
def Bm(ops:Array Oper)(j:Nat) :Option Nat:=(ops[j]?).bind (·.dst)
def wF(ops:Array Oper)(o:Oper)(T:List AV) :Option Bool :=
  match o.guard with
  | none=>some true
  | some (j,want) =>
    match Bm ops j with
    | none=>some false
    | some d =>
      match ad1 T d with
      | some (.bool true b)=>some (b==want)
      | some (.tup _) | none=>some false
      | _=>none
def Qy(ops:Array Oper)(i:Nat) :Bool:=ops.toList.any fun o=>match o.guard with | some (j,_)=>Nat.beq j i | none=>false
def JJ(v:AV)(p:dY) :Option (Bool×List Bool×dY) :=
  match v,p with
  | .bool true b,p=>some (b,[],p)
  | .bool false b,none=>some (b,[],none)
  | .bool false b,some (k::r)=>some (Nat.beq k 1,[b==Nat.beq k 1],some r)
  | _,_=>none
theorem C4{ρ:ae}{w:World}{v:AV}{u:Value}{p p':dY}{b:Bool}{obs:List Bool}(hv:VR ρ w v u)(h:JJ v p=some (b,obs,p'))(ho:aG obs) :u=.bool b:=by
  unfold JJ at h
  split at h
  · simp only [Option.some.injEq,Prod.mk.injEq] at h;obtain ⟨rfl,rfl,rfl⟩:=h;cases hv;rfl
  · simp only [Option.some.injEq,Prod.mk.injEq] at h;obtain ⟨rfl,rfl,rfl⟩:=h;cases hv;rfl
  · simp only [Option.some.injEq,Prod.mk.injEq] at h;obtain ⟨rfl,rfl,rfl⟩:=h;cases hv
    have:=ho.1
    simp only [beq_iff_eq] at this
    rw [this]
  · cases h
def qq(ops:Array Oper)(i:Nat)(v:AV)(p:dY) :Option (AV×List Bool×dY) :=
  bif Qy ops i then (JJ v p).map fun r=>(.bool true r.1,r.2.1,r.2.2) else some (v,[],p)
def Ei(C:tL)(run:eC)(ops:Array Oper)(n0 i:Nat)(o:Oper)(T:List AV)(h:bR)(p:dY) :Option (pS×List Bool×dY) :=
  match wF ops o T with
  | none=>none
  | some false=>some ({ v:=.tup [],sets:=[],reads:=[] },[],p)
  | some true =>
    match opF C run (W6 T) (bn h) (n0+i*qp) p o.op with
    | none=>none
    | some r =>
      match qq ops i r.v r.path with
      | none=>none
      | some (v,obs,p')=>some ({ v,sets:=r.sets,reads:=r.reads },r.obs++obs,p')
def C5(T:List AV)(d:Option Nat)(v:AV) :List AV :=
  match d with
  | some d=>aa7 T d v
  | none=>T
theorem Qz{ρ:ae}{w:World}{T:List AV}{a:Act}{v:AV}{u:Value}(h:cU ρ w T a.tmps.toList)(hv:VR ρ w v u)(d:Option Nat) :cU ρ w (C5 T d v) (a.put d u).tmps.toList:=by
  cases d with
  | none=>exact h
  | some d=>simp only [C5,Bf,Act.put,Array.toList_setIfInBounds];exact h.set hv d
theorem wG{ρ:ae}{w:World}{ops:Array Oper}{o:Oper}{T:List AV}{a:Act}(h:cU ρ w T a.tmps.toList){b:Bool}(hw:wF ops o T=some b) :Region.wanted o (yielded ops a.tmps)=b:=by
  unfold wF at hw
  simp only [PW] at hw
  unfold Region.wanted
  split at hw
  · rename_i hg;cases hw;simp [hg]
  · rename_i j want hg
    simp only [hg]
    unfold Bm at hw
    split at hw
    · rename_i hs;cases hw;simp [yielded,hs]
    · rename_i d hs
      split at hw
      · rename_i b' hT
        cases hw
        obtain ⟨u,h1,h2⟩:=h.get d _ hT
        rw [Array.getElem?_toList] at h1
        cases h2
        simp only [yielded,hs,Option.bind_some,h1]
        cases b'<;>cases want<;>rfl
      · rename_i l hT
        cases hw
        obtain ⟨u,h1,h2⟩:=h.get d _ hT
        rw [Array.getElem?_toList] at h1
        cases h2
        simp [yielded,hs,h1]
      · rename_i hT
        cases hw
        have : a.tmps[d]? = none := by
          have hl:=h.length
          rw [Array.getElem?_eq_none]
          have : T.length ≤ d := by rcases Nat.lt_or_ge d T.length with q | q; · rw [List.getElem?_eq_getElem q] at hT; cases hT
                                    · exact q
          simp at hl;omega
        simp [yielded,hs,this]
      · cases hw
theorem HR.congr{ρ:ae}{w:World}{h h':bR}{n:Nat}(hh:HR ρ w h n)(e:∀ b,bn h' b=bn h b) :HR ρ w h' n :=
  ⟨fun b d q=>hh.cell b d (by rw [←e];exact q),fun b c d f q r=>hh.inj b c d f (by rw [←e];exact q) (by rw [←e];exact r),hh.fresh,hh.liveLt,hh.outLt,hh.lt,hh.rom⟩
theorem abl{C:tL}{run:eC}{e:Operand→AV}{g:Nat→Option aI}{nid:Nat}{p:dY}{c:Call} :Xw C run e g nid p (.defer c)=none:=rfl
theorem HW{C:tL}(hC:C.Ok){run:eC}(hrun:Kk C.P run){ops:Array Oper}{n0 i:Nat}{o:Oper}(hi:ops[i]? = some o){T:List AV}{h:bR}{p p':dY}{r:pS}{obs:List Bool} 
    (hr:Ei C run ops n0 i o T h p=some (r,obs,p')) (ho:aG obs) {ρ:ae} {w:World} {n:Nat} (hh:HR ρ w h n) (hid:∀ x,n0+i*qp≤x→x<n0+i*qp+qp→¬ ρ.ok x) (hn:n0+i*qp+qp≤n) {a:Act} (hT:cU ρ w T a.tmps.toList)
    {ro:Option Nat} {nn:Nat} {K:Act→World→Prop} {Q:Exit→Act→World→Prop}
    (hK:∀ ρ' w' a',jY ρ ρ' w→gT ρ.live w w'→HR ρ' w' (cT r.sets h) n→a'.defers=a.defers→cU ρ' w' (C5 T o.dst r.v) a'.tmps.toList→(∀ b,ρ'.ok b→ρ.ok b∨(n0+i*qp≤b∧b<n0+i*qp+qp))→K a' w'):wpOpIn (FW ro) nn C.P ops Q i K a w:=by
  have dput:∀ u,(a.put o.dst u).defers=a.defers:=by intro u;cases hdst:o.dst<;>simp [Act.put]
  unfold Ei at hr
  simp only [acE] at hr
  unfold wpOpIn
  simp only [hi]
  split at hr
  · cases hr
  · rename_i hw
    simp only [Option.some.injEq,Prod.mk.injEq] at hr;obtain ⟨rfl,rfl,rfl⟩:=hr
    rw [wG hT hw]
    simp only [Bool.false_eq_true,if_false]
    exact ⟨fun _ _=>trivial,hK ρ w _ (jY.refl _ _) (gT.refl _ _) hh (dput _) (Qz hT (.tup _ _ .nil) o.dst) (fun b q=>.inl q)⟩
  · rename_i hw
    rw [wG hT hw]
    simp only [if_true]
    split at hr
    · cases hr
    · rename_i r' hop
      split at hr
      · cases hr
      · rename_i v obs' p'' hg
        simp only [Option.some.injEq,Prod.mk.injEq] at hr;obtain ⟨rfl,rfl,rfl⟩:=hr
        rw [bt] at ho
        refine Qx (fun c e=>by rw [e,abl] at hop;cases hop) (abk hC hrun hop ho.1 hh hid hn (fun x=>zD hh.rom hT x) ?_)
        intro ρ' w' u E W hh' hv hok
        refine hK ρ' w' _ E W hh' (dput _) (Qz (hT.mono E W) ?_ o.dst) hok
        unfold qq at hg
        cases hgd:Qy ops i with
        | false=>rw [hgd] at hg;simp only [cond_false,Option.some.injEq,Prod.mk.injEq] at hg;rw [←hg.1];exact hv
        | true =>
          rw [hgd] at hg
          simp only [cond_true,Option.map_eq_some_iff,Prod.mk.injEq] at hg
          obtain ⟨⟨b,ob,pp⟩,hd',rfl,rfl,rfl⟩:=hg
          rw [C4 hv hd' ho.2]
          exact .bool _ _
structure YI where
  b:Nat
  saved:List AV
  ps:Array Tmp
  assign:Code
  body:Code
def ae.wm(ρ:ae)(y:Option YI)(b:Nat) :Prop:=ρ.live b∨(y.isSome=true∧∃ k,ρ.pin.2=some (b,k))
theorem aea{ρ:ae}{b:Nat} :ρ.wm none b↔ρ.live b:=by simp [ae.wm]
theorem aab{ρ ρ':ae}{w:World}{y:Option YI}(E:jY ρ ρ' w){b:Nat}(hb:b<w.heap.size)(h:ρ'.wm y b) :ρ.wm y b :=
  h.imp (E.new b hb) fun ⟨q,k,r⟩=>⟨q,k,by rw [←E.pin];exact r⟩
structure JK (y:Option YI) (ρ:ae) (w:World) (ρ':ae) (w':World):Prop where
  ext:jY ρ ρ' w
  wle:gT (ρ.wm y) w w'
  vr:∀ v u,VR ρ w v u→VR ρ' w' v u
  marks:∀ ds,jD ρ w ds→jD ρ' w' ds
theorem JK.of{y:Option YI}{ρ ρ':ae}{w w':World}(E:jY ρ ρ' w)(W:gT ρ.live w w') :JK y ρ w ρ' w' :=
  ⟨E,W.mono fun _ _ q=>.inl q,fun v u h=>h.mono E W,fun ds h=>h.mono E W⟩
theorem JK.refl(y:Option YI)(ρ:ae)(w:World) :JK y ρ w ρ w:=.of (jY.refl _ _) (gT.refl _ _)
theorem JK.trans{y:Option YI}{ρ ρ1 ρ2:ae}{w w1 w2:World}(h:JK y ρ w ρ1 w1)(k:JK y ρ1 w1 ρ2 w2) :JK y ρ w ρ2 w2 :=
  ⟨h.ext.trans k.ext h.wle.size,h.wle.trans k.wle (fun _ hx q=>aab h.ext hx q),fun v u q=>k.vr v u (h.vr v u q),fun ds q=>k.marks ds (h.marks ds q)⟩
theorem JK.live{ρ ρ':ae}{w w':World}(h:JK none ρ w ρ' w') :gT ρ.live w w':=h.wle.mono fun _ _ q=>aea.1 q
theorem cU.stp{ρ ρ':ae}{w w':World}(h:∀ v u,VR ρ w v u→VR ρ' w' v u) :∀ {l:List AV} {c:List Value},cU ρ w l c→cU ρ' w' l c
  | _,_,.nil=>.nil
  | _,_,.cons v u l c a t=>.cons v u l c (h v u a) (cU.stp h t)
theorem jD.soft{ρ:ae}{w:World}{L:Nat}{r:Loop}(hL:w.heap[L]? = some (.loop r)){o:Obj} :∀ {ds:List Deferred},jD ρ w ds→jD ρ (w.putObj L o) ds
  | [],h=>by simpa [jD] using h
  | d::ds,⟨⟨D,h1,hb,h2,h3,h4,h5⟩,h⟩=>⟨⟨D,h1,hb,by simpa using h2,h3,(World.putObj_heap_other (fun e=>by rw [e,hL] at h4;cases h4)).trans h4,h5⟩,jD.soft hL h⟩
def Tw(ρ:ae)(w:World)(L:Nat)(y:YI)(s:LoopState)(pe:Option Code) :Prop :=
  ∃ rec:Loop,w.heap[L]? = some (.loop rec)∧rec.state=s∧rec.pending=pe∧rec.params=y.ps∧rec.assign=y.assign∧rec.body=y.body∧cU ρ w y.saved rec.tmps.toList
def iz:Option aI→Option (LoopState×Option Code)
  | some (.vs [])=>some (.ready,none)
  | some (.fl [])=>some (.done,some .ret)
  | some (.rows id 0 _)=>some (.done,some (.exit id))
  | _=>none
def mc(y:Option YI)(ρ:ae)(w:World)(h:bR)(m:Nat) :Prop :=
  match y with
  | none=>True
  | some y=>¬ ρ.ok y.b∧y.b<m∧∃ L,ρ.pin.2=some (L,y.b)∧¬ ρ.live L∧∃ s pe,iz (bn h y.b)=some (s,pe)∧Tw ρ w L y s pe
theorem Tw.mono{ρ ρ':ae}{w w':World}{L:Nat}{y:YI}{s:LoopState}{pe:Option Code}(h:Tw ρ w L y s pe)(E:jY ρ ρ' w)(W:gT ρ.live w w')(hL : ¬ ρ.live L) :Tw ρ' w' L y s pe:=by
  obtain ⟨rec,h1,h2,h3,h4,h5,h6,h7⟩:=h
  exact ⟨rec,(W.same L (Array.getElem?_eq_some_iff.1 h1).1 hL).trans h1,h2,h3,h4,h5,h6,h7.mono E W⟩
theorem mc.mono{y:Option YI}{ρ ρ':ae}{w w':World}{h h':bR}{m:Nat}(hp:mc y ρ w h m)(E:jY ρ ρ' w)(W:gT ρ.live w w')(hb:∀ yi,y=some yi→ρ'.ok yi.b→ρ.ok yi.b∨m≤yi.b)(hg:∀ yi,y=some yi→bn h' yi.b=bn h yi.b) :mc y ρ' w' h' m:=by
  cases y with
  | none=>trivial
  | some y =>
    obtain ⟨h1,h2,L,h3,h4,s,pe,h5,h6⟩:=hp
    have hlt:L<w.heap.size:=by obtain ⟨rec,q,_⟩:=h6;exact (Array.getElem?_eq_some_iff.1 q).1
    refine ⟨fun q=>(hb y rfl q).elim h1 (by omega),h2,L,by rw [E.pin];exact h3,fun q=>h4 (E.new L hlt q),s,pe,by rw [hg y rfl];exact h5,h6.mono E W h4⟩
theorem mc.le{y:Option YI}{ρ:ae}{w:World}{h:bR}{m m':Nat}(hp:mc y ρ w h m)(hm:m≤m') :mc y ρ w h m':=by
  cases y with
  | none=>trivial
  | some y=>obtain ⟨h1,h2,h3⟩:=hp;exact ⟨h1,Nat.lt_of_lt_of_le h2 hm,h3⟩
abbrev abm:=List AV→bR→Nat→dY→Option (AV×bR×Nat×List Bool×dY)
def XA(P:Program)(y:Option YI)(yr:abm) :Prop :=
  ∀ args h nx p v h' nx' obs p',yr args h nx p=some (v,h',nx',obs,p')→aG obs→∃ yi,y=some yi∧∀ (ρ:ae) (w:World) (us:Array Value) (m:Nat),HR ρ w h nx→ρ.pin.1≤w.heap.size→mc y ρ w h m→m≤nx→cU ρ w args us.toList →
    ∀ (L:Nat),ρ.pin.2=some (L,yi.b)→∃ rec:Loop,w.heap[L]? = some (.loop rec)∧us.size=rec.params.size∧∀ (ro:Option Nat) (nn:Nat) (R:Ending→World→Prop),
      (∀ ρ' w' u,JK y ρ w ρ' w'→HR ρ' w' h' nx'→mc y ρ' w' h' m→VR ρ' w' v u→(∀ b,ρ'.ok b→ρ.ok b∨nx≤b)→nx≤nx'→R (.returned u) w') →
      RoundIn (FW ro) nn P L rec.fn ((rec.params.zip us).foldl (fun tmps (t,a)=>tmps.setIfInBounds t a) rec.tmps) rec.assign rec.body w R
def aac(ops:Array Oper)(o:Oper)(T:List AV) :Option (List AV) :=
  match o.op with
  | .call { callee:=.value f,args,.. } =>
    match W6 T f with
    | .yld _=>match wF ops o T with
      | some true=>some (args.toList.map (W6 T))
      | _=>none
    | _=>none
  | _=>none
def sG(y:Option YI)(s:List (Nat×Option aI)) :Bool :=
  match y with
  | none=>true
  | some y=>!(qW (s.map Prod.fst) y.b)
theorem Ej{y:Option YI}{s:List (Nat×Option aI)}(h:sG y s=true)(hp:bR) :∀ yi,y=some yi→bn (cT s hp) yi.b=bn hp yi.b:=by
  intro yi e
  subst e
  simp only [sG,Bool.not_eq_true'] at h
  have key:∀ (s:List (Nat×Option aI)) (hp:bR),qW (s.map Prod.fst) yi.b=false→bn (cT s hp) yi.b=bn hp yi.b:=by
    intro s
    induction s with
    | nil=>intro hp _;rfl
    | cons x s ih =>
      intro hp h
      obtain ⟨c,d⟩:=x
      simp only [List.map_cons,qW] at h
      cases e:Nat.beq c yi.b with
      | true=>rw [e] at h;cases h
      | false =>
        rw [e] at h
        simp only [cond_false] at h
        have hne : ¬ c=yi.b:=fun q=>by rw [q,mJ] at e;cases e
        cases d with
        | some d=>simp only [cT];rw [ih _ h,cS,if_neg hne]
        | none=>simp only [cT];rw [ih _ h,mX,if_neg hne]
  exact key s hp h
def Ge(C:tL)(run:eC)(y:Option YI)(yr:abm)(ops:Array Oper)(n0:Nat) :Nat→List Oper→List AV→bR→Nat→dY→Option (List AV×bR×Nat×List Bool×dY)
  | _,[],T,h,nx,p=>some (T,h,nx,[],p)
  | i,o::l,T,h,nx,p =>
    match aac ops o T with
    | some args =>
      match yr args h nx p with
      | none=>none
      | some (v,h1,nx1,obs1,p1) =>
        match qq ops i v p1 with
        | none=>none
        | some (v,obs2,p2) =>
          match Ge C run y yr ops n0 (i+1) l (C5 T o.dst v) h1 nx1 p2 with
          | none=>none
          | some (T',h',nx',obs',p'')=>some (T',h',nx',obs1++obs2++obs',p'')
    | none =>
      match Ei C run ops n0 i o T h p with
      | none=>none
      | some (r,obs,p') =>
        bif sG y r.sets then
          match Ge C run y yr ops n0 (i+1) l (C5 T o.dst r.v) (cT r.sets h) nx p' with
          | none=>none
          | some (T',h',nx',obs',p'')=>some (T',h',nx',obs++obs',p'')
        else none
structure Kp (ρ:ae) (w:World) (n:Nat) (st:aH) (ρ':ae) (a':Act) (w':World):Prop where
  ext:jY ρ ρ' w
  wle:gT ρ.live w w'
  sr:SR ρ' st a' w'
  le:n≤st.next
  back:∀ b,ρ'.ok b→ρ.ok b∨n≤b
theorem Kq{ρ:ae}{w:World}{ops:Array Oper}{i:Nat}{v v':AV}{u:Value}{p p':dY}{obs:List Bool}(hv:VR ρ w v u)(hg:qq ops i v p=some (v',obs,p'))(ho:aG obs) :VR ρ w v' u:=by
  unfold qq at hg
  cases hgd:Qy ops i with
  | false=>rw [hgd] at hg;simp only [cond_false,Option.some.injEq,Prod.mk.injEq] at hg;rw [←hg.1];exact hv
  | true =>
    rw [hgd] at hg
    simp only [cond_true,Option.map_eq_some_iff,Prod.mk.injEq] at hg
    obtain ⟨⟨b,ob,pp⟩,hd',rfl,rfl,rfl⟩:=hg
    rw [C4 hv hd' ho]
    exact .bool _ _
theorem wH{C:tL}(hC:C.Ok){run:eC}(hrun:Kk C.P run){y:Option YI}{yr:abm}(hyr:XA C.P y yr){ops:Array Oper}{n0:Nat}{ro:Option Nat}{nn:Nat}{Q:Exit→Act→World→Prop} :∀ (l:List Oper) (i:Nat) {T T':List AV} {h h':bR} {nx nx':Nat} {p p':dY} {obs:List Bool},
    (∀ j,l[j]? = ops[i+j]?)→Ge C run y yr ops n0 i l T h nx p=some (T',h',nx',obs,p')→aG obs→∀ {ρ:ae} {w:World},HR ρ w h nx→n0+ops.size*qp≤nx→mc y ρ w h n0→ρ.pin.1≤w.heap.size→(∀ b,ρ.ok b→b<n0+i*qp∨n0+ops.size*qp≤b)→∀ {a:Act},cU ρ w T a.tmps.toList →
    (∀ ρ' w' a',JK y ρ w ρ' w'→HR ρ' w' h' nx'→nx≤nx'→mc y ρ' w' h' n0→a'.defers=a.defers→cU ρ' w' T' a'.tmps.toList→(∀ b,ρ'.ok b→ρ.ok b∨n0≤b)→Q .normal a' w')→wpOpsIn (FW ro) nn C.P ops Q (List.range' i l.length) a w
  | [],i,T,T',h,h',nx,nx',p,p',obs,hl,hr,ho,ρ,w,hh,hnx,hpin,hpn,hok,a,hT,hQ=>by
    simp only [Ge,Option.some.injEq,Prod.mk.injEq] at hr;obtain ⟨rfl,rfl,rfl,rfl,rfl⟩:=hr
    simp only [List.length_nil,List.range'_zero,wpOpsIn]
    exact hQ ρ w a (JK.refl _ _ _) hh (Nat.le_refl _) hpin rfl hT (fun b q=>.inl q)
  | o::l,i,T,T',h,h',nx,nx',p,p',obs,hl,hr,ho,ρ,w,hh,hnx,hpin,hpn,hok,a,hT,hQ=>by
    have hi:ops[i]? = some o:=by have:=hl 0;simpa using this.symm
    have hlt:i<ops.size:=(Array.getElem?_eq_some_iff.1 hi).1
    simp only [List.length_cons,List.range'_succ]
    rw [wpOpsIn_cons]
    have hS:i*qp+qp≤ops.size*qp:=by rw [←Nat.succ_mul];exact Nat.mul_le_mul_right _ hlt
    have hi1:(i+1)*qp=i*qp+qp:=Nat.succ_mul _ _
    have hl':∀ j,l[j]? = ops[i+1+j]?:=fun j=>by have:=hl (j+1);rw [show i+1+j=i+(j+1) from by omega];simpa using this
    simp only [Ge] at hr
    split at hr
    · rename_i args hya
      split at hr
      case h_1=>cases hr
      rename_i v h1 nx1 obs1 p1 hy1
      split at hr
      case h_1=>cases hr
      rename_i v2 obs2 p2 hg
      split at hr
      case h_1=>cases hr
      rename_i T2 h2 nx2 obs3 p3 h3
      simp only [Option.some.injEq,Prod.mk.injEq] at hr;obtain ⟨rfl,rfl,rfl,rfl,rfl⟩:=hr
      rw [bt,bt] at ho
      unfold aac at hya
      split at hya
      case h_2=>cases hya
      rename_i f avs ats hop
      split at hya
      case h_2=>cases hya
      rename_i b hef
      split at hya
      case h_2=>cases hya
      rename_i hw
      simp only [Option.some.injEq] at hya;subst hya
      have hf:=zD hh.rom hT f
      rw [hef] at hf
      generalize hgf:a.eval f=gf at hf
      cases hf with | yld _ L hL =>
      obtain ⟨yi,rfl,hyr1⟩:=hyr _ _ _ _ _ _ _ _ _ hy1 ho.1.1
      have hb:b=yi.b:=by
        obtain ⟨_,_,L',q,_⟩:=hpin
        rw [hL] at q;cases q;rfl
      subst hb
      obtain ⟨rec,hrec,hsz,hround⟩:=hyr1 ρ w (avs.map a.eval) n0 hh hpn hpin (by omega) (by rw [Array.toList_map];exact cU.map (fun x=>zD hh.rom hT x) avs.toList) L hL
      unfold wpOpIn
      simp only [hi]
      rw [wG hT hw]
      simp only [if_true]
      refine ⟨fun _ _=>trivial,?_⟩
      have hex:(o.semAt (FW ro).round a.eval).run C.P w=.ok (.round L rec.fn ((rec.params.zip (avs.map a.eval)).foldl (fun tmps (t,a)=>tmps.setIfInBounds t a) rec.tmps) rec.assign rec.body) w:=by
        rw [Oper.semAt_eq _ _ _ (fun c e=>by rw [hop] at e;cases e)]
        have:=run_yield (P:=C.P) (args:=avs.map a.eval) hrec hsz
        simp only [execOp,hop,resolve,hgf,Deferred.ofValue]
        simpa [invoke,Sem.run_bind,Result.andThen] using this
      rw [hex]
      refine ⟨JI,hround ro _ _ fun ρ' w' u S hh' hpin' hv hok' hle=>?_⟩
      refine wH hC hrun hyr l (i+1) hl' h3 ho.2 hh' (by omega) hpin' (by rw [S.ext.pin];exact Nat.le_trans hpn S.wle.size) (fun b q=>?_) (Qz (cU.stp S.vr hT) (Kq hv hg ho.1.2) o.dst) ?_
      · rcases hok' b q with q | q
        · rcases hok b q with q | q
          · exact .inl (by omega)
          · exact .inr q
        · exact .inr (by omega)
      · intro ρ'' w'' a'' S' hh'' hle' hpin'' hd'' hT'' hb''
        refine hQ ρ'' w'' a'' (S.trans S') hh'' (by omega) hpin'' (hd''.trans (by cases hdst:o.dst<;>simp [Act.put])) hT'' (fun b q=>?_)
        rcases hb'' b q with q | q
        · rcases hok' b q with q | q
          · exact .inl q
          · exact .inr (by omega)
        · exact .inr q
    · split at hr
      case h_1=>cases hr
      rename_i r obs1 p1 h1
      cases hkp:sG y r.sets with
      | false=>rw [hkp] at hr;cases hr
      | true =>
      rw [hkp] at hr
      simp only [cond_true] at hr
      split at hr
      case h_1=>cases hr
      rename_i T2 h2 nx2 obs2 p2 h3
      simp only [Option.some.injEq,Prod.mk.injEq] at hr;obtain ⟨rfl,rfl,rfl,rfl,rfl⟩:=hr
      rw [bt] at ho
      refine HW hC hrun hi h1 ho.1 hh (fun x h1 h2 q=>by have:=hok _ q;omega) (by omega) hT ?_
      intro ρ' w' a' E W hh' hd' hT' hok'
      have S:=JK.of (y:=y) E W
      refine wH hC hrun hyr l (i+1) hl' h3 ho.2 hh' hnx (hpin.mono E W (fun yi e q=>?_) (Ej hkp h)) (by rw [E.pin];exact Nat.le_trans hpn W.size) (fun b q=>?_) hT' ?_
      · rcases hok' _ q with q | q
        · exact .inl q
        · exact .inr (by omega)
      · rcases hok' b q with q | q
        · rcases hok b q with q | q
          · exact .inl (by omega)
          · exact .inr q
        · exact .inl (by omega)
      intro ρ'' w'' a'' S' hh'' hle' hpin'' hd'' hT'' hb''
      exact hQ ρ'' w'' a'' (S.trans S') hh'' hle' hpin'' (hd''.trans hd') hT'' (fun b q=>by
        rcases hb'' b q with q | q
        · rcases hok' b q with q | q
          · exact .inl q
          · exact .inr (by omega)
        · exact .inr q)
theorem Bn{e e':Operand→AV}{l:List Operand}(h:∀ x∈l,e x=e' x) :l.map e=l.map e':=List.map_congr_left h
theorem QA{wr:Bool}{P:Program}{e e':Operand→AV}{op:Op}(h:∀ x∈op.operands,e x=e' x) :sy wr P e op=sy wr P e' op:=by
  unfold sy
  split
  all_goals simp only [Op.operands,Call.operands] at h
  case h_1=>rw [h _ (by simp)]
  case h_2=>rw [h _ (by simp)]
  case h_3=>rw [h _ (by simp),h _ (by simp),h _ (by simp)]
  case h_4=>rw [h _ (by simp)]
  case h_5=>rw [h _ (by simp),h _ (by simp)]
  case h_6=>rw [h _ (by simp)]
  case h_7=>rw [h _ (by simp)]
  case h_8=>rw [h _ (by simp)]
  case h_9 =>
    rename_i fn first caps
    rw [Bn (l:=first.toList) (fun x hx=>h x (by simp at hx;simp [hx])),Bn (l:=caps.toList) (fun x hx=>h x (by simp at hx;simp [hx]))]
  case h_10 =>
    rename_i t x lo hi
    rw [h x (by simp)]
    cases lo<;>cases hi<;>simp only [Option.map_none,Option.map_some]<;>first | rfl | (rw [h _ (by simp),h _ (by simp)]) | (rw [h _ (by simp)])
  case h_11 =>
    rename_i t x lo hi mx
    rw [h x (by simp),h mx (by simp)]
    cases lo<;>cases hi<;>simp only [Option.map_none,Option.map_some]<;>first | rfl | (rw [h _ (by simp),h _ (by simp)]) | (rw [h _ (by simp)])
  case h_12=>rw [h _ (by simp)]
  case h_13=>rw [h _ (by simp)]
  case h_14=>rw [h _ (by simp),h _ (by simp)]
  case h_15=>rw [h _ (by simp),h _ (by simp)]
  case h_16=>rw [h _ (by simp)]
  case h_17 =>
    rename_i xs ts
    split
    · rename_i x t hx ht
      have:xs = #[x]:=by rw [←hx]
      subst this
      rw [h x (by simp)]
    · rfl
  case h_18 =>
    rename_i xs ts
    split
    · rename_i x l hx
      have:xs=(x::l).toArray:=by rw [←hx]
      subst this
      rw [h x (by simp),Bn (l:=l) (fun y hy=>h y (by simp [hy]))]
    · rfl
  case h_19 =>
    rename_i xs ts
    split
    · rename_i x l hx
      have:xs=(x::l).toArray:=by rw [←hx]
      subst this
      rw [h x (by simp),Bn (l:=l) (fun y hy=>h y (by simp [hy]))]
    · rfl
  case h_20=>rfl
theorem Tx{P:Program}{g g':Nat→Option aI}{t:TypeId}{x:AV}{r:AV×List Bool×List Nat}(h:Ch P g t x=some r)(hg:∀ b∈r.2.2,g' b=g b) :Ch P g' t x=some r:=by
  unfold Ch at h ⊢
  simp only at h ⊢
  split at h
  · rename_i b w i j
    split at h
    · rename_i d hd
      simp only [Option.map_eq_some_iff] at h
      obtain ⟨r',h1,rfl⟩:=h
      have:g' b=some d:=by rw [hg b (by simp)];exact hd
      simp only [this,h1];rfl
    · cases h
  · exact h
  · cases h
theorem QB{P:Program}{g g':Nat→Option aI}{t:TypeId}{x v:AV}{r:Nat×aI×List Bool}(h:CU P g t x v=some r)(hg:g' r.1=g r.1) :CU P g' t x v=some r:=by
  unfold CU at h ⊢
  split at h
  · rename_i b w i j l inf h1 h2
    split at h
    · rename_i d hd
      cases e:Nat.beq l.length inf.size with
      | false=>rw [e] at h;cases h
      | true =>
        rw [e] at h
        simp only [cond_true,Option.map_eq_some_iff] at h
        obtain ⟨r',h3,rfl⟩:=h
        have:g' b=some d:=by rw [hg];exact hd
        simp only [h1,this,e,cond_true,h3];rfl
    · cases h
  · cases h
theorem C6{g g':Nat→Option aI}{x:AV}{r:Nat×Nat×aI×List Bool×List Nat}(h:Tm g x=some r)(hg:∀ b∈r.2.2.2.2,g' b=g b) :Tm g' x=some r:=by
  unfold Tm at h ⊢
  split at h
  · rename_i b w es i len cap
    split at h
    · rename_i d hd
      simp only [Option.map_eq_some_iff] at h
      obtain ⟨r',h1,rfl⟩:=h
      have:g' b=some d:=by rw [hg b (by simp)];exact hd
      simp only [this,h1];rfl
    · cases h
  · exact h
  · cases h
theorem uW{P:Program}{g g':Nat→Option aI}{nid:Nat}{e:TypeId}{inf:TypeInfo}{s:AV}{m es':Nat}{nb:aI}{obs:List Bool}{rs:List Nat}{r:List rG×List Nat}(h:wy P g nid e inf s m es' nb obs rs=some r)(hg:∀ b∈r.2,g' b=g b) :
    wy P g' nid e inf s m es' nb obs rs=some r∧∀ b∈rs,b∈r.2:=by
  unfold wy at h ⊢
  split at h
  · refine ⟨h,?_⟩
    cases hes:Nat.beq es' inf.size with
    | false=>rw [hes] at h;cases h
    | true =>
      rw [hes] at h
      simp only [cond_true,Option.some.injEq] at h;subst h
      exact fun b hb=>hb
  · refine ⟨h,?_⟩
    cases hes:Nat.beq es' inf.size with
    | false=>rw [hes] at h;cases h
    | true =>
      rw [hes] at h
      simp only [cond_true,Option.some.injEq] at h;subst h
      exact fun b hb=>hb
  · rename_i b w es len cap
    split at h
    case h_2=>cases h
    rename_i d hd
    cases hes:(Nat.beq es inf.size&&Nat.beq es' es) with
    | false=>rw [hes] at h;cases h
    | true =>
    rw [hes] at h
    simp only [cond_true] at h
    split at h
    case h_2=>cases h
    rename_i old obs' hsub
    simp only [Option.map_eq_some_iff] at h
    obtain ⟨d',happ,rfl⟩:=h
    have h2:g' b=some d:=by rw [hg b (by simp)];exact hd
    refine ⟨?_,fun b hb=>by simp [hb]⟩
    simp only [h2,cond_true,hsub,happ,hes];rfl
  · cases h
theorem M3{P:Program}{g g':Nat→Option aI}{nid:Nat}{t t':TypeId}{s x:AV}{r:List rG×List Nat}(h:Bl P g nid t t' s x=some r)(hg:∀ b∈r.2,g' b=g b) :Bl P g' nid t t' s x=some r:=by
  unfold Bl at h ⊢
  split at h
  case h_2=>cases h
  rename_i e y ht ht'
  split at h
  case h_2=>cases h
  rename_i inf he hi
  split at h
  case h_2=>cases h
  rename_i z hz
  cases hzs:(Nat.beq z.cells.size inf.size&&Nat.beq inf.size 1) with
  | false=>rw [hzs] at h;cases h
  | true =>
  rw [hzs] at h
  simp only [cond_true] at h ⊢
  exact (uW h hg).1
theorem M4{P:Program}{g g':Nat→Option aI}{nid:Nat}{t:TypeId}{s x:AV}{r:List rG×List Nat}(h:Bk P g nid t s x=some r)(hg:∀ b∈r.2,g' b=g b) :Bk P g' nid t s x=some r:=by
  unfold Bk at h ⊢
  split at h
  case h_2=>cases h
  rename_i e ht
  split at h
  case h_2=>cases h
  rename_i inf hi
  split at h
  case h_2=>cases h
  rename_i z hz
  cases hzs:Nat.beq z.cells.size inf.size with
  | false=>rw [hzs] at h;cases h
  | true =>
  rw [hzs] at h
  simp only [cond_true] at h ⊢
  split at h
  · exact h
  · exact h
  · exact h
  · exact h
  · split at h
    case h_2=>cases h
    rename_i m es nb obs rs hs
    have q:∀ b∈rs,b∈r.2:=(uW (g':=g) h (fun _ _=>rfl)).2
    have:=C6 (g':=g') hs (fun b hb=>hg b (q b hb))
    simp only [this]
    exact (uW h hg).1
mutual
theorem wI {σ:Nat→Option Nat} {g g':Nat→Option aI}:∀ (n:Nat) (v:AV),(∀ b∈(Ga σ g n v).2,g' b=g b)→Ga σ g' n v=Ga σ g n v
  | 0,_,_=>rfl
  | n + 1, v, h => by
    cases v<;>simp only [Ga] at h ⊢
    · rename_i b w i j
      cases hs:σ b with
      | some c=>rfl
      | none =>
      rw [hs] at h
      simp only at h ⊢
      have hb:g' b=g b:=by
        cases q:g b with
        | none=>rw [q] at h;have:=h b (by simp);rw [this,q]
        | some d=>rw [q] at h;have:=h b (by simp);rw [this,q]
      rw [hb]
      cases q:g b with
      | none=>rfl
      | some d =>
        rw [q] at h
        have:=Kr (σ:=σ) (g:=g) (g':=g') n d (fun b' hb'=>h b' (by simp only [List.mem_cons];exact .inr hb'))
        simp only [this]
    · rename_i b w es i len cap
      cases hs:σ b with
      | some c=>rfl
      | none =>
      rw [hs] at h
      simp only at h ⊢
      have hb:g' b=g b:=by
        cases q:g b with
        | none=>rw [q] at h;have:=h b (by simp);rw [this,q]
        | some d=>rw [q] at h;have:=h b (by simp);rw [this,q]
      rw [hb]
      cases q:g b with
      | none=>rfl
      | some d =>
        rw [q] at h
        have:=Kr (σ:=σ) (g:=g) (g':=g') n d (fun b' hb'=>h b' (by simp only [List.mem_cons];exact .inr hb'))
        simp only [this]
    · rename_i f l1 l2
      rw [pa n l1 (fun b hb=>h b (by simp [hb])),pa n l2 (fun b hb=>h b (by simp [hb]))]
    · rename_i l;rw [pa n l h]
    · rename_i l;rw [pa n l h]
    · rename_i t v;rw [wI n v h]
theorem pa {σ:Nat→Option Nat} {g g':Nat→Option aI}:∀ (n:Nat) (l:List AV),(∀ b∈(Eb σ g n l).2,g' b=g b)→Eb σ g' n l=Eb σ g n l
  | 0,_,_=>rfl
  | n+1,[],_=>rfl
  | n+1,v::l,h=>by
    simp only [Eb] at h ⊢
    rw [wI n v (fun b hb=>h b (by simp [hb])),pa n l (fun b hb=>h b (by simp [hb]))]
theorem Kr {σ:Nat→Option Nat} {g g':Nat→Option aI}:∀ (n:Nat) (d:aI),(∀ b∈(CY σ g n d).2,g' b=g b)→CY σ g' n d=CY σ g n d
  | 0,_,_=>rfl
  | n+1,d,h=>by
    cases d<;>simp only [CY] at h ⊢
    rename_i l;rw [pa n l h]
end
theorem nA{σ:Nat→Option Nat}{g g':Nat→Option aI} :∀ (m:List Bool) (l:List AV),(∀ b∈(jG σ g m l).2,g' b=g b)→jG σ g' m l=jG σ g m l
  | m,[],_=>by cases m<;>rfl
  | true::m,v::l,h=>by
    simp only [jG] at h ⊢
    rw [nA m l h]
  | false::m,v::l,h=>by
    simp only [jG] at h ⊢
    rw [wI _ v (fun b hb=>h b (by simp [hb])),nA m l (fun b hb=>h b (by simp [hb]))]
  | [],v::l,h=>by
    simp only [jG] at h ⊢
    rw [wI _ v (fun b hb=>h b (by simp [hb])),nA [] l (fun b hb=>h b (by simp [hb]))]
theorem Gf{g:Nat→Option aI} :∀ (n:Nat) (t acc:List Nat),∀ b∈acc,b∈mb g n t acc
  | 0,t,acc,b,h=>h
  | n+1,[],acc,b,h=>h
  | n+1,x::t,acc,b,h=>by
    simp only [mb]
    split
    · exact Gf n _ _ b h
    · exact Gf n _ _ b (by simp [h])
theorem zN{g g':Nat→Option aI} :∀ (n:Nat) (t acc:List Nat),(∀ b∈mb g n t acc,g' b=g b)→mb g' n t acc=mb g n t acc
  | 0,t,acc,_=>rfl
  | n+1,[],acc,_=>rfl
  | n+1,x::t,acc,h=>by
    simp only [mb] at h ⊢
    split
    · rename_i e;rw [e] at h;exact zN n _ _ h
    · rename_i e
      rw [e] at h
      simp only at h
      have hx:g' x=g x:=h x (Gf n _ _ x (by simp))
      rw [hx]
      exact zN n _ _ h
theorem Ek{σ:Nat→Option Nat}{g g':Nat→Option aI} :∀ (l:List Nat),(∀ b∈l,g' b=g b)→qV σ g' l=qV σ g l
  | [],_=>rfl
  | b::l,h=>by simp only [qV];rw [h b (by simp),Ek l (fun x hx=>h x (by simp [hx]))]
theorem zO{g g':Nat→Option aI}{nid:Nat} :∀ (l:List Nat),(∀ b∈l,g' b=g b)→nw g' nid l=nw g nid l
  | [],_=>rfl
  | b::l,h=>by simp only [nw];rw [h b (by simp),zO l (fun x hx=>h x (by simp [hx]))]
theorem Tz{C:tL}{run:eC}{g g':Nat→Option aI}{nid:Nat}{p:dY}{fid:FuncId}{vals:List AV}{r:OpR}(h:Kl C run g nid p fid vals=some r)(hg:∀ b∈r.reads,g' b=g b) :Kl C run g' nid p fid vals=some r:=by
  have hreads:r.reads=mb g hU (io (nv (C.mode fid).mask vals)) []++(jG (iU (mb g hU (io (nv (C.mode fid).mask vals)) []) 0) g (C.mode fid).mask vals).2:=by
    unfold Kl at h
    simp only at h
    generalize (uT (mb g hU (io (nv (C.mode fid).mask vals)) [])&&nw g nid (mb g hU (io (nv (C.mode fid).mask vals)) []))=c at h
    cases c with
    | false=>cases h
    | true =>
      simp only [cond_true] at h
      split at h
      case h_2=>cases h
      rename_i r' obs p' hl
      cases hle:Nat.ble r'.own.length ((mb g hU (io (nv (C.mode fid).mask vals)) []).length+qp) with
      | false=>rw [hle] at h;cases h
      | true=>rw [hle] at h;simp only [cond_true,Option.some.injEq] at h;rw [←h]
  rw [hreads] at hg
  have e1:=zN (g:=g) (g':=g') hU (io (nv (C.mode fid).mask vals)) [] (fun b hb=>hg b (by simp [hb]))
  have e2:=nA (σ:=iU (mb g hU (io (nv (C.mode fid).mask vals)) []) 0) (g:=g) (g':=g') (C.mode fid).mask vals (fun b hb=>hg b (by simp [hb]))
  have e3:=Ek (σ:=iU (mb g hU (io (nv (C.mode fid).mask vals)) []) 0) (g:=g) (g':=g') (mb g hU (io (nv (C.mode fid).mask vals)) []) (fun b hb=>hg b (by simp [hb]))
  have e4:=zO (nid:=nid) (g:=g) (g':=g') (mb g hU (io (nv (C.mode fid).mask vals)) []) (fun b hb=>hg b (by simp [hb]))
  unfold Kl at h ⊢
  simp only at h ⊢
  rw [e1,e2,e3,e4]
  exact h
theorem TA{P:Program}{g g':Nat→Option aI}{t:TypeId}{s x:AV}{r:Nat×Nat×aI×List Bool×List Nat}(h:OT P g t s x=some r)(hg:∀ b∈r.2.2.2.2,g' b=g b) :OT P g' t s x=some r:=by
  unfold OT at h ⊢
  split at h
  case h_2=>cases h
  rename_i e b w es i len cap ht
  split at h
  case h_2=>cases h
  rename_i inf blk m es' nb obs rs hi hb hsrc
  have hr:r.2.2.2.2=b::rs:=by
    cases h1:Nat.beq inf.size 1&&Nat.beq es' 1 with
    | false=>rw [h1] at h;cases h
    | true =>
      rw [h1] at h
      simp only [cond_true,Option.map_eq_some_iff] at h
      obtain ⟨_,_,rfl⟩:=h
      rfl
  have q1:g' b=some blk:=by rw [hg b (by rw [hr];simp)];exact hb
  have q2:=C6 hsrc (g':=g') (fun c hc=>hg c (by rw [hr];exact List.mem_cons_of_mem _ hc))
  rw [hi,q1,q2]
  exact h
theorem TB{P:Program}{g g':Nat→Option aI}{t:TypeId}{s x:AV}{r:Nat×Nat×aI×List Bool×List Nat}(h:OU P g t s x=some r)(hg:∀ b∈r.2.2.2.2,g' b=g b) :OU P g' t s x=some r:=by
  unfold OU at h ⊢
  cases hv:acz x with
  | false=>rw [hv] at h;exact TA h hg
  | true =>
    rw [hv] at h
    simp only at h ⊢
    split at h
    case h_2=>cases h
    rename_i e b w es i len cap ht
    split at h
    case h_2=>cases h
    rename_i inf blk hi hb
    cases h
    have:=hg b (by simp)
    simp only [hi,this,hb]
theorem XB{P:Program}{g g':Nat→Option aI}{s d:TypeId}{x:AV}{r:ByteArray×List Bool×List Nat}(h:abh P g s d x=some r)(hg:∀ b∈r.2.2,g' b=g b) :abh P g' s d x=some r:=by
  unfold abh at h ⊢
  split at h
  case h_2=>cases h
  rename_i e hs hd
  split at h
  case h_2=>cases h
  rename_i m es k ys obs rs he hsrc
  have hr:r.2.2=rs:=by
    cases h1:Nat.beq es 1&&cN k .u8 with
    | false=>rw [h1] at h;cases h
    | true =>
      rw [h1] at h
      simp only [cond_true,Option.some.injEq] at h
      rw [←h]
  have q2:=C6 hsrc (g':=g') (fun c hc=>hg c (by rw [hr];exact hc))
  rw [he,q2]
  exact h
theorem abn{C:tL}{run:eC}{e e':Operand→AV}{g g':Nat→Option aI}{nid:Nat}{p:dY}{op:Op}{r:OpR}(h:Xw C run e g nid p op=some r)(he:∀ x∈op.operands,e' x=e x)(hg:∀ b∈r.reads,g' b=g b) :
    Xw C run e' g' nid p op=some r:=by
  unfold Xw at h ⊢
  rw [QA he]
  split at h
  · exact h
  · rename_i hp
    clear hp
    split at h
    all_goals simp only [Op.operands,Call.operands] at he
    · rename_i t x
      simp only [Option.map_eq_some_iff] at h ⊢
      obtain ⟨r',h1,rfl⟩:=h
      exact ⟨r',by rw [he x (by simp)];exact Tx h1 hg,rfl⟩
    · rename_i t d x
      simp only [Option.map_eq_some_iff] at h ⊢
      obtain ⟨r',h1,rfl⟩:=h
      exact ⟨r',by rw [he x (by simp)];exact XB h1 hg,rfl⟩
    · rename_i t x lo hi
      have h1:lo.map e'=lo.map e:=by
        cases lo with
        | none=>rfl
        | some y=>simp only [Option.map_some];rw [he y (by simp)]
      have h2:hi.map e'=hi.map e:=by
        cases hi with
        | none=>rfl
        | some y=>simp only [Option.map_some];rw [he y (by simp)]
      simp only [Option.map_eq_some_iff] at h ⊢
      obtain ⟨r',q,rfl⟩:=h
      exact ⟨r',by rw [he x (by simp),h1,h2];exact Qt q hg,rfl⟩
    · rename_i t x v
      simp only [Option.map_eq_some_iff] at h ⊢
      obtain ⟨r',h1,rfl⟩:=h
      exact ⟨r',by rw [he x (by simp),he v (by simp)];exact QB h1 (hg _ (by simp)),rfl⟩
    · rename_i t x k cok;rw [he x (by simp),he k (by simp)];exact h
    · exact h
    · rename_i t x;rw [he x (by simp)];exact h
    · rename_i t l c;rw [he l (by simp),he c (by simp)];exact h
    · rename_i t parts
      have:(parts.toList.map fun x=>(x.1,e' x.2))=(parts.toList.map fun x=>(x.1,e x.2)):=List.map_congr_left fun x hx=>by rw [he x.2 (by simp;exact ⟨x.1,by simpa using hx⟩)]
      rw [this];exact h
    · rename_i t len parts
      have:(parts.toList.map fun x=>(x.1,e' x.2))=(parts.toList.map fun x=>(x.1,e x.2)):=List.map_congr_left fun x hx=>by rw [he x.2 (by simp;exact ⟨x.1,by simpa using hx⟩)]
      rw [this];exact h
    · rename_i args ats
      split at h
      case h_2=>cases h
      rename_i s x t t' e1 e2
      have ea:args = #[s,x]:=by rw [←e1]
      subst ea
      cases ht:Nat.beq t t' with
      | false =>
        rw [ht] at h
        simp only [cond_false] at h ⊢
        rw [he s (by simp),he x (by simp)]
        split at h
        case h_2=>cases h
        rename_i alts rs ha
        simp only [Option.map_eq_some_iff] at h ⊢
        obtain ⟨r',h1,rfl⟩:=h
        have:=M3 (g':=g') ha hg
        simp only [this,Option.map_eq_some_iff]
        exact ⟨r',h1,rfl⟩
      | true =>
      rw [ht] at h
      simp only [cond_true] at h ⊢
      rw [he s (by simp),he x (by simp)]
      split at h
      case h_2=>cases h
      rename_i alts rs ha
      simp only [Option.map_eq_some_iff] at h ⊢
      obtain ⟨r',h1,rfl⟩:=h
      have:=M4 (g':=g') ha hg
      simp only [this,Option.map_eq_some_iff]
      exact ⟨r',h1,rfl⟩
    · rename_i args ats
      split at h
      case h_2=>cases h
      rename_i s x t t' e1 e2
      have ea:args = #[s,x]:=by rw [←e1]
      subst ea
      rw [he s (by simp),he x (by simp)]
      simp only [Option.map_eq_some_iff] at h ⊢
      obtain ⟨r',h1,rfl⟩:=h
      exact ⟨r',TB h1 hg,rfl⟩
    · rename_i f args ats
      have hf:e' f=e f:=he f (by simp)
      have hargs:args.toList.map e'=args.toList.map e:=List.map_congr_left fun x hx=>he x (by simp at hx;simp [hx])
      split at h
      case h_2=>cases h
      rename_i fid l hca
      have:zL e' f args=some (fid,l):=by
        unfold zL at hca ⊢
        rw [hf,hargs];exact hca
      simp only [this]
      split at h
      · exact h
      · exact Tz h hg
    · cases h
def XC(l:List Operand) :List Nat:=l.filterMap fun | .tmp t=>some t | _=>none
def ml(ops:Array Oper)(o:Oper) :List Nat :=
  (match o.dst with | some d=>[d] | none=>[])++(XC o.op.operands.toList++(match o.guard with | some (j,_)=>(match Bm ops j with | some d=>[d] | none=>[]) | none=>[]))
def iY(s:List (Nat×Option aI)) :List Nat:=s.map Prod.fst
def pT(ms:List Nat)(o:Oper) :Nat:=o.after.toList.foldl (fun m e=>bif Region.binds .any e then m ||| (2^e.on ||| ms.getD e.on 0) else m) 0
def XD(x:Nat) :List Nat→Bool
  | []=>false
  | y::l=>Nat.beq x y||XD x l
def C7:List Nat→List Nat→Bool
  | [],_=>true
  | x::l,m=>!XD x m&&C7 l m
theorem Ks{x:Nat} :∀ {l:List Nat},XD x l=true↔x∈l
  | []=>by simp [XD]
  | y::l=>by simp [XD,Ks (l:=l)]
theorem Bo{l m:List Nat}(h:C7 l m=true) :∀ x,x∈l→x∈m→False:=by
  induction l with
  | nil=>intro x hx;cases hx
  | cons y l ih =>
    simp only [C7,Bool.and_eq_true,Bool.not_eq_true'] at h
    intro x hx hm
    rcases List.mem_cons.1 hx with rfl | hx
    · have:=Ks.2 hm;rw [this] at h;cases h.1
    · exact ih h.2 x hx hm
def nB(ops:Array Oper)(o:Oper)(r:pS)(o':Oper)(r':pS) :Bool :=
  C7 o.dst.toList (ml ops o')&&(C7 o'.dst.toList (ml ops o)&&(C7 (iY r.sets) (r'.reads++iY r'.sets)&&C7 (iY r'.sets) (r.reads++iY r.sets)))
def nC(ops:Array Oper)(mask:Nat)(o':Oper)(r':pS) :Nat→List (Oper×pS)→Bool
  | _,[]=>true
  | i,x::l=>(mask.testBit i||nB ops x.1 x.2 o' r')&&nC ops mask o' r' (i+1) l
def C8(ops:Array Oper) :List (Oper×pS)→List Nat→List (Oper×pS)→Bool
  | _,_,[]=>true
  | pre,ms,x::l =>
    x.1.after.toList.all (fun e=>!Region.binds .any e||Nat.blt e.on pre.length) &&
    (nC ops (pT ms x.1) x.1 x.2 0 pre&&C8 ops (pre++[x]) (ms++[pT ms x.1]) l)
def np(L:Nat→Bool) :Nat→List (Oper×pS)→List AV×bR→List AV×bR
  | _,[],s=>s
  | i,x::l,s=>np L (i+1) l (bif L i then (C5 s.1 x.1.dst x.2.v,cT x.2.sets s.2) else s)
theorem El(T:List AV)(d:Option Nat)(v:AV)(t:Nat) :(C5 T d v)[t]? = if d=some t then (T[t]?).map (fun _=>v) else T[t]?:=by
  cases d with
  | none=>simp [C5]
  | some d =>
    simp only [C5,Bf,Option.some.injEq]
    rw [List.getElem?_set]
    by_cases h:d=t
    · subst h
      simp only [if_true]
      by_cases hl:d<T.length
      · simp [hl]
      · simp [hl]
    · simp [h]
theorem pU{h h':bR}{b:Nat} :∀ (s:List (Nat×Option aI)) {h h':bR},bn h b=bn h' b→bn (cT s h) b=bn (cT s h') b
  | [],_,_,e=>e
  | (c,some d)::s,h,h',e=>by
    simp only [cT]
    exact pU (h:=h) (h':=h') s (by rw [cS,cS,e])
  | (c,none)::s,h,h',e=>by
    simp only [cT]
    exact pU (h:=h) (h':=h') s (by rw [mX,mX,e])
theorem pV{b:Nat} :∀ (s:List (Nat×Option aI)) {h:bR},b ∉ iY s→bn (cT s h) b=bn h b
  | [],_,_=>rfl
  | (c,some d)::s,h,hb=>by
    simp only [iY,List.map_cons,List.mem_cons,not_or] at hb
    simp only [cT]
    rw [pV s hb.2,cS,if_neg (fun e=>hb.1 e.symm)]
  | (c,none)::s,h,hb=>by
    simp only [iY,List.map_cons,List.mem_cons,not_or] at hb
    simp only [cT]
    rw [pV s hb.2,mX,if_neg (fun e=>hb.1 e.symm)]
theorem QC{L L':Nat→Bool}{t:Nat} :∀ (l:List (Oper×pS)) (i:Nat) {s s':List AV×bR},(∀ k x,l[k]? = some x→x.1.dst=some t→L (i+k)=L' (i+k))→s.1[t]? = s'.1[t]?→(np L i l s).1[t]? = (np L' i l s').1[t]?
  | [],_,_,_,_,e=>e
  | x::l,i,s,s',h,e=>by
    simp only [np]
    refine QC l (i+1) (fun k y hy hd=>by have:=h (k+1) y (by simpa using hy) hd;rw [show i+1+k=i+(k+1) from by omega];exact this) ?_
    by_cases hd:x.1.dst=some t
    · have:=h 0 x (by simp) hd
      simp only [Nat.add_zero] at this
      rw [this]
      cases L' i with
      | true=>simp only [cond_true,El,hd,if_true,e]
      | false=>exact e
    · cases L i<;>cases L' i<;>simp only [cond_true,cond_false,El,if_neg hd,e]
theorem QD{L L':Nat→Bool}{b:Nat} :∀ (l:List (Oper×pS)) (i:Nat) {s s':List AV×bR},(∀ k x,l[k]? = some x→b∈iY x.2.sets→L (i+k)=L' (i+k))→bn s.2 b=bn s'.2 b→bn (np L i l s).2 b=bn (np L' i l s').2 b
  | [],_,_,_,_,e=>e
  | x::l,i,s,s',h,e=>by
    simp only [np]
    refine QD l (i+1) (fun k y hy hd=>by have:=h (k+1) y (by simpa using hy) hd;rw [show i+1+k=i+(k+1) from by omega];exact this) ?_
    by_cases hd:b∈iY x.2.sets
    · have:=h 0 x (by simp) hd
      simp only [Nat.add_zero] at this
      rw [this]
      cases L' i with
      | true=>simp only [cond_true];exact pU (h:=s.2) (h':=s'.2) _ e
      | false=>exact e
    · cases L i<;>cases L' i<;>simp only [cond_true,cond_false,pV _ hd,e]
def db:List (Oper×pS)→List AV×bR→List AV×bR
  | [],s=>s
  | x::l,s=>db l (C5 s.1 x.1.dst x.2.v,cT x.2.sets s.2)
theorem Kt(l m:List (Oper×pS))(s:List AV×bR) :db (l++m) s=db m (db l s):=by
  induction l generalizing s with
  | nil=>rfl
  | cons x l ih=>simp only [List.cons_append,db,ih]
theorem JL:∀ (l:List (Oper×pS)) (i j:Nat) (s:List AV×bR),np (fun k=>decide (k<i+j)) i l s=db (l.take j) s
  | [],i,j,s=>by simp [np,db]
  | x::l,i,0,s=>by
    have:∀ (l:List (Oper×pS)) (i':Nat),i≤i'→∀ s,np (fun k=>decide (k<i+0)) i' l s=s:=by
      intro l
      induction l with
      | nil=>intro _ _ s;rfl
      | cons y l ih =>
        intro i' hi s
        simp only [np]
        have:decide (i'<i+0)=false:=by simp;omega
        rw [this];exact ih (i'+1) (by omega) s
    simp only [List.take_zero,db]
    exact this _ i (Nat.le_refl _) s
  | x::l,i,j+1,s=>by
    simp only [np,List.take_succ_cons,db]
    have h1:decide (i<i+(j+1))=true:=by simp
    rw [h1]
    simp only [cond_true]
    have:=JL l (i+1) j (C5 s.1 x.1.dst x.2.v,cT x.2.sets s.2)
    rw [show i+1+j=i+(j+1) from by omega] at this
    exact this
structure acF (ops:Array Oper) (l:List (Oper×pS)) (ms:List Nat):Prop where
  edge:∀ (j:Nat) (x:Oper×pS),l[j]? = some x→∀ e∈x.1.after,Region.binds .any e=true→e.on<j
  mask:∀ (j:Nat) (x:Oper×pS),l[j]? = some x→∃ m:Nat,ms[j]? = some m∧∀ i:Nat,m.testBit i=true→∃ e∈x.1.after,Region.binds .any e=true∧(e.on=i∨∃ m':Nat,ms[e.on]? = some m'∧m'.testBit i=true)
  pair:∀ (i j:Nat) (x y:Oper×pS),l[i]? = some x→l[j]? = some y→i<j→(∃ m:Nat,ms[j]? = some m∧m.testBit i=true)∨nB ops x.1 x.2 y.1 y.2=true
theorem Ku(ms:List Nat) :∀ (es:List Edge) (m0 i:Nat),(es.foldl (fun m e=>bif Region.binds .any e then m ||| (2^e.on ||| ms.getD e.on 0) else m) m0).testBit i=true →
    m0.testBit i=true∨∃ e∈es,Region.binds .any e=true∧(e.on=i∨(ms.getD e.on 0).testBit i=true)
  | [],m0,i,h=>.inl h
  | e::es,m0,i,h=>by
    simp only [List.foldl_cons] at h
    rcases Ku ms es _ i h with h | ⟨e',h1,h2,h3⟩
    · cases hb:Region.binds .any e with
      | false=>rw [hb] at h;exact .inl h
      | true =>
        rw [hb] at h
        simp only [cond_true,Nat.testBit_or,Bool.or_eq_true,Nat.testBit_two_pow,decide_eq_true_eq] at h
        rcases h with h | h | h
        · exact .inl h
        · exact .inr ⟨e,by simp,hb,.inl h⟩
        · exact .inr ⟨e,by simp,hb,.inr h⟩
    · exact .inr ⟨e',by simp [h1],h2,h3⟩
theorem Co{ops:Array Oper}{mask:Nat}{o':Oper}{r':pS} :∀ {l:List (Oper×pS)} {i:Nat},nC ops mask o' r' i l=true→∀ k x,l[k]? = some x→mask.testBit (i+k)=true∨nB ops x.1 x.2 o' r'=true
  | [],_,_,k,x,h=>by simp at h
  | y::l,i,h,0,x,hx=>by
    simp only [nC,Bool.and_eq_true,Bool.or_eq_true] at h
    simp at hx;subst hx;simpa using h.1
  | y::l,i,h,k+1,x,hx=>by
    simp only [nC,Bool.and_eq_true,Bool.or_eq_true] at h
    have:=Co h.2 k x (by simpa using hx)
    rw [show i+1+k=i+(k+1) from by omega] at this;exact this
theorem HX{ops:Array Oper} :∀ (l pre:List (Oper×pS)) (ms:List Nat),ms.length=pre.length→C8 ops pre ms l=true→acF ops pre ms→∃ ms',acF ops (pre++l) ms'
  | [],pre,ms,_,_,D=>⟨ms,by simpa using D⟩
  | x::l,pre,ms,hl,h,D=>by
    simp only [C8,Bool.and_eq_true] at h
    obtain ⟨h1,h2,h3⟩:=h
    have:=HX l (pre++[x]) (ms++[pT ms x.1]) (by simp [hl]) h3 ?_
    · simpa using this
    have old:∀ (j:Nat) (y:Oper×pS),(pre++[x])[j]? = some y→(j<pre.length∧pre[j]? = some y)∨(j=pre.length∧y=x):=by
      intro j y hy
      rw [List.getElem?_append] at hy
      split at hy
      · rename_i q;exact .inl ⟨q,hy⟩
      · rename_i q
        have:j-pre.length=0:=by
          rcases Nat.eq_zero_or_pos (j-pre.length) with r | r
          · exact r
          · rw [List.getElem?_eq_none (by simp;omega)] at hy;cases hy
        rw [this] at hy;simp at hy;exact .inr ⟨by omega,hy.symm⟩
    have msl:∀ (j m:Nat),ms[j]? = some m→(ms++[pT ms x.1])[j]? = some m:=by
      intro j m hm
      rw [List.getElem?_append_left (List.getElem?_eq_some_iff.1 hm).1];exact hm
    have msn:(ms++[pT ms x.1])[pre.length]? = some (pT ms x.1):=by
      rw [←hl,List.getElem?_append_right (Nat.le_refl _)];simp
    have hedge:∀ e∈x.1.after,Region.binds .any e=true→e.on<pre.length:=by
      intro e he hb
      have:=List.all_eq_true.1 h1 e (by simpa using he)
      rw [hb] at this
      simpa [Nat.blt_eq] using this
    refine ⟨fun j y hy=>?_,fun j y hy=>?_,fun i j a b ha hb hij=>?_⟩
    · rcases old j y hy with ⟨q,hy⟩ | ⟨rfl,rfl⟩
      · exact D.edge j y hy
      · exact hedge
    · rcases old j y hy with ⟨q,hy⟩ | ⟨rfl,rfl⟩
      · obtain ⟨m,k1,k2⟩:=D.mask j y hy
        refine ⟨m,msl j m k1,fun i hi=>?_⟩
        obtain ⟨e,e1,e2,e3⟩:=k2 i hi
        exact ⟨e,e1,e2,e3.imp id fun ⟨m',q1,q2⟩=>⟨m',msl _ m' q1,q2⟩⟩
      · refine ⟨_,msn,fun i hi=>?_⟩
        rcases Ku ms y.1.after.toList 0 i hi with q | ⟨e,e1,e2,e3⟩
        · simp at q
        · refine ⟨e,by simpa using e1,e2,e3.imp id fun q=>?_⟩
          rw [List.getD_eq_getElem?_getD] at q
          cases hm:ms[e.on]? with
          | none=>rw [hm] at q;simp at q
          | some m'=>rw [hm] at q;exact ⟨m',msl _ m' hm,q⟩
    · rcases old j b hb with ⟨q,hb⟩ | ⟨rfl,rfl⟩
      · rcases old i a ha with ⟨q',ha⟩ | ⟨rfl,rfl⟩
        · exact (D.pair i j a b ha hb hij).imp (fun ⟨m,k1,k2⟩=>⟨m,msl j m k1,k2⟩) id
        · omega
      · rcases old i a ha with ⟨q',ha⟩ | ⟨rfl,rfl⟩
        · have:=Co h2 i a ha
          rw [Nat.zero_add] at this
          exact this.imp (fun k=>⟨_,msn,k⟩) id
        · omega
def Kv(m i:Nat) :Bool:=Nat.beq (Nat.land (Nat.shiftRight m i) 1) 1
theorem Bp(m i:Nat) :Kv m i=m.testBit i:=by
  have h:Nat.land (Nat.shiftRight m i) 1=(m >>> i)%2:=Nat.and_one_is_mod _
  unfold Kv
  rw [h,Nat.testBit_eq_decide_div_mod_eq,Nat.shiftRight_eq_div_pow]
  cases hq:Nat.beq (m/2^i%2) 1 with
  | true=>have:=Nat.eq_of_beq_eq_true hq;simp [this]
  | false => have : ¬ m / 2 ^ i % 2 = 1 := fun e => by rw [e] at hq; cases hq
             simp [this]
def C9:List Nat→Nat
  | []=>0
  | t::l=>Nat.lor (Nat.shiftLeft 1 t) (C9 l)
theorem Kw:∀ {l:List Nat} {t:Nat},t∈l→Kv (C9 l) t=true
  | s::l,t,h=>by
    rw [Bp]
    show ((1 <<< s) ||| C9 l).testBit t=true
    rw [Nat.testBit_or,Bool.or_eq_true]
    rcases List.mem_cons.1 h with rfl | h
    · left;rw [Nat.one_shiftLeft,Nat.testBit_two_pow];simp
    · right;rw [←Bp];exact Kw h
def aad(d:Option Nat)(m:Nat) :Bool:=match d with | none=>true | some d=>!Kv m d
theorem Kx{d:Option Nat}{l:List Nat}(h:aad d (C9 l)=true) :C7 d.toList l=true:=by
  cases d with
  | none=>rfl
  | some d =>
    simp only [aad,Bool.not_eq_true'] at h
    simp only [Option.toList,C7,Bool.and_true,Bool.not_eq_true']
    cases hm:XD d l with
    | false=>rfl
    | true=>rw [Kw (Ks.1 hm)] at h;cases h
def zP(r r':pS) :Bool:=C7 (iY r.sets) (r'.reads++iY r'.sets)&&C7 (iY r'.sets) (r.reads++iY r.sets)
def JM(mask:Nat)(d':Option Nat)(m':Nat) :Nat→List (Option Nat×Nat)→Bool
  | _,[]=>true
  | i,x::l=>(Kv mask i||(aad x.1 m'&&aad d' x.2))&&JM mask d' m' (i+1) l
def QE(ops:Array Oper)(o:Oper) :Option Nat×Nat:=(o.dst,C9 (ml ops o))
def QF(ops:Array Oper) :List Oper→List Nat→List Oper→Bool
  | _,_,[]=>true
  | pre,ms,o::l=>o.after.toList.all (fun e=>!Region.binds .any e||Nat.blt e.on pre.length)&&(JM (pT ms o) o.dst (C9 (ml ops o)) 0 (pre.map (QE ops))&&QF ops (pre++[o]) (ms++[pT ms o]) l)
def Ky:List Oper→List Nat→List Nat
  | [],_=>[]
  | o::l,ms=>pT ms o::Ky l (ms++[pT ms o])
def Kz(mask:Nat)(r':pS) :Nat→List pS→Bool
  | _,[]=>true
  | i,r::l=>(Kv mask i||zP r r')&&Kz mask r' (i+1) l
def Gg(r:pS) :Bool:=match r.sets,r.reads with | [],[]=>true | _,_=>false
def JN:List pS→Bool
  | []=>true
  | r::l=>match r.sets with | []=>JN l | _=>false
def TC:List pS→List Nat→List pS→Bool
  | _,_,[]=>true
  | pre,m::ms,r::l=>(Gg r||Kz m r 0 pre)&&TC (pre++[r]) ms l
  | _,[],_=>false
def Em(ops:Array Oper)(rs:List pS) :Bool :=
  QF ops [] [] ops.toList&&(JN rs||TC [] (Ky ops.toList []) rs)
theorem TD:∀ (l:List Nat),C7 l []=true
  | []=>rfl
  | x::l=>by simp [C7,XD,TD l]
theorem Gh{r r':pS}(h:Gg r'=true) :zP r r'=true:=by
  unfold Gg at h
  split at h
  · rename_i h1 h2;simp [zP,h1,h2,iY,C7,TD]
  · cases h
theorem HY:∀ {l:List pS},JN l=true→∀ r∈l,r.sets=[]
  | x::l,h,r,hr=>by
    simp only [JN] at h
    split at h
    · rename_i hx
      rcases List.mem_cons.1 hr with rfl | hr
      · exact hx
      · exact HY h r hr
    · cases h
theorem KA{r r':pS}(h:r.sets=[])(h':r'.sets=[]) :zP r r'=true:=by simp [zP,h,h',iY,C7]
theorem HZ{ops:Array Oper}{mask:Nat}{o':Oper}{r':pS} :∀ {l:List Oper} {rs:List pS} {i:Nat},JM mask o'.dst (C9 (ml ops o')) i (l.map (QE ops))=true→(∀ k r,rs[k]? = some r→Kv mask (i+k)=true∨zP r r'=true)→nC ops mask o' r' i (l.zip rs)=true
  | [],_,_,_,_=>by simp [nC]
  | _::_,[],_,_,_=>by simp [nC]
  | o::l,r::rs,i,h,hd=>by
    simp only [List.map_cons,JM,Bool.and_eq_true,Bool.or_eq_true,QE] at h
    simp only [List.zip_cons_cons,nC,Bool.and_eq_true,Bool.or_eq_true]
    refine ⟨?_,HZ h.2 fun k r hk=>?_⟩
    · have:=hd 0 r rfl
      rw [Nat.add_zero] at this
      rcases this with q | q
      · left;rw [←Bp];exact q
      · rcases h.1 with q' | q'
        · left;rw [←Bp];exact q'
        · right
          simp only [zP,Bool.and_eq_true] at q
          simp only [nB,Bool.and_eq_true]
          exact ⟨Kx q'.1,Kx q'.2,q.1,q.2⟩
    · have:=hd (k+1) r (by simpa using hk)
      rwa [show i+(k+1)=i+1+k from by omega] at this
theorem KB{mask:Nat}{r':pS} :∀ {l:List pS} {i:Nat},Kz mask r' i l=true→∀ k r,l[k]? = some r→Kv mask (i+k)=true∨zP r r'=true
  | [],_,_,k,r,h=>by simp at h
  | x::l,i,h,0,r,hr=>by
    simp only [Kz,Bool.and_eq_true,Bool.or_eq_true] at h
    simp at hr;subst hr;simpa using h.1
  | x::l,i,h,k+1,r,hr=>by
    simp only [Kz,Bool.and_eq_true,Bool.or_eq_true] at h
    have:=KB h.2 k r (by simpa using hr)
    rwa [show i+1+k=i+(k+1) from by omega] at this
theorem OY{ops:Array Oper} :∀ (l pre:List Oper) (rs prs:List pS) (ms:List Nat),pre.length=prs.length→l.length=rs.length→QF ops pre ms l=true →
    ((∀ r∈prs++rs,r.sets=[])∨TC prs (Ky l ms) rs=true)→C8 ops (pre.zip prs) ms (l.zip rs)=true
  | [],_,_,_,_,_,_,_,_=>by simp [C8]
  | _::_,_,[],_,_,_,h,_,_=>by simp at h
  | o::l,pre,r::rs,prs,ms,hp,hl,hs,hd=>by
    simp only [QF,Bool.and_eq_true] at hs
    obtain ⟨h1,h2,h3⟩:=hs
    simp only [List.zip_cons_cons,C8,Bool.and_eq_true]
    have hz:(pre.zip prs).length=pre.length:=by simp [hp]
    have hap:(pre.zip prs)++[(o,r)]=(pre++[o]).zip (prs++[r]):=by rw [List.zip_append hp];rfl
    refine ⟨by rw [hz];exact h1,HZ h2 fun k x hk=>?_,?_⟩
    · rcases hd with hd | hd
      · exact .inr (KA (hd x (by simp [List.mem_of_getElem? hk])) (hd r (by simp)))
      · simp only [Ky,TC,Bool.and_eq_true,Bool.or_eq_true] at hd
        rcases hd.1 with q | q
        · exact .inr (Gh q)
        · exact KB q k x hk
    · rw [hap]
      refine OY l (pre++[o]) rs (prs++[r]) _ (by simp [hp]) (by simpa using hl) h3 ?_
      rcases hd with hd | hd
      · left;simpa using hd
      · right
        simp only [Ky,TC,Bool.and_eq_true] at hd
        exact hd.2
theorem TE{ops:Array Oper}{rs:List pS}(hl:rs.length=ops.toList.length)(h:Em ops rs=true) :C8 ops [] [] (ops.toList.zip rs)=true:=by
  simp only [Em,Bool.and_eq_true,Bool.or_eq_true] at h
  exact OY ops.toList [] rs [] [] rfl hl.symm h.1 (h.2.imp (fun q=>by simpa using HY q) id)
theorem XE{l:List Operand}{t:Nat}(h:Operand.tmp t∈l) :t∈XC l:=by
  simp only [XC,List.mem_filterMap];exact ⟨_,h,rfl⟩
theorem TF{C:tL}{run:eC}{ops:Array Oper}{n0 i:Nat}{o:Oper}{T T':List AV}{h h':bR}{p p':dY}{r:pS}{obs:List Bool}(hr:Ei C run ops n0 i o T h p=some (r,obs,p')) 
    (hT:∀ t∈ml ops o,T'[t]? = T[t]?) (hh:∀ b∈r.reads,bn h' b=bn h b):Ei C run ops n0 i o T' h' p=some (r,obs,p'):=by
  have hw:wF ops o T'=wF ops o T:=by
    unfold wF
    simp only [PW]
    cases hg:o.guard with
    | none=>rfl
    | some x =>
      obtain ⟨j,want⟩:=x
      simp only
      cases hs:Bm ops j with
      | none=>rfl
      | some d=>simp only;rw [hT d (by simp [ml,hg,hs])]
  unfold Ei at hr ⊢
  simp only [acE] at hr ⊢
  rw [hw]
  split at hr
  · cases hr
  · exact hr
  · split at hr
    · cases hr
    · rename_i r' hop
      have:Xw C run (W6 T') (bn h') (n0+i*qp) p o.op=some r':=by
        refine abn hop (fun x hx=>?_) (fun b hb=>?_)
        · cases x with
          | tmp t=>simp only [W6,PV];rw [hT t (by simp only [ml,List.mem_append];exact .inr (.inl (XE (by simpa using hx))))]
          | _=>rfl
        · apply hh
          split at hr
          · cases hr
          · simp only [Option.some.injEq,Prod.mk.injEq] at hr;rw [←hr.1];exact hb
      simp only [this]
      exact hr
def KC(C:tL)(run:eC)(ops:Array Oper)(n0:Nat) :Nat→List Oper→List AV→bR→dY→Option (List pS×List AV×bR×List Bool×dY)
  | _,[],T,h,p=>some ([],T,h,[],p)
  | i,o::l,T,h,p =>
    match Ei C run ops n0 i o T h p with
    | none=>none
    | some (r,obs,p') =>
      match KC C run ops n0 (i+1) l (C5 T o.dst r.v) (cT r.sets h) p' with
      | none=>none
      | some (rs,T',h',obs',p'')=>some (r::rs,T',h',obs++obs',p'')
theorem H0{C:tL}{run:eC}{ops:Array Oper}{n0:Nat} :∀ (l:List Oper) (i:Nat) {T T':List AV} {h h':bR} {p p':dY} {obs:List Bool} {rs:List pS},KC C run ops n0 i l T h p=some (rs,T',h',obs,p')→aG obs →
    rs.length=l.length∧db (l.zip rs) (T,h)=(T',h')∧∀ (j:Nat) (o:Oper),l[j]? = some o→∃ r obs' q q',rs[j]? = some r∧aG obs' ∧
      Ei C run ops n0 (i+j) o (db ((l.zip rs).take j) (T,h)).1 (db ((l.zip rs).take j) (T,h)).2 q=some (r,obs',q')
  | [],i,T,T',h,h',p,p',obs,rs,hr,_=>by
    simp only [KC,Option.some.injEq,Prod.mk.injEq] at hr;obtain ⟨rfl,rfl,rfl,rfl,rfl⟩:=hr
    exact ⟨rfl,rfl,fun j o h=>by simp at h⟩
  | o::l,i,T,T',h,h',p,p',obs,rs,hr,ho=>by
    simp only [KC] at hr
    split at hr
    case h_1=>cases hr
    rename_i r obs1 p1 h1
    split at hr
    case h_1=>cases hr
    rename_i rs2 T2 h2 obs2 p2 h3
    simp only [Option.some.injEq,Prod.mk.injEq] at hr;obtain ⟨rfl,rfl,rfl,rfl,rfl⟩:=hr
    rw [bt] at ho
    obtain ⟨a1,a2,a3⟩:=H0 l (i+1) h3 ho.2
    refine ⟨by simp [a1],by simpa [db] using a2,fun j o' hj=>?_⟩
    cases j with
    | zero=>simp at hj;subst hj;exact ⟨r,obs1,p,p1,by simp,ho.1,by simpa [db] using h1⟩
    | succ j =>
      obtain ⟨r',ob,q,q',b1,b2,b3⟩:=a3 j o' (by simpa using hj)
      refine ⟨r',ob,q,q',by simpa using b1,b2,?_⟩
      rw [show i+(j+1)=i+1+j from by omega]
      simpa [db] using b3
theorem OZ{p q:Nat→Bool} :∀ {l:List Nat} {j:Nat},j∈l→p j=true→q j=false→(∀ i,q i=true→p i=true)→l.countP q<l.countP p
  | [],_,h,_,_,_=>by cases h
  | x::l,j,h,hp,hq,hi=>by
    have mono:∀ l:List Nat,l.countP q≤l.countP p:=fun l=>List.countP_mono_left fun x _=>hi x
    simp only [List.countP_cons]
    rcases List.mem_cons.1 h with rfl | h
    · rw [hp,hq];have:=mono l;simp;omega
    · have:=OZ h hp hq hi
      by_cases hx:q x=true
      · rw [hx,hi x hx];omega
      · have hq':q x=false:=by simpa using hx
        rw [hq'];simp only [Bool.false_eq_true,if_false];split<;>omega
theorem aeb{i j y:Nat}(h1:i*qp≤y)(h2:y<i*qp+qp)(h3:j*qp≤y)(h4:y<j*qp+qp) :i=j:=by
  have hS:0<qp:=by decide
  have a:y/qp=i:=by rw [Nat.div_eq_iff hS];omega
  have b:y/qp=j:=by rw [Nat.div_eq_iff hS];omega
  omega
theorem acG{C:tL}(hC:C.Ok){run:eC}(hrun:Kk C.P run){ops:Array Oper}{n0:Nat}{T0:List AV}{h0:bR}{rs:List pS}{ms:List Nat}(D:acF ops (ops.toList.zip rs) ms)(hlen:rs.length=ops.size) 
    (each:∀ (j:Nat) (o:Oper),ops.toList[j]? = some o→∃ r obs' q q',rs[j]? = some r∧aG obs' ∧
      Ei C run ops n0 j o (db ((ops.toList.zip rs).take j) (T0,h0)).1 (db ((ops.toList.zip rs).take j) (T0,h0)).2 q=some (r,obs',q'))
    {ro:Option Nat} {nn:Nat} {Q:Exit→Act→World→Prop}:∀ (fuel:Nat) (listed:Array Bool),listed.size=ops.size→(∀ (j:Nat) (o:Oper),ops[j]? = some o→listed.getD j false=true→∀ e∈o.after,Region.binds .any e=true→listed.getD e.on false=true) →
      (List.range ops.size).countP (fun i=>!listed.getD i false)≤fuel→∀ {ρ:ae} {w:World} {a:Act},HR ρ w (np (fun i=>listed.getD i false) 0 (ops.toList.zip rs) (T0,h0)).2 (n0+ops.size*qp) →
      (∀ b,ρ.ok b→b<n0∨∃ i,listed.getD i false=true∧n0+i*qp≤b∧b<n0+i*qp+qp)→cU ρ w (np (fun i=>listed.getD i false) 0 (ops.toList.zip rs) (T0,h0)).1 a.tmps.toList →
      (∀ ρ' w' a',jY ρ ρ' w→gT ρ.live w w'→HR ρ' w' (db (ops.toList.zip rs) (T0,h0)).2 (n0+ops.size*qp)→a'.defers=a.defers→cU ρ' w' (db (ops.toList.zip rs) (T0,h0)).1 a'.tmps.toList→(∀ b,ρ'.ok b→ρ.ok b∨n0≤b)→Q .normal a' w') →
      wpAnyIn (FW ro) nn C.P .any ops Q fuel listed a w:=by
  have hzl:(ops.toList.zip rs).length=ops.size:=by simp [hlen]
  have zget:∀ (j:Nat) (o:Oper) (r:pS),ops[j]? = some o→rs[j]? = some r→(ops.toList.zip rs)[j]? = some (o,r):=by
    intro j o r h1 h2
    rw [List.getElem?_zip_eq_some];exact ⟨by simpa using h1,h2⟩
  have zinv:∀ (j:Nat) (x:Oper×pS),(ops.toList.zip rs)[j]? = some x→ops[j]? = some x.1∧rs[j]? = some x.2:=by
    intro j x hx
    have:=List.getElem?_zip_eq_some.1 (show (ops.toList.zip rs)[j]? = some (x.1,x.2) from hx)
    exact ⟨by simpa using this.1,this.2⟩

  have allL:∀ (listed:Array Bool),listed.size=ops.size→(∀ i,i<ops.size→listed.getD i false=true)→np (fun i=>listed.getD i false) 0 (ops.toList.zip rs) (T0,h0)=db (ops.toList.zip rs) (T0,h0):=by
    intro listed hs hall
    have:∀ (l:List (Oper×pS)) (i:Nat) (s:List AV×bR),i+l.length≤ops.size→np (fun i=>listed.getD i false) i l s=db l s:=by
      intro l
      induction l with
      | nil=>intro _ _ _;rfl
      | cons x l ih =>
        intro i s hi
        simp only [List.length_cons] at hi
        simp only [np,db]
        rw [hall i (by omega)]
        exact ih (i+1) _ (by omega)
    exact this _ 0 _ (by rw [hzl];omega)

  have down:∀ (listed:Array Bool),(∀ (j:Nat) (o:Oper),ops[j]? = some o→listed.getD j false=true→∀ e∈o.after,Region.binds .any e=true→listed.getD e.on false=true) →
      ∀ (j:Nat) (o:Oper),ops[j]? = some o→(∀ e∈o.after,Region.binds .any e=true→listed.getD e.on false=true)→∀ (i m:Nat),ms[j]? = some m→m.testBit i=true→listed.getD i false=true:=by
    intro listed hcl j
    induction j using Nat.strongRecOn with
    | _ j ih =>
      intro o ho hpre i m hm hbit
      have hlt:j<ops.size:=(Array.getElem?_eq_some_iff.1 ho).1
      obtain ⟨r,hr⟩:∃ r,rs[j]? = some r:=⟨rs[j]'(by omega),List.getElem?_eq_getElem (by omega)⟩
      have hz:=zget j o r ho hr
      obtain ⟨m',k1,k2⟩:=D.mask j _ hz
      rw [hm] at k1;cases k1
      obtain ⟨e,e1,e2,e3⟩:=k2 i hbit
      have hL:=hpre e e1 e2
      rcases e3 with rfl | ⟨m'',q1,q2⟩
      · exact hL
      · have hej:=D.edge j _ hz e e1 e2
        have hon:e.on<ops.size:=by omega
        exact ih e.on hej _ (Array.getElem?_eq_getElem hon) (hcl e.on _ (Array.getElem?_eq_getElem hon) hL) i m'' q1 q2
  intro fuel
  induction fuel with
  | zero =>
    intro listed hs hcl hcnt ρ w a hh hok hT hQ
    have hall:∀ i,i<ops.size→listed.getD i false=true:=by
      intro i hi
      have h0:=List.countP_eq_zero.1 (Nat.le_zero.1 hcnt) i (List.mem_range.2 hi)
      simpa using h0
    simp only [wpAnyIn]
    refine ⟨?_,?_⟩
    · cases hr:Region.ready .any ops listed with
      | nil=>rfl
      | cons x xs =>
        have hx:x∈Region.ready .any ops listed:=by rw [hr];simp
        obtain ⟨k1,o,k2,_⟩:=mem_ready.1 hx
        have hlt:x<ops.size:=(Array.getElem?_eq_some_iff.1 k2).1
        have:=hall x hlt
        rw [Array.getD_eq_getD_getElem?,Array.getElem?_eq_getElem (by omega)] at this k1
        simp only [Option.getD_some] at this k1
        rw [this] at k1;cases k1
    · rw [allL listed hs hall] at hh hT
      exact hQ ρ w a (jY.refl _ _) (gT.refl _ _) hh rfl hT (fun b q=>.inl q)
  | succ fuel ih =>
    intro listed hs hcl hcnt ρ w a hh hok hT hQ
    simp only [wpAnyIn]
    have sameD:∀ j,j<ops.size→listed.getD j true=listed.getD j false:=by
      intro j hj
      rw [Array.getD_eq_getD_getElem?,Array.getD_eq_getD_getElem?,Array.getElem?_eq_getElem (by omega)];rfl
    refine ⟨fun hr=>?_,fun j hj=>?_⟩
    · have hall:∀ i,i<ops.size→listed.getD i false=true:=by
        intro i
        induction i using Nat.strongRecOn with
        | _ i ihi =>
          intro hi
          cases hl:listed.getD i false with
          | true=>rfl
          | false =>
            have ho:=Array.getElem?_eq_getElem hi
            obtain ⟨r,hrr⟩:∃ r,rs[i]? = some r:=⟨rs[i]'(by omega),List.getElem?_eq_getElem (by omega)⟩
            have hz:=zget i _ r ho hrr
            have:i∈Region.ready .any ops listed:=mem_ready.2 ⟨by rw [sameD i hi];exact hl,_,ho,fun e he hb=>ihi e.on (D.edge i _ hz e he hb) (by have:=D.edge i _ hz e he hb;omega)⟩
            rw [hr] at this;cases this
      rw [allL listed hs hall] at hh hT
      exact hQ ρ w a (jY.refl _ _) (gT.refl _ _) hh rfl hT (fun b q=>.inl q)
    · obtain ⟨k1,o,ho,hpre⟩:=mem_ready.1 hj
      have hlt:j<ops.size:=(Array.getElem?_eq_some_iff.1 ho).1
      rw [sameD j hlt] at k1
      obtain ⟨r,obs',q,q',hr,hob,hone⟩:=each j o (by simpa using ho)
      have hz:=zget j o r ho hr

      have agree:∀ (i:Nat) (x:Oper×pS),(ops.toList.zip rs)[i]? = some x→i≠j→nB ops x.1 x.2 o r=false→nB ops o r x.1 x.2=false→listed.getD i false=decide (i<j):=by
        intro i x hx hne n1 n2
        have hxi:=zinv i x hx
        rcases Nat.lt_or_gt_of_ne hne with hij | hij
        · rcases D.pair i j x (o,r) hx hz hij with ⟨m,hm,hb⟩ | hap
          · rw [down listed hcl j o ho hpre i m hm hb];simp [hij]
          · simp only at hap;rw [n1] at hap;cases hap
        · rcases D.pair j i (o,r) x hz hx hij with ⟨m,hm,hb⟩ | hap
          · have : ¬ i<j:=by omega
            simp only [this,decide_false]
            cases hl:listed.getD i false with
            | false=>rfl
            | true =>
              have:=down listed hcl i x.1 hxi.1 (hcl i x.1 hxi.1 hl) j m hm hb
              rw [k1] at this;cases this
          · simp only at hap;rw [n2] at hap;cases hap
      have napT:∀ (x:Oper×pS) (t:Nat),x.1.dst=some t→t∈ml ops o→nB ops x.1 x.2 o r=false∧nB ops o r x.1 x.2=false:=by
        intro x t hdst ht
        constructor
        · cases hap:nB ops x.1 x.2 o r with
          | false=>rfl
          | true=>simp only [nB,Bool.and_eq_true] at hap;exact (Bo hap.1 t (by simp [hdst]) ht).elim
        · cases hap:nB ops o r x.1 x.2 with
          | false=>rfl
          | true=>simp only [nB,Bool.and_eq_true] at hap;exact (Bo hap.2.1 t (by simp [hdst]) ht).elim
      have napH:∀ (x:Oper×pS) (b:Nat),b∈iY x.2.sets→b∈r.reads++iY r.sets→nB ops x.1 x.2 o r=false∧nB ops o r x.1 x.2=false:=by
        intro x b hx hb
        constructor
        · cases hap:nB ops x.1 x.2 o r with
          | false=>rfl
          | true=>simp only [nB,Bool.and_eq_true] at hap;exact (Bo hap.2.2.1 b hx hb).elim
        · cases hap:nB ops o r x.1 x.2 with
          | false=>rfl
          | true=>simp only [nB,Bool.and_eq_true] at hap;exact (Bo hap.2.2.2 b hx hb).elim
      have eqT:∀ t∈ml ops o,(np (fun i=>listed.getD i false) 0 (ops.toList.zip rs) (T0,h0)).1[t]? = (db ((ops.toList.zip rs).take j) (T0,h0)).1[t]?:=by
        intro t ht
        have:=JL (ops.toList.zip rs) 0 j (T0,h0)
        rw [←this]
        refine QC _ 0 (fun k x hx hdst=>?_) rfl
        rw [Nat.zero_add,Nat.zero_add]
        by_cases hkj:k=j
        · subst hkj;rw [k1];simp
        · obtain ⟨n1,n2⟩:=napT x t hdst ht;exact agree k x hx hkj n1 n2
      have eqH:∀ b∈r.reads++iY r.sets,bn (np (fun i=>listed.getD i false) 0 (ops.toList.zip rs) (T0,h0)).2 b=bn (db ((ops.toList.zip rs).take j) (T0,h0)).2 b:=by
        intro b hb
        have:=JL (ops.toList.zip rs) 0 j (T0,h0)
        rw [←this]
        refine QD _ 0 (fun k x hx eW=>?_) rfl
        rw [Nat.zero_add,Nat.zero_add]
        by_cases hkj:k=j
        · subst hkj;rw [k1];simp
        · obtain ⟨n1,n2⟩:=napH x b eW hb;exact agree k x hx hkj n1 n2
      have hloc:=TF hone eqT (fun b hb=>eqH b (by simp [hb]))

      have L'eq:∀ i,(listed.setIfInBounds j true).getD i false=if i=j then true else listed.getD i false:=by
        intro i
        by_cases hij:i=j
        · subst hij;rw [if_pos rfl,Array.getD_eq_getD_getElem?];simp [hs,hlt]
        · rw [if_neg hij];exact getD_set_ne false (fun e=>hij e.symm)
      have step1:=JL (ops.toList.zip rs) 0 (j+1) (T0,h0)
      have hsplit:db ((ops.toList.zip rs).take (j+1)) (T0,h0)=(C5 (db ((ops.toList.zip rs).take j) (T0,h0)).1 o.dst r.v,cT r.sets (db ((ops.toList.zip rs).take j) (T0,h0)).2):=by
        have hjl:j<(ops.toList.zip rs).length:=by rw [hzl];exact hlt
        have:(ops.toList.zip rs).take (j+1)=(ops.toList.zip rs).take j++[(o,r)]:=by
          rw [List.take_succ_eq_append_getElem hjl]
          have:=List.getElem?_eq_getElem hjl
          rw [hz] at this
          rw [←Option.some.inj this]
        rw [this,Kt];rfl
      have newT:∀ t:Nat,(C5 (np (fun i=>listed.getD i false) 0 (ops.toList.zip rs) (T0,h0)).1 o.dst r.v)[t]? = (np (fun i=>(listed.setIfInBounds j true).getD i false) 0 (ops.toList.zip rs) (T0,h0)).1[t]?:=by
        intro t
        rw [El]
        by_cases hdst:o.dst=some t
        · rw [if_pos hdst]
          have e1:=eqT t (by simp [ml,hdst])
          rw [e1]
          have e2:(np (fun i=>(listed.setIfInBounds j true).getD i false) 0 (ops.toList.zip rs) (T0,h0)).1[t]? = (db ((ops.toList.zip rs).take (j+1)) (T0,h0)).1[t]?:=by
            rw [←step1]
            refine QC _ 0 (fun k x hx hd2=>?_) rfl
            rw [Nat.zero_add,Nat.zero_add,L'eq]
            by_cases hkj:k=j
            · subst hkj;simp
            · rw [if_neg hkj]
              obtain ⟨n1,n2⟩:=napT x t hd2 (by simp [ml,hdst])
              rw [agree k x hx hkj n1 n2]
              by_cases q:k<j<;>simp [q]<;>omega
          rw [e2,hsplit,El,if_pos hdst]
        · rw [if_neg hdst]
          refine QC _ 0 (fun k x hx hd2=>?_) rfl
          rw [Nat.zero_add,L'eq]
          by_cases hkj:k=j
          · subst hkj;rw [hz] at hx;cases hx;exact absurd hd2 hdst
          · rw [if_neg hkj]
      have newH:∀ b:Nat,bn (np (fun i=>(listed.setIfInBounds j true).getD i false) 0 (ops.toList.zip rs) (T0,h0)).2 b=bn (cT r.sets (np (fun i=>listed.getD i false) 0 (ops.toList.zip rs) (T0,h0)).2) b:=by
        intro b
        by_cases hb:b∈iY r.sets
        · rw [pU (h:=(np (fun i=>listed.getD i false) 0 (ops.toList.zip rs) (T0,h0)).2) (h':=(db ((ops.toList.zip rs).take j) (T0,h0)).2) r.sets (eqH b (by simp [hb]))]
          have e2:bn (np (fun i=>(listed.setIfInBounds j true).getD i false) 0 (ops.toList.zip rs) (T0,h0)).2 b=bn (db ((ops.toList.zip rs).take (j+1)) (T0,h0)).2 b:=by
            rw [←step1]
            refine QD _ 0 (fun k x hx hd2=>?_) rfl
            rw [Nat.zero_add,Nat.zero_add,L'eq]
            by_cases hkj:k=j
            · subst hkj;simp
            · rw [if_neg hkj]
              obtain ⟨n1,n2⟩:=napH x b hd2 (by simp [hb])
              rw [agree k x hx hkj n1 n2]
              by_cases q:k<j<;>simp [q]<;>omega
          rw [e2,hsplit]
        · rw [pV _ hb]
          refine QD _ 0 (fun k x hx hd2=>?_) rfl
          rw [Nat.zero_add,L'eq]
          by_cases hkj:k=j
          · subst hkj;rw [hz] at hx;cases hx;exact absurd hd2 hb
          · rw [if_neg hkj]
      have hS:j*qp+qp≤ops.size*qp:=by rw [←Nat.succ_mul];exact Nat.mul_le_mul_right _ hlt
      refine HW hC hrun ho hloc hob hh (fun x h1 h2 hbad=>?_) (by omega) hT ?_
      · rcases hok _ hbad with q | ⟨i,q1,q2,q3⟩
        · omega
        · have:i=j:=aeb (y:=x-n0) (by omega) (by omega) (by omega) (by omega)
          subst this;rw [k1] at q1;cases q1
      intro ρ' w' a' E W hh' hd' hT' hok'
      have hlist:C5 (np (fun i=>listed.getD i false) 0 (ops.toList.zip rs) (T0,h0)).1 o.dst r.v=(np (fun i=>(listed.setIfInBounds j true).getD i false) 0 (ops.toList.zip rs) (T0,h0)).1:=List.ext_getElem? newT
      rw [hlist] at hT'
      refine ih (listed.setIfInBounds j true) (by simpa using hs) (fun i x hx hl e he hb=>?_) ?_ (hh'.congr newH) (fun b hb=>?_) hT' ?_
      · rw [L'eq] at hl ⊢
        by_cases hij:i=j
        · subst hij
          rw [ho] at hx;cases hx
          split
          · rfl
          · exact hpre e he hb
        · rw [if_neg hij] at hl
          split
          · rfl
          · exact hcl i x hx hl e he hb
      · have:=OZ (l:=List.range ops.size) (j:=j) (p:=fun i=>!listed.getD i false) (q:=fun i=>!(listed.setIfInBounds j true).getD i false) (List.mem_range.2 hlt) (by simp only [k1];rfl) (by simp only [L'eq,if_true];rfl)
          (fun i hi=>by
            simp only [L'eq] at hi ⊢
            split at hi
            · cases hi
            · exact hi)
        omega
      · rcases hok' b hb with q | q
        · rcases hok b q with q | ⟨i,q1,q2⟩
          · exact .inl q
          · refine .inr ⟨i,?_,q2⟩
            rw [L'eq];split
            · rfl
            · exact q1
        · exact .inr ⟨j,by rw [L'eq,if_pos rfl],q⟩
      · intro ρ'' w'' a'' E' W' hh'' hd'' hT'' hb''
        exact hQ ρ'' w'' a'' (E.trans E' W.size) (W.trans W' (fun x hx q=>E.new x hx q)) hh'' (hd''.trans hd') hT'' (fun b q=>by
          rcases hb'' b q with q | q
          · rcases hok' b q with q | q
            · exact .inl q
            · exact .inr (by omega)
          · exact .inr q)
theorem uX{d:aI}(h:d.kept=true) :d.foreign=true:=by
  cases d<;>first | rfl | exact gj h
mutual
def O0 (g:Nat→Option aI):Nat→AV→AV
  | 0,_=>.any
  | n+1,v =>
    match v with
    | .ptr b w i j=>match g b with
      | some d=>let d':=zQ g n d;bif d'.kept then .iptr .free d' w i j else .any
      | none=>.any
    | .sl b w es i len _=>match g b with
      | some d=>let d':=zQ g n d;bif d'.kept then .imm .free d' w es i len else .any
      | none=>.any
    | .fn f l1 l2=>.fn f (KD g n l1) (KD g n l2)
    | .agg l=>.agg (KD g n l)
    | .tup l=>.tup (KD g n l)
    | .iface t v=>.iface t (O0 g n v)
    | .yld _=>.any
    | v=>v
def KD (g:Nat→Option aI):Nat→List AV→List AV
  | 0,l=>l.map fun _=>.any
  | n+1,l =>
    match l with
    | []=>[]
    | v::l=>O0 g n v::KD g n l
def zQ (g:Nat→Option aI):Nat→aI→aI
  | 0,_=>.vs []
  | n+1,d =>
    match d with
    | .vs l=>.vs (KD g n l)
    | d=>d
end
theorem KE(g:Nat→Option aI)(n:Nat)(d:aI)(h:d.recKept) :(zQ g n d).recKept:=by
  cases n with
  | zero=>trivial
  | succ n=>cases d<;>first | exact h | trivial
structure abo (ρ τ:ae):Prop where
  out:τ.out=ρ.out
  live:∀ bl,τ.live bl→ρ.live bl
theorem abo.avoid{ρ τ:ae}(L:abo ρ τ){l:Lv}{bl:Nat}(h:ρ.avoid l bl) :τ.avoid l bl:=by
  refine ws (d:=0) (fun j _ q=>?_) h
  cases j with
  | zero=>exact L.live bl q
  | succ j=>simp only [Nat.add_zero,ae.own] at q ⊢;rw [L.out] at q;exact q
theorem eG{ρ τ:ae}(L:abo ρ τ){w:World}{v:AV}{u:Value}(h:VR ρ w v u) :v.foreign=true→VR τ w v u:=by
  induction h using VR.rec (motive_2:=fun l c _=>bU l=true→cU τ w l c) with
  | int k n=>exact fun _=>.int k n
  | bool kn b=>exact fun _=>.bool kn b
  | flt ex x y h=>exact fun _=>.flt ex x y h
  | str s=>exact fun _=>.str s
  | nptr=>exact fun _=>.nptr
  | ptr b k i j hb=>intro hk;simp [AV.foreign] at hk
  | iptr bw d k i j bl o u ha hb hc hv hr hk hg ih=>exact fun _=>.iptr bw d k i j bl o u (L.avoid ha) hb hc (fun x v hx=>ih x v hx (bd hr hg x v hx)) hr hk hg
  | nsl=>exact fun _=>.nsl
  | esl a=>exact fun _=>.esl a
  | zsl a c=>exact fun _=>.zsl a c
  | nan n h=>exact fun _=>.nan n h
  | sl b k es i len cap cap' hb hcap hl c t hh hs=>intro hk;simp [AV.foreign] at hk
  | slEnd b k es i a=>intro hk;simp [AV.foreign] at hk
  | imm bw d k es i len cap bl o u ha hb hc hv hl hr hk hg ih=>exact fun _=>.imm bw d k es i len cap bl o u (L.avoid ha) hb hc (fun x v hx=>ih x v hx (bd hr hg x v hx)) hl hr hk hg
  | immEnd bw d k es i cap a hr hk hg=>exact fun _=>.immEnd bw d k es i cap a hr hk hg
  | fn f l1 l2 c1 c2 h1 h2 i1 i2=>intro hk;simp only [AV.foreign,Bool.and_eq_true] at hk;exact .fn f l1 l2 c1 c2 (i1 hk.1) (i2 hk.2)
  | nfn=>exact fun _=>.nfn
  | gmap ks vs bl es cl u ha hb hh hin hex hv hl hk ih=>exact fun _=>.gmap ks vs bl es cl u (L.avoid ha) hb hh hin hex (fun x v hx=>ih x v hx (gr (na hk x v hx))) hl hk
  | gvar c bl t fr ha hb hh=>exact fun _=>.gvar c bl t fr (L.avoid ha) hb hh
  | agg l c h ih=>intro hk;exact .agg l c (ih hk)
  | tup l c h ih=>intro hk;exact .tup l c (ih hk)
  | iface t v u h ih=>intro hk;exact .iface t v u (ih hk)
  | niface=>exact fun _=>.niface
  | yld b L h=>intro hk;simp [AV.foreign] at hk
  | any u=>exact fun _=>.any u
  | nil=>exact cU.nil
  | cons v u l c h t i1 i2=>rename_i hk;simp only [bU,Bool.and_eq_true] at hk;exact cU.cons v u l c (i1 hk.1) (i2 hk.2)
mutual
theorem QG {ρ τ:ae} (L:abo ρ τ) {w:World} {h:bR} {m:Nat} (hh:HR ρ w h m) (off:∀ b d,bn h b=some d→ρ.ok b→¬ τ.live (ρ.at_ b)):∀ (n:Nat) {v:AV} {u:Value},VR ρ w v u→VR τ w (O0 (bn h) n v) u
  | 0,v,u,hv=>.any u
  | n + 1, v, u, hv => by
    have free:∀ (b:Nat) (d:aI),bn h b=some d→ρ.ok b→τ.avoid .free (ρ.at_ b):=by
      intro b d hd hok j _
      cases j with
      | zero=>exact off b d hd hok
      | succ j=>simp only [ae.own];rw [L.out];exact hh.fresh _ (hh.real hd hok).1 j
    have content:∀ (b:Nat) (d:aI),bn h b=some d→ρ.ok b→∀ x v,(zQ (bn h) n d).cell? x=some v→w.cell? ⟨ρ.at_ b,0+x,none⟩=some ((w.cell? ⟨ρ.at_ b,x,none⟩).getD undef)∧VR τ w v ((w.cell? ⟨ρ.at_ b,x,none⟩).getD undef):=by
      intro b d hd hok x v hx
      obtain ⟨_,hrk,c,t,hc,hcv⟩:=hh.real hd hok
      obtain ⟨u,q1,q2⟩:=TG L hh off n (ρ.at_ b) (fun x v hx=>by
        obtain ⟨u,k1,k2⟩:=hcv x v hx
        exact ⟨u,by simp [World.cell?,hc,k1],k2⟩) hrk x v hx
      rw [Nat.zero_add,q1];exact ⟨rfl,q2⟩
    cases v with
    | ptr b k i j =>
      simp only [O0]
      split
      · rename_i d hd
        have hrk:=hh.rk hd
        cases hk:(zQ (bn h) n d).kept with
        | false=>exact .any _
        | true =>
          simp only [cond_true]
          cases hv with | ptr _ _ _ _ hb =>
          have:=VR.iptr (ρ:=τ) (w:=w) .free (zQ (bn h) n d) k i j (ρ.at_ b) 0 (fun x=>(w.cell? ⟨ρ.at_ b,x,none⟩).getD undef) (free b d hd hb) (hh.liveLt _ (hh.real hd hb).1)
            (fun x v hx=>(content b d hd hb x v hx).1) (fun x v hx=>(content b d hd hb x v hx).2) (KE _ _ _ hrk) (fun _=>hk) (uX hk)
          simpa using this
      · exact .any _
    | sl b k es i len cap =>
      simp only [O0]
      split
      · rename_i d hd
        have hrk:=hh.rk hd
        cases hk:(zQ (bn h) n d).kept with
        | false=>exact .any _
        | true =>
          simp only [cond_true]
          cases hv with
          | sl _ _ _ _ _ _ cap' hb hcap hl' c t hh' hs =>
            have:=VR.imm (ρ:=τ) (w:=w) .free (zQ (bn h) n d) k es i len cap' (ρ.at_ b) 0 (fun x=>(w.cell? ⟨ρ.at_ b,x,none⟩).getD undef) (free b d hd hb) (hh.liveLt _ (hh.real hd hb).1)
              (fun x v hx=>(content b d hd hb x v hx).1) (fun x v hx=>(content b d hd hb x v hx).2) (by omega) (KE _ _ _ hrk) (fun _=>hk) (uX hk)
            simpa using this
          | slEnd=>exact .immEnd _ _ _ _ _ _ _ (KE _ _ _ hrk) (fun _=>hk) (uX hk)
      · exact .any _
    | fn f l1 l2=>cases hv with | fn _ _ _ _ _ h1 h2=>exact .fn _ _ _ _ _ (sH L hh off n h1) (sH L hh off n h2)
    | agg l=>cases hv with | agg _ _ h1=>exact .agg _ _ (sH L hh off n h1)
    | tup l=>cases hv with | tup _ _ h1=>exact .tup _ _ (sH L hh off n h1)
    | iface t v=>cases hv with | iface _ _ _ h1=>exact .iface _ _ _ (QG L hh off n h1)
    | int=>exact eG L hv rfl
    | bool=>exact eG L hv rfl
    | flt=>exact eG L hv rfl
    | str=>exact eG L hv rfl
    | nptr=>exact eG L hv rfl
    | iptr=>exact eG L hv rfl
    | nsl=>exact eG L hv rfl
    | esl=>exact eG L hv rfl
    | zsl=>exact eG L hv rfl
    | nan=>exact eG L hv rfl
    | imm=>exact eG L hv rfl
    | nfn=>exact eG L hv rfl
    | gmap=>exact eG L hv rfl
    | gvar=>exact eG L hv rfl
    | niface=>exact eG L hv rfl
    | yld=>exact .any _
    | any=>exact .any _
theorem sH {ρ τ:ae} (L:abo ρ τ) {w:World} {h:bR} {m:Nat} (hh:HR ρ w h m) (off:∀ b d,bn h b=some d→ρ.ok b→¬ τ.live (ρ.at_ b)):∀ (n:Nat) {l:List AV} {c:List Value},cU ρ w l c→cU τ w (KD (bn h) n l) c
  | 0,[],c,hv=>by cases hv;exact .nil
  | 0,v::l,c,hv=>by
    cases hv with | cons _ u _ c' h1 h2 =>
    have:=sH L hh off 0 h2
    exact .cons _ _ _ _ (.any u) this
  | n+1,[],c,hv=>by cases hv;exact .nil
  | n+1,v::l,c,hv=>by
    cases hv with | cons _ u _ c' h1 h2=>exact .cons _ _ _ _ (QG L hh off n h1) (sH L hh off n h2)
theorem TG {ρ τ:ae} (L:abo ρ τ) {w:World} {h:bR} {m:Nat} (hh:HR ρ w h m) (off:∀ b d,bn h b=some d→ρ.ok b→¬ τ.live (ρ.at_ b)):∀ (n:Nat) (bl:Nat) {d:aI},(∀ x v,d.cell? x=some v→∃ u,w.cell? ⟨bl,x,none⟩=some u∧VR ρ w v u)→d.recKept →
    ∀ x v,(zQ (bn h) n d).cell? x=some v→∃ u,w.cell? ⟨bl,x,none⟩=some u∧VR τ w v u
  | 0,bl,d,hc,hr,x,v,hx=>by simp [zQ,aI.cell?] at hx
  | n + 1, bl, d, hc, hr, x, v, hx => by
    cases d with
    | vs l =>
      simp only [zQ,aI.cell?] at hx
      have hus:cU ρ w l ((List.range l.length).map fun x=>(w.cell? ⟨bl,x,none⟩).getD undef):=by
        refine sz (by simp) fun y v u q1 q2=>?_
        obtain ⟨u',k1,k2⟩:=hc y v q1
        have hlt:y<l.length:=(List.getElem?_eq_some_iff.1 q1).1
        rw [List.getElem?_map,List.getElem?_range hlt] at q2
        simp [k1] at q2;subst q2;exact k2
      have hr2:=sH L hh off n hus
      obtain ⟨u,q1,q2⟩:=hr2.get x v hx
      rw [List.getElem?_map] at q1
      have hlt:x<l.length:=by
        rcases Nat.lt_or_ge x l.length with q | q
        · exact q
        · rw [List.getElem?_eq_none (by simpa using q)] at q1;cases q1
      rw [List.getElem?_range hlt] at q1
      obtain ⟨u',k1,_⟩:=hc x (l[x]) (List.getElem?_eq_getElem hlt)
      simp [k1] at q1;subst q1
      exact ⟨u',k1,q2⟩
    | fl xs=>obtain ⟨u,q1,q2⟩:=hc x v hx;exact ⟨u,q1,eG L q2 (bd (d:=.fl xs) hr rfl x v hx)⟩
    | ns k xs=>obtain ⟨u,q1,q2⟩:=hc x v hx;exact ⟨u,q1,eG L q2 (bd (d:=.ns k xs) hr rfl x v hx)⟩
    | bs xs=>obtain ⟨u,q1,q2⟩:=hc x v hx;exact ⟨u,q1,eG L q2 (bd (d:=.bs xs) hr rfl x v hx)⟩
    | ss xs=>obtain ⟨u,q1,q2⟩:=hc x v hx;exact ⟨u,q1,eG L q2 (bd (d:=.ss xs) hr rfl x v hx)⟩
    | rows k m get=>obtain ⟨u,q1,q2⟩:=hc x v hx;exact ⟨u,q1,eG L q2 (bd (d:=.rows k m get) hr rfl x v hx)⟩
    | cols k cs=>obtain ⟨u,q1,q2⟩:=hc x v hx;exact ⟨u,q1,eG L q2 (bd (d:=.cols k cs) hr rfl x v hx)⟩
end
mutual
def TH (σ:Nat→Option Nat):AV→AV
  | .ptr b w i j=>match σ b with | some c=>.ptr c w i j | none=>.any
  | .sl b w es i len cap=>match σ b with | some c=>.sl c w es i len cap | none=>.any
  | .fn f l1 l2=>.fn f (nmL σ l1) (nmL σ l2)
  | .agg l=>.agg (nmL σ l)
  | .tup l=>.tup (nmL σ l)
  | .iface t v=>.iface t (TH σ v)
  | v=>v
def nmL (σ:Nat→Option Nat):List AV→List AV
  | []=>[]
  | v::l=>TH σ v::nmL σ l
end
def ae.renamed(ρ:ae)(keep:List Nat) :ae :=
  { at_:=fun i=>ρ.at_ ((keep[i]?).getD 0),live:=ρ.live,out:=ρ.out,ok:=fun i=>∃ b,keep[i]? = some b∧ρ.ok b,pin:=ρ.pin }
mutual
theorem O1 {ρ:ae} {keep:List Nat} {w:World}:∀ (v:AV) {u:Value},VR ρ w v u→VR (ρ.renamed keep) w (TH (iU keep 0) v) u
  | .ptr b k i j,u,h=>by
    simp only [TH]
    split
    · rename_i c hc
      cases h with | ptr _ _ _ _ hb =>
      obtain ⟨_,hg⟩:=vP hc
      rw [Nat.sub_zero] at hg
      have:(ρ.renamed keep).at_ c=ρ.at_ b:=by simp [ae.renamed,hg]
      rw [←this];exact .ptr _ _ _ _ ⟨b,hg,hb⟩
    · exact .any u
  | .sl b k es i len cap,u,h=>by
    simp only [TH]
    split
    · rename_i c hc
      obtain ⟨_,hg⟩:=vP hc
      rw [Nat.sub_zero] at hg
      have e:(ρ.renamed keep).at_ c=ρ.at_ b:=by simp [ae.renamed,hg]
      cases h with
      | sl _ _ _ _ _ _ cap' hb hcap hl ce t hh hs=>rw [←e] at hh ⊢;exact .sl _ _ _ _ _ _ _ ⟨b,hg,hb⟩ hcap hl ce t hh hs
      | slEnd=>exact .slEnd _ _ _ _ _
    · exact .any u
  | .fn f l1 l2,u,h=>by cases h with | fn _ _ _ _ _ h1 h2=>exact .fn _ _ _ _ _ (Gi l1 h1) (Gi l2 h2)
  | .agg l,u,h=>by cases h with | agg _ _ h1=>exact .agg _ _ (Gi l h1)
  | .tup l,u,h=>by cases h with | tup _ _ h1=>exact .tup _ _ (Gi l h1)
  | .iface t v,u,h=>by cases h with | iface _ _ _ h1=>exact .iface _ _ _ (O1 v h1)
  | .int ..,u,h=>eH h rfl
  | .bool ..,u,h=>eH h rfl
  | .flt ..,u,h=>eH h rfl
  | .str ..,u,h=>eH h rfl
  | .nptr,u,h=>eH h rfl
  | .iptr ..,u,h=>eH h rfl
  | .nsl,u,h=>eH h rfl
  | .esl,u,h=>eH h rfl
  | .zsl _,u,h=>eH h rfl
  | .nan,u,h=>eH h rfl
  | .imm ..,u,h=>eH h rfl
  | .nfn,u,h=>eH h rfl
  | .gmap ..,u,h=>eH h rfl
  | .gvar _,u,h=>eH h rfl
  | .niface,u,h=>eH h rfl
  | .yld _,u,h=>by cases h with | yld _ L h=>exact .yld _ L h
  | .any,u,h=>.any u
theorem Gi {ρ:ae} {keep:List Nat} {w:World}:∀ (l:List AV) {c:List Value},cU ρ w l c→cU (ρ.renamed keep) w (nmL (iU keep 0) l) c
  | [],c,h=>by cases h;exact .nil
  | v::l,c,h=>by cases h with | cons _ u _ c' h1 h2=>exact .cons _ _ _ _ (O1 v h1) (Gi l h2)
theorem eH {ρ:ae} {keep:List Nat} {w:World} {v:AV} {u:Value} (h:VR ρ w v u) (hf:v.foreign=true):VR (ρ.renamed keep) w v u :=
  eG (ρ:=ρ) (τ:=ρ.renamed keep) ⟨rfl,fun _ q=>q⟩ h hf
end
theorem jD.renamed{ρ:ae}{keep:List Nat}{w:World} :∀ {ds:List Deferred},jD ρ w ds→jD (ρ.renamed keep) w ds
  | [],h=>h
  | d::ds,⟨h1,h⟩=>⟨h1,jD.renamed h⟩
def reB(σ:Nat→Option Nat) :aI→aI
  | .vs l=>.vs (nmL σ l)
  | d=>d
theorem QH(σ:Nat→Option Nat) :∀ (l:List AV) (x:Nat),(nmL σ l)[x]? = (l[x]?).map (TH σ)
  | [],x=>by simp [nmL]
  | v::l,0=>by simp [nmL]
  | v::l,x+1=>by simp [nmL,QH σ l x]
theorem acH{σ:Nat→Option Nat}{d:aI}(h:d.recKept) :(reB σ d).recKept:=by
  cases d<;>first | exact h | trivial
theorem TI{σ:Nat→Option Nat}{d:aI}{x:Nat}{v:AV}(h:(reB σ d).cell? x=some v)(hr:d.recKept) :∃ v',d.cell? x=some v'∧(v=TH σ v'∨(v=v'∧v.foreign=true)):=by
  cases d with
  | vs l =>
    simp only [reB,aI.cell?,QH,Option.map_eq_some_iff] at h
    obtain ⟨v',h1,rfl⟩:=h
    exact ⟨v',h1,.inl rfl⟩
  | fl xs=>exact ⟨v,h,.inr ⟨rfl,bd (d:=.fl xs) hr rfl x v h⟩⟩
  | ns k xs=>exact ⟨v,h,.inr ⟨rfl,bd (d:=.ns k xs) hr rfl x v h⟩⟩
  | bs xs=>exact ⟨v,h,.inr ⟨rfl,bd (d:=.bs xs) hr rfl x v h⟩⟩
  | ss xs=>exact ⟨v,h,.inr ⟨rfl,bd (d:=.ss xs) hr rfl x v h⟩⟩
  | rows k m get=>exact ⟨v,h,.inr ⟨rfl,bd (d:=.rows k m get) hr rfl x v h⟩⟩
  | cols m cs=>exact ⟨v,h,.inr ⟨rfl,bd (d:=.cols m cs) hr rfl x v h⟩⟩
def aaf(k:Nat)(R:List Nat) :List Nat:=List.range k++R.filter fun b=>Nat.ble k b
theorem abp{k i:Nat}{R:List Nat}(h:i<k) :(aaf k R)[i]? = some i:=by
  unfold aaf
  rw [List.getElem?_append_left (by simpa using h),List.getElem?_range h]
def qr(σ:Nat→Option Nat)(h:bR) :List Nat→List (Option aI)
  | []=>[]
  | b::l=>(bn h b).map (reB σ)::qr σ h l
theorem rI(σ:Nat→Option Nat)(h:bR) :∀ (l:List Nat) (i:Nat),(qr σ h l)[i]? = (l[i]?).map fun b=>(bn h b).map (reB σ)
  | [],i=>by simp [qr]
  | b::l,0=>by simp [qr]
  | b::l,i+1=>by simp [qr,rI σ h l i]
theorem qY(σ:Nat→Option Nat)(h:bR) :∀ (l:List Nat),(qr σ h l).length=l.length
  | []=>rfl
  | b::l=>by simp [qr,qY σ h l]
def KF(k:Nat)(keep:Bool)(h:bR)(v:AV) :Option gw :=
  match keep,k with
  | true,0=>some ⟨O0 (bn h) hU v,[]⟩
  | _,_ =>
    let L:=aaf k (mb (bn h) hU (List.range k++Qw v) [])
    bif uT L then some ⟨TH (iU L 0) v,qr (iU L 0) h L⟩ else none
theorem TJ{ρ ρ0:ae}{w0 w:World}{h:bR}{m:Nat}{lent:List aI}{keep:Bool}(hh:HR ρ w h m)(hN:ik ρ0 w0 lent)(E:jY ρ0 ρ w0)(hbk:∀ i,i<lent.length→ρ.ok i→ρ0.ok i)(W:w0.heap.size≤w.heap.size){v:AV}{u:Value}(hv:VR ρ w v u){r:gw} 
    (hr:KF lent.length keep h v=some r):r.Holds ρ0 w0 w lent.length u:=by
  unfold KF at hr
  split at hr
  · rename_i k hk
    cases hr
    have none_ok:∀ b,¬ ρ0.ok b:=fun b q=>by have:=hN.heap.lt b q;omega
    have none_live:∀ bl,¬ ρ0.live bl:=fun bl q=>by obtain ⟨i,h1,_⟩:=hN.only bl q;exact none_ok i h1
    refine ⟨ρ0,jY.refl _ _,fun i h=>by omega,⟨fun b d q=>?_,fun b c d e q=>?_,fun bl q=>(none_live bl q).elim,fun bl q=>(none_live bl q).elim,fun j bl q=>?_,fun b q=>(none_ok b q).elim,fun x hx=>eG (τ:=ρ0) ⟨E.out.symm,fun bl q=>(none_live bl q).elim⟩ (hh.rom x hx) (gr (Rom.kept x hx))⟩,?_⟩
    · simp [eu,eF,dk] at q
    · simp [eu,eF,dk] at q
    · exact Nat.lt_of_lt_of_le (hN.heap.outLt j bl q) W
    · exact QG (τ:=ρ0) ⟨E.out.symm,fun bl q=>(none_live bl q).elim⟩ hh (fun _ _ _ _ q=>none_live _ q) hU hv
  · simp only at hr
    generalize hL:aaf lent.length (mb (bn h) hU (List.range lent.length++Qw v) [])=L at hr
    cases hn:uT L with
    | false=>rw [hn] at hr;cases hr
    | true =>
    rw [hn] at hr
    simp only [cond_true,Option.some.injEq] at hr;subst hr
    have idL:∀ {i:Nat},i<lent.length→L[i]? = some i:=fun q=>by rw [←hL];exact abp q
    have atL:∀ {i b:Nat},L[i]? = some b→(ρ.renamed L).at_ i=ρ.at_ b:=fun q=>by simp [ae.renamed,q]
    refine ⟨ρ.renamed L,⟨fun b q=>?_,fun b q=>?_,E.live,E.new,E.out,E.pin⟩,fun i hi q=>?_,⟨fun i d q=>?_,fun i j d e q1 q2 ok1 ok2 he=>?_,hh.fresh,hh.liveLt,hh.outLt,fun i q=>?_,fun x hx=>eH (hh.rom x hx) (gr (Rom.kept x hx))⟩,O1 v hv⟩
    · rw [atL (idL (hN.heap.lt b q))];exact E.at_ b q
    · exact ⟨b,idL (hN.heap.lt b q),E.ok b q⟩
    · obtain ⟨b,h1,h2⟩:=q
      rw [idL hi] at h1;cases h1
      exact hbk i hi h2
    · have q:=jT q
      simp only at q
      rw [rI,Option.map_eq_some_iff] at q
      obtain ⟨b,h1,h2⟩:=q
      rw [Option.map_eq_some_iff] at h2
      obtain ⟨d0,h3,rfl⟩:=h2
      rcases hh.cell b d0 h3 with ⟨k1,k2,hr,c,t,r1,r2⟩ | ⟨k1,k2,k3,k4⟩
      · refine .inl ⟨⟨b,h1,k1⟩,by rw [atL h1];exact k2,acH hr,c,t,by rw [atL h1];exact r1,fun x v hx=>?_⟩
        obtain ⟨v',s1,s2⟩:=TI hx hr
        obtain ⟨u,t1,t2⟩:=r2 x v' s1
        refine ⟨u,t1,?_⟩
        rcases s2 with rfl | ⟨rfl,hf⟩
        · exact O1 v' t2
        · exact eH t2 hf
      · refine .inr ⟨?_,?_,acH k3,fun x=>?_⟩
        · rintro ⟨b',q1,q2⟩
          rw [h1] at q1;cases q1
          exact k1 q2
        · rw [qY];exact (List.getElem?_eq_some_iff.1 h1).1
        · cases hc:(reB (iU L 0) d0).cell? x with
          | none=>rfl
          | some v=>obtain ⟨v',s1,_⟩:=TI hc k3;rw [k4 x] at s1;cases s1
    · obtain ⟨b,r1,r2⟩:=ok1
      obtain ⟨c,r3,r4⟩:=ok2
      have q1:=jT q1
      have q2:=jT q2
      simp only at q1 q2
      rw [rI,r1] at q1
      rw [rI,r3] at q2
      simp only [Option.map_some,Option.some.injEq,Option.map_eq_some_iff] at q1 q2
      obtain ⟨d1,s1,_⟩:=q1
      obtain ⟨d2,s2,_⟩:=q2
      rw [atL r1,atL r3] at he
      have:=hh.inj b c d1 d2 s1 s2 r2 r4 he
      subst this
      exact sE hn r1 r3
    · obtain ⟨b,r1,_⟩:=q
      simp only [qY]
      exact (List.getElem?_eq_some_iff.1 r1).1
inductive AE where
  | normal
  | ret
  | exit (id:Nat)
def AE.real:AE→Exit
  | .normal=>.normal
  | .ret=>.ret
  | .exit id=>.exit id
abbrev Res:=Option (AE×aH×List Bool×dY)
abbrev wJ:=Code→aH→dY→Res
def fH:Code→Bool
  | .rangeFunc .. | .scope _=>false
  | .seq a b | .cond _ a b=>fH a&&fH b
  | .block _ a | .loop a=>fH a
  | _=>true
def zR(y:Option YI) :List pS→Bool
  | []=>true
  | r::l=>sG y r.sets&&zR y l
def Gj(C:tL)(run:eC)(y:Option YI)(yr:abm)(ops:Array Oper)(draw:Bool)(st:aH)(p:dY) :Res :=
  match draw with
  | false =>
    match Ge C run y yr ops st.next 0 ops.toList st.tmps st.heap (st.next+ops.size*qp) p with
    | some (T,h,nx,obs,p')=>some (.normal,⟨T,h,nx⟩,obs,p')
    | none=>none
  | true =>
    match KC C run ops st.next 0 ops.toList st.tmps st.heap p with
    | some (rs,T,h,obs,p')=>bif Em ops rs&&zR y rs then some (.normal,⟨T,h,st.next+ops.size*qp⟩,obs,p') else none
    | none=>none
def sI(T:List AV)(c:Operand)(b:Bool) :List AV :=
  match c with
  | .tmp t=>aa7 T t (.bool true b)
  | _=>T
def JO(body:aH→dY→Res) :Nat→aH→dY→Res
  | 0,_,_=>none
  | n+1,st,p =>
    match body st p with
    | some (.normal,st1,o1,p1) =>
      match JO body n st1 p1 with
      | some (e,vH,o2,p2)=>some (e,vH,o1++o2,p2)
      | none=>none
    | r=>r
abbrev md:=Option YI→wJ
def Da:List AV→List Tmp→List AV→List AV
  | T,p::ps,v::vs=>Da (aa7 T p v) ps vs
  | T,_,_=>T
def Bq:Option aI→Bool
  | some (.vs [])=>true
  | _=>false
def aft(self:md)(y:Option YI) :abm:=fun args h nx p =>
  match y with
  | none=>none
  | some yi =>
    bif Bq (bn h yi.b)&&(Nat.beq args.length yi.ps.size&&(fH yi.assign&&fH yi.body)) then
      match self none yi.assign ⟨Da yi.saved yi.ps.toList args,h,nx⟩ p with
      | some (.normal,st1,o1,p1) =>
        match self none yi.body st1 p1 with
        | some (e,vH,o2,p2) =>
          bif Bq (bn vH.heap yi.b) then
            match e with
            | .normal=>some (.bool true true,vH.heap,vH.next,o1++o2,p2)
            | .ret=>some (.bool true false,eW vH.heap yi.b (.fl []),vH.next,o1++o2,p2)
            | .exit id=>some (.bool true false,eW vH.heap yi.b (.rows id 0 fun _ _=>.nptr),vH.next,o1++o2,p2)
          else none
        | none=>none
      | _=>none
    else none
def ng:Option (LoopState×Option Code)→Option AE
  | some (.ready,none)=>some .normal
  | some (.done,some .ret)=>some .ret
  | some (.done,some (.exit id))=>some (.exit id)
  | _=>none
def KG(C : tL)(self : md)(g : Operand)(ps : Array Tmp)(assign body : Code)(st : aH)(p : dY) : Res :=
  match W6 st.tmps g with
  | .fn (.func gf) first caps =>
    match C.P.funcs[gf]? with
    | some fn =>
      match fn.body with
      | some c =>
        bif fH c&&fn.results.isEmpty then
          match self (some ⟨st.next,st.tmps,ps,assign,body⟩) c ⟨(first ++ .yld st.next::caps)++List.replicate (fn.ntmps-(first ++ .yld st.next::caps).length) (.tup []),eW st.heap st.next (.vs []),st.next+1⟩ p with
          | some (.exit _,_,_,_)=>none
          | some (_,st1,o1,p1) =>
            bif qX st1.heap then
              match ng (iz (bn st1.heap st.next)) with
              | some e=>some (e,⟨st.tmps,sw st1.heap st.next,st1.next⟩,o1,p1)
              | none=>none
            else none
          | none=>none
        else none
      | none=>none
    | none=>none
  | _=>none
def Gk(C:tL)(run:eC)(N:Nat)(selfY:md)(y:Option YI)(c:Code)(st:aH)(p:dY) :Res :=
  let self:=selfY y
  match c with
  | .skip | .label _=>some (.normal,st,[],p)
  | .region _ ops draw=>Gj C run y (aft selfY y) ops draw st p
  | .seq a b =>
    match self a st p with
    | some (.normal,st1,o1,p1) =>
      match self b st1 p1 with
      | some (e,vH,o2,p2)=>some (e,vH,o1++o2,p2)
      | none=>none
    | r=>r
  | .cond c a b =>
    match JJ (W6 st.tmps c) p with
    | some (x,o1,p1) =>
      match self (match x with | true=>a | false=>b) { st with tmps:=sI st.tmps c x } p1 with
      | some (e,vH,o2,p2)=>some (e,vH,o1++o2,p2)
      | none=>none
    | none=>none
  | .block id b =>
    match self b st p with
    | some (.exit id',st1,o1,p1)=>bif Nat.beq id' id then some (.normal,st1,o1,p1) else some (.exit id',st1,o1,p1)
    | r=>r
  | .loop b=>JO (self b) N st p
  | .exit id=>some (.exit id,st,[],p)
  | .ret=>some (.ret,st,[],p)
  | .scope b=>self b st p
  | .rangeFunc g ps assign body=>match y with
    | none=>KG C selfY g ps assign body st p
    | some _=>none
  | _=>none
structure qs where
  out:gw
  obs:List Bool
def acI(alts:List qs)(p:dY) :Option (qs×dY) :=
  match alts,p with
  | [a],p=>some (a,p)
  | alts,none=>(alts.find? fun a=>Qv a.obs).map fun a=>(a,none)
  | alts,some (k::r)=>(alts[k]?).map fun a=>(a,some r)
  | _,_=>none
theorem abq{alts:List qs}{p p':dY}{a:qs}(h:acI alts p=some (a,p')) :a∈alts:=by
  unfold acI at h
  split at h
  · simp only [Option.some.injEq,Prod.mk.injEq] at h;rw [←h.1];simp
  · simp only [Option.map_eq_some_iff,Prod.mk.injEq] at h;obtain ⟨b,h1,rfl,_⟩:=h;exact List.mem_of_find?_eq_some h1
  · simp only [Option.map_eq_some_iff,Prod.mk.injEq] at h;obtain ⟨b,h1,rfl,_⟩:=h;exact List.mem_of_getElem? h1
  · cases h
abbrev vR:=FuncId→List aI→List AV→Option (List qs)
def jH(P:Program)(fn:Func)(st:aH) :List ResultVar→Option (List AV×List Bool)
  | []=>some ([],[])
  | .tmp t::l =>
    match jH P fn st l with
    | some (vs,o)=>some (aa6 st.tmps t::vs,o)
    | none=>none
  | .cell a t::l =>
    match Ch P (bn st.heap) t (aa6 st.tmps a),jH P fn st l with
    | some (v,o,_),some (vs,o')=>some (v::vs,o++o')
    | _,_=>none
def Gl:List AV→AV
  | [v]=>v
  | vs=>.tup vs
def pW(fn:Func)(lent:List aI)(args:List AV) :aH:=⟨args++List.replicate (fn.ntmps-args.length) (.tup []),eu 0 (lent.map some),lent.length⟩
def oM(C : tL)(S : vR)(self : wJ) : eC := fun f lent args p =>
  match S f lent args with
  | some alts=>(acI alts p).map fun r=>(r.1.out,r.1.obs,r.2)
  | none =>
    match C.P.funcs[f]? with
    | some fn =>
      match fn.body with
      | some c =>
        match self c (pW fn lent args) p with
        | some (e,st,o1,p1) =>
          match e,jH C.P fn st fn.results.toList with
          | .exit _,_=>none
          | _,some (vs,o2) =>
            match KF lent.length (C.mode f).keep st.heap (Gl vs) with
            | some r=>some (r,o1++o2,p1)
            | none=>none
          | _,none=>none
        | none=>none
      | none=>none
    | none=>none
def zS(C:tL)(S:vR)(N:Nat) :Nat→md
  | 0=>fun _ _ _ _=>none
  | n+1=>Gk C (oM C S (zS C S N n none)) N (zS C S N n)
def ia(C:tL)(S:vR)(N:Nat)(n:Nat) :wJ:=zS C S N n none
def aj(P:Program)(f:FuncId)(lent:List aI)(args:List AV)(r:gw) :Prop :=
  ∀ (ρ:ae) (w:World) (us:List Value),ik ρ w lent→cU ρ w args us →
    (∃ fn,P.funcs[f]? = some fn∧fn.body.isSome=true)∧Calls P f us.toArray w fun e w'=>∃ u,e=.returned u∧gT ρ.live w w'∧r.Holds ρ w w' lent.length u
def aP(P:Program)(S:vR) :Prop:=∀ f lent args alts a,S f lent args=some alts→a∈alts→aG a.obs→aj P f lent args a.out
def QI(P:Program)(self:wJ) :Prop :=
  ∀ c st p e st' obs p',self c st p=some (e,st',obs,p')→aG obs→∀ (ρ:ae) (a:Act) (w:World) (Q:Exit→Act→World→Prop),ρ.pin.2=none→SR ρ st a w →
    (∀ ρ' a' w',Kp ρ w st.next st' ρ' a' w'→Q e.real a' w')→c.wp P Q a w
theorem Kp.trans{ρ ρ1 ρ2:ae}{w w1 w2:World}{n:Nat}{st1 vH:aH}{a1 a2:Act}(h:Kp ρ w n st1 ρ1 a1 w1)(k:Kp ρ1 w1 st1.next vH ρ2 a2 w2) :Kp ρ w n vH ρ2 a2 w2 :=
  ⟨h.ext.trans k.ext h.wle.size,h.wle.trans k.wle (fun x hx q=>h.ext.new x hx q),k.sr,Nat.le_trans h.le k.le,fun b q=>by
    rcases k.back b q with q | q
    · exact h.back b q
    · exact .inr (Nat.le_trans h.le q)⟩
theorem Kp.refl{ρ:ae}{w:World}{st:aH}{a:Act}(h:SR ρ st a w) :Kp ρ w st.next st ρ a w:=⟨jY.refl _ _,gT.refl _ _,h,Nat.le_refl _,fun b q=>.inl q⟩
theorem abr(n:Nat) :List.range n=List.range' 0 n:=List.range_eq_range'
theorem TK(fn:Func)(tmps:Array Value) :results fn tmps=(do let vs ← fn.results.mapM (fun | .tmp t=>pure (tmps.getD t undef) | .cell x t=>do loadVar t (←asAddr (tmps.getD x undef)));pure (if h:vs.size=1 then vs[0] else .tuple vs)):=by
  unfold results
  congr 1
structure lP (y:Option YI) (ρ:ae) (w:World) (n:Nat) (st:aH) (ρ':ae) (a':Act) (w':World):Prop where
  stp:JK y ρ w ρ' w'
  sr:SR ρ' st a' w'
  le:n≤st.next
  back:∀ b,ρ'.ok b→ρ.ok b∨n≤b
  pin:mc y ρ' w' st.heap st.next
theorem lP.old{ρ:ae}{w:World}{n:Nat}{st:aH}{ρ':ae}{a':Act}{w':World}(h:lP none ρ w n st ρ' a' w') :Kp ρ w n st ρ' a' w':=⟨h.stp.ext,h.stp.live,h.sr,h.le,h.back⟩
theorem lP.trans{y:Option YI}{ρ ρ1 ρ2:ae}{w w1 w2:World}{n:Nat}{st1 vH:aH}{a1 a2:Act}(h:lP y ρ w n st1 ρ1 a1 w1)(k:lP y ρ1 w1 st1.next vH ρ2 a2 w2) :lP y ρ w n vH ρ2 a2 w2 :=
  ⟨h.stp.trans k.stp,k.sr,Nat.le_trans h.le k.le,fun b q=>by
    rcases k.back b q with q | q
    · exact h.back b q
    · exact .inr (Nat.le_trans h.le q),k.pin⟩
theorem lP.refl{y:Option YI}{ρ:ae}{w:World}{st:aH}{a:Act}(h:SR ρ st a w)(hp:mc y ρ w st.heap st.next) :lP y ρ w st.next st ρ a w:=⟨JK.refl _ _ _,h,Nat.le_refl _,fun b q=>.inl q,hp⟩
def May(c:Code)(ro:Option Nat)(y:Option YI)(ρ:ae) :Prop:=fH c=true∨(ro=none∧y=none∧ρ.pin.2=none)
def tT(P:Program)(self:md) :Prop :=
  ∀ y c st p e st' obs p',self y c st p=some (e,st',obs,p')→aG obs→∀ (ro:Option Nat) (nn:Nat) (ρ:ae) (a:Act) (w:World) (Q:Exit→Act→World→Prop),May c ro y ρ→SR ρ st a w→mc y ρ w st.heap st.next →
    (∀ ρ' a' w',lP y ρ w st.next st' ρ' a' w'→Q e.real a' w')→c.wpIn (FW ro) nn P Q a w
theorem May.ext{c:Code}{ro:Option Nat}{y:Option YI}{ρ ρ':ae}{w:World}(h:May c ro y ρ)(E:jY ρ ρ' w) :May c ro y ρ':=h.imp id fun ⟨a,b,c⟩=>⟨a,b,by rw [E.pin];exact c⟩
theorem May.sub{c d:Code}{ro:Option Nat}{y:Option YI}{ρ:ae}(h:May c ro y ρ)(k:fH c=true→fH d=true) :May d ro y ρ:=h.imp k id
theorem JP{ρ:ae}{w:World} :∀ {ds:List Deferred},jD ρ w ds→ρ.pin.1≤w.heap.size
  | [],h=>h
  | _::_,⟨_,h⟩=>JP h
theorem O2{ρ:ae}{w:World} :∀ {ds:List Deferred},jD ρ w ds→∀ e∈ds,e ≠ { target:=.collected w.heap.size,args:=#[] }
  | [],_,e,he=>by cases he
  | d::ds,⟨⟨D,h1,hb,h2,h3,h4,h5⟩,h⟩,e,he=>by
    rcases List.mem_cons.1 he with rfl | q
    · intro e;rw [h1] at e
      have e:Target.collected D=.collected w.heap.size:=congrArg Deferred.target e
      simp only [Target.collected.injEq] at e
      omega
    · exact O2 h e q
theorem En{y:Option YI} :∀ {l:List pS},zR y l=true→∀ r∈l,sG y r.sets=true
  | [],_,r,h=>by cases h
  | x::l,hk,r,h=>by
    simp only [zR,Bool.and_eq_true] at hk
    rcases List.mem_cons.1 h with rfl | q
    · exact hk.1
    · exact En hk.2 r q
theorem Eo{y:Option YI} :∀ (l:List (Oper×pS)) (s:List AV×bR),(∀ x∈l,sG y x.2.sets=true)→∀ yi,y=some yi→bn (db l s).2 yi.b=bn s.2 yi.b
  | [],s,_,yi,_=>rfl
  | x::l,s,h,yi,e=>by
    simp only [db]
    rw [Eo l _ (fun z hz=>h z (by simp [hz])) yi e]
    exact Ej (h x (by simp)) s.2 yi e
theorem QJ{C:tL}(hC:C.Ok){run:eC}(hrun:Kk C.P run){y:Option YI}{yr:abm}(hyr:XA C.P y yr){id:Nat}{ops:Array Oper}{draw:Bool}{st st':aH}{p p':dY}{e:AE}{obs:List Bool}(h:Gj C run y yr ops draw st p=some (e,st',obs,p')) 
    (ho:aG obs) {ro:Option Nat} {nn:Nat} {ρ:ae} {a:Act} {w:World} {Q:Exit→Act→World→Prop} (hs:SR ρ st a w) (hp:mc y ρ w st.heap st.next) (hQ:∀ ρ' a' w',lP y ρ w st.next st' ρ' a' w'→Q e.real a' w'):(Code.region id ops draw).wpIn (FW ro) nn C.P Q a w:=by
  unfold Gj at h
  cases draw with
  | false =>
    simp only at h
    split at h
    case h_2=>cases h
    rename_i T hp' nx obs' p1 hr
    simp only [Option.some.injEq,Prod.mk.injEq] at h;obtain ⟨rfl,rfl,rfl,rfl⟩:=h
    refine wpIn_region ?_
    rw [abr,←Array.length_toList]
    refine wH hC hrun hyr ops.toList 0 (fun j=>by simp) hr ho (hs.heap.le (by omega)) (Nat.le_refl _) hp (JP hs.defers) (fun b hb=>.inl (by have:=hs.heap.lt b hb;omega)) hs.tmps ?_
    intro ρ' w' a' S hh hle hpin hd hT hb
    exact hQ ρ' a' w' ⟨S,⟨by rw [hd];exact S.marks _ hs.defers,hT,hh⟩,by show st.next≤nx;omega,hb,hpin.le (by show st.next≤nx;omega)⟩
  | true =>
    simp only at h
    split at h
    case h_2=>cases h
    rename_i rs T hp' obs' p1 hr
    cases hd:(Em ops rs&&zR y rs) with
    | false=>rw [hd] at h;cases h
    | true =>
      rw [hd] at h
      rw [Bool.and_eq_true] at hd
      simp only [cond_true,Option.some.injEq,Prod.mk.injEq] at h;obtain ⟨rfl,rfl,rfl,rfl⟩:=h
      obtain ⟨s1,s2,s3⟩:=H0 _ _ hr ho
      obtain ⟨ms,D⟩:=HX (ops.toList.zip rs) [] [] rfl (TE s1 hd.1) ⟨fun j x hx=>by simp at hx,fun j x hx=>by simp at hx,fun i j x y hx=>by simp at hx⟩
      rw [List.nil_append] at D
      refine wpIn_region_any hC.mixed ?_
      have W0:=gT.drawn ρ.live w (w.drawn+1)
      have E0:=jY.refl ρ w
      have notL:∀ i,(Array.replicate ops.size false).getD i false=false:=by
        intro i;rw [Array.getD_eq_getD_getElem?]
        cases hq:(Array.replicate ops.size false)[i]? with
        | none=>rfl
        | some b=>rw [Array.getElem?_replicate] at hq;split at hq<;>simp_all
      have a0:∀ (l:List (Oper×pS)) (i:Nat) (s:List AV×bR),np (fun i=>(Array.replicate ops.size false).getD i false) i l s=s:=by
        intro l
        induction l with
        | nil=>intro _ _;rfl
        | cons x l ih=>intro i s;simp only [np];rw [notL i];exact ih _ _
      refine acG hC hrun D (by rw [s1];simp) (fun j o hj=>by have:=s3 j o hj;rw [Nat.zero_add] at this;exact this) ops.size (Array.replicate ops.size false) (by simp) (fun j o _ hl=>by rw [notL] at hl;cases hl)
        (by have:=List.countP_le_length (p:=fun i=>!(Array.replicate ops.size false).getD i false) (l:=List.range ops.size);simpa using this) (ρ:=ρ) (a:=a) ?_ ?_ ?_ ?_
      · rw [a0];exact (hs.heap.le (by omega)).drawn _
      · intro b hb;have:=hs.heap.lt b hb;exact .inl this
      · rw [a0];exact hs.tmps.mono E0 W0
      · intro ρ' w' a' E W hh hd' hT hb
        have keep:=Eo (y:=y) (ops.toList.zip rs) (st.tmps,st.heap) fun x hx=>En hd.2 _ (List.of_mem_zip (show (x.1,x.2)∈_ from hx)).2
        rw [s2] at hh hT keep
        have E':jY ρ ρ' w:=⟨E.at_,E.ok,E.live,fun b hb=>E.new b hb,E.out,E.pin⟩
        have W':gT ρ.live w w':=W0.trans W (fun _ _ q=>q)
        refine hQ ρ' a' w' ⟨.of E' W',⟨by rw [hd'];exact hs.defers.mono E' W',hT,hh⟩,Nat.le_add_right _ _,hb,(hp.mono E' W' (fun yi _ q=>hb _ q) keep).le (Nat.le_add_right _ _)⟩
theorem KH{C:tL}{y:Option YI}{ro:Option Nat}{nn:Nat}{body:aH→dY→Res}{b:Code}(hb:∀ st p e st' obs p',body st p=some (e,st',obs,p')→aG obs→∀ (ρ:ae) (a:Act) (w:World) (Q:Exit→Act→World→Prop),May b ro y ρ→SR ρ st a w→mc y ρ w st.heap st.next →
    (∀ ρ' a' w',lP y ρ w st.next st' ρ' a' w'→Q e.real a' w')→b.wpIn (FW ro) nn C.P Q a w) :∀ (n:Nat) (st:aH) (p:dY) (e:AE) (st':aH) (obs:List Bool) (p':dY),JO body n st p=some (e,st',obs,p')→aG obs →
    ∀ (ρ:ae) (a:Act) (w:World) (Q:Exit→Act→World→Prop),May b ro y ρ→SR ρ st a w→mc y ρ w st.heap st.next→(∀ ρ' a' w',lP y ρ w st.next st' ρ' a' w'→Q e.real a' w')→Code.roundsIn (FW ro) nn C.P b Q n a w
  | 0,st,p,e,st',obs,p',h,_,_,_,_,_,_,_,_,_=>by cases h
  | n+1,st,p,e,st',obs,p',h,ho,ρ,a,w,Q,hm,hs,hp,hQ=>by
    simp only [JO] at h
    rw [roundsIn_succ]
    split at h
    · rename_i st1 o1 p1 h1
      split at h
      case h_2=>cases h
      rename_i e2 vH o2 p2 h2
      simp only [Option.some.injEq,Prod.mk.injEq] at h;obtain ⟨rfl,rfl,rfl,rfl⟩:=h
      rw [bt] at ho
      refine hb st p _ _ _ _ h1 ho.1 ρ a w _ hm hs hp fun ρ1 a1 w1 P1=>?_
      exact KH hb n st1 p1 _ _ _ _ h2 ho.2 ρ1 a1 w1 Q (hm.ext P1.stp.ext) P1.sr P1.pin fun ρ2 a2 w2 P2=>hQ ρ2 a2 w2 (P1.trans P2)
    · rename_i hne
      refine hb st p _ _ _ _ h ho ρ a w _ hm hs hp fun ρ1 a1 w1 P1=>?_
      have:=hQ ρ1 a1 w1 P1
      cases e with
      | normal=>exact (hne _ _ _ h).elim
      | ret=>exact this
      | exit id=>exact this
theorem KI{ρ:ae}{w:World} :∀ (ps:List Tmp) (vs:List AV) (us:List Value) {T:List AV} {c:Array Value},cU ρ w T c.toList→cU ρ w vs us→ps.length=us.length →
    cU ρ w (Da T ps vs) ((ps.zip us).foldl (fun tmps (x:Tmp×Value)=>tmps.setIfInBounds x.1 x.2) c).toList
  | [],vs,us,T,c,hT,hv,hl=>by
    cases us with
    | nil=>cases vs<;>simpa [Da] using hT
    | cons=>simp at hl
  | p::ps,vs,us,T,c,hT,hv,hl=>by
    cases hv with
    | nil=>simp at hl
    | cons v u vs us h1 h2 =>
      simp only [Da,Bf,List.zip_cons_cons,List.foldl_cons]
      refine KI ps vs us ?_ h2 (by simpa using hl)
      rw [Array.toList_setIfInBounds]
      exact hT.set h1 p
theorem H3{o:Option aI}(h:Bq o=true) :o=some (.vs []):=by
  unfold Bq at h
  split at h
  · rfl
  · cases h
theorem JK.wide{y:Option YI}{ρ ρ':ae}{w w':World}(h:JK none ρ w ρ' w') :JK y ρ w ρ' w':=⟨h.ext,h.live.mono fun _ _ q=>.inl q,h.vr,h.marks⟩
theorem JK.put{yi:YI}{ρ:ae}{w:World}{L k:Nat}{r r':Loop}(hp:ρ.pin.2=some (L,k))(hL:w.heap[L]? = some (.loop r)) :JK (some yi) ρ w ρ (w.putObj L (.loop r')):=by
  have S:sF w (w.putObj L (.loop r')):=sF.put hL (.inl ⟨r,rfl⟩) (.inl ⟨r',rfl⟩)
  exact ⟨jY.refl _ _,S.wle fun b _ hb=>World.putObj_heap_other (fun e=>hb (.inr ⟨rfl,k,by rw [e];exact hp⟩)),fun v u h=>h.soft S,fun ds h=>h.soft hL⟩
theorem aee{P:Program}{self:md}(hself:tT P self)(y:Option YI) :XA P y (aft self y):=by
  intro args h nx p v h' nx' obs p' hr ho
  unfold aft at hr
  cases y with
  | none=>cases hr
  | some yi =>
  refine ⟨yi,rfl,fun ρ w us m hh hbase hpin hm hv L hL=>?_⟩
  simp only at hr
  cases hc:(Bq (bn h yi.b)&&(Nat.beq args.length yi.ps.size&&(fH yi.assign&&fH yi.body))) with
  | false=>rw [hc] at hr;cases hr
  | true =>
  rw [hc] at hr
  simp only [Bool.and_eq_true] at hc
  obtain ⟨hc1,hc2,hc3,hc4⟩:=hc
  simp only [cond_true] at hr
  split at hr
  case h_2=>cases hr
  rename_i st1 o1 p1 h1
  split at hr
  case h_2=>cases hr
  rename_i e vH o2 p2 h2
  cases hc5:Bq (bn vH.heap yi.b) with
  | false=>rw [hc5] at hr;cases hr
  | true =>
  rw [hc5] at hr
  simp only [cond_true] at hr
  have hk1:=H3 hc1
  have hk2:=H3 hc5
  obtain ⟨q1,q2,L',q3,q4,s,pe,q5,rec,r1,r2,r3,r4,r5,r6,r7⟩:=hpin
  rw [hL] at q3;cases q3
  rw [hk1] at q5
  simp only [iz,Option.some.injEq,Prod.mk.injEq] at q5
  obtain ⟨rfl,rfl⟩:=q5
  have hlt:L<w.heap.size:=(Array.getElem?_eq_some_iff.1 r1).1
  have hsz:us.size=rec.params.size:=by
    have a1:=hv.length
    have a2:=Nat.eq_of_beq_eq_true hc2
    rw [r4,←a2,a1];simp
  refine ⟨rec,r1,hsz,fun ro nn R hR=>?_⟩
  have hob:aG o1∧aG o2:=by
    have:obs=o1++o2:=by cases e<;>simp only [Option.some.injEq,Prod.mk.injEq] at hr<;>exact hr.2.2.2.1.symm
    rw [this,bt] at ho;exact ho
  refine roundIn_of_wpIn (afV _ _) ?_
  rw [r5,r6,r4]
  have hfold:(yi.ps.zip us).foldl (fun tmps (x:Tmp×Value)=>tmps.setIfInBounds x.1 x.2) rec.tmps=(yi.ps.toList.zip us.toList).foldl (fun tmps (x:Tmp×Value)=>tmps.setIfInBounds x.1 x.2) rec.tmps:=by
    rw [←Array.foldl_toList,Array.toList_zip]
  have hT:cU ρ w (Da yi.saved yi.ps.toList args) ((yi.ps.zip us).foldl (fun tmps (x:Tmp×Value)=>tmps.setIfInBounds x.1 x.2) rec.tmps).toList:=by
    rw [hfold]
    exact KI _ _ _ r7 hv (by rw [←r4];simpa using hsz.symm)
  have S0:SR ρ ⟨Da yi.saved yi.ps.toList args,h,nx⟩ { tmps:=(yi.ps.zip us).foldl (fun tmps (x:Tmp×Value)=>tmps.setIfInBounds x.1 x.2) rec.tmps,defers:=[] } w:=⟨hbase,hT,hh⟩
  refine hself none yi.assign _ _ _ _ _ _ h1 hob.1 (some L) nn ρ _ w _ (.inl hc3) S0 trivial fun ρ1 a1 w1 P1=>?_
  have hL1:w1.heap[L]? = some (.loop rec):=(P1.stp.live.same L hlt q4).trans r1
  have n1 : ¬ ρ1.live L:=fun q=>q4 (P1.stp.ext.new L hlt q)
  refine ⟨_,run_beginRound hL1 r2,?_⟩
  have Sf:sF w1 (w1.putObj L (.loop { rec with state:=.busy })):=sF.put hL1 (.inl ⟨_,rfl⟩) (.inl ⟨_,rfl⟩)
  have S1:SR ρ1 st1 a1 (w1.putObj L (.loop { rec with state:=.busy })):=⟨P1.sr.defers.soft hL1,P1.sr.tmps.soft Sf,P1.sr.heap.soft Sf⟩
  have hlt1:L<(w1.putObj L (.loop { rec with state:=.busy })).heap.size:=by rw [World.putObj_size];exact Nat.lt_of_lt_of_le hlt P1.stp.wle.size
  refine hself none yi.body _ _ _ _ _ _ h2 hob.2 (some L) nn ρ1 a1 _ _ (.inl hc4) S1 trivial fun ρ2 a2 w3 P2=>?_
  have hL3:w3.heap[L]? = some (.loop { rec with state:=.busy }):=(P2.stp.live.same L hlt1 n1).trans (World.putObj_heap_same (by simpa using hlt1))
  have n2 : ¬ ρ2.live L:=fun q=>n1 (P2.stp.ext.new L hlt1 q)
  have pin1:ρ1.pin.2=some (L,yi.b):=by rw [P1.stp.ext.pin];exact hL
  have pin2:ρ2.pin.2=some (L,yi.b):=by rw [P2.stp.ext.pin];exact pin1
  have Sall:∀ (r':Loop),JK (some yi) ρ w ρ2 (w3.putObj L (.loop r')):=fun r' =>
    (((P1.stp.wide).trans (JK.put pin1 hL1)).trans P2.stp.wide).trans (JK.put pin2 hL3)
  have hback:∀ b,ρ2.ok b→ρ.ok b∨nx≤b:=by
    intro b q
    rcases P2.back b q with q | q
    · exact P1.back b q
    · exact .inr (Nat.le_trans P1.le q)
  have hnok : ¬ ρ2.ok yi.b:=fun q=>(hback _ q).elim q1 (by omega)
  have hle:nx≤vH.next:=Nat.le_trans P1.le P2.le
  have S2:∀ (r':Loop),sF w3 (w3.putObj L (.loop r')):=fun r'=>sF.put hL3 (.inl ⟨_,rfl⟩) (.inl ⟨_,rfl⟩)
  have hlt3:L<w3.heap.size:=(Array.getElem?_eq_some_iff.1 hL3).1
  have hrec:∀ (s:LoopState) (pe:Option Code),Tw ρ2 (w3.putObj L (.loop { rec with state:=s,pending:=pe })) L yi s pe:=fun s pe =>
    ⟨_,World.putObj_heap_same hlt3,rfl,rfl,r4,r5,r6,cU.stp (Sall _).vr r7⟩
  cases e with
  | normal =>
    simp only [Option.some.injEq,Prod.mk.injEq] at hr
    obtain ⟨rfl,rfl,rfl,_,_⟩:=hr
    refine ⟨_,_,run_endRound none hL3,hR ρ2 _ _ (Sall _) (P2.sr.heap.soft (S2 _)) ⟨hnok,q2,L,pin2,n2,.ready,none,by rw [hk2];rfl,hrec _ _⟩ (.bool _ _) hback hle⟩
  | ret =>
    simp only [Option.some.injEq,Prod.mk.injEq] at hr
    obtain ⟨rfl,rfl,rfl,_,_⟩:=hr
    refine ⟨_,_,run_endRound (some .ret) hL3,hR ρ2 _ _ (Sall _) ((P2.sr.heap.soft (S2 _)).ghost hnok (by omega) trivial (fun x=>rfl)) ⟨hnok,q2,L,pin2,n2,.done,some .ret,by rw [cS,if_pos rfl];rfl,hrec _ _⟩ (.bool _ _) hback hle⟩
  | exit id =>
    simp only [Option.some.injEq,Prod.mk.injEq] at hr
    obtain ⟨rfl,rfl,rfl,_,_⟩:=hr
    refine ⟨_,_,run_endRound (some (.exit id)) hL3,hR ρ2 _ _ (Sall _) ((P2.sr.heap.soft (S2 _)).ghost hnok (by omega) (fun i j=>⟨rfl,rfl⟩) (fun x=>by simp [aI.cell?])) ⟨hnok,q2,L,pin2,n2,.done,some (.exit id),by rw [cS,if_pos rfl];rfl,hrec _ _⟩ (.bool _ _) hback hle⟩
theorem M5{d:Option aI}{e:AE}(h:ng (iz d)=some e) :∃ s pe,iz d=some (s,pe)∧s ≠ .busy∧((e=.normal∧pe=none)∨(e=.ret∧pe=some .ret)∨∃ id,e=.exit id∧pe=some (.exit id)):=by
  unfold ng at h
  split at h
  · rename_i q;cases h;exact ⟨_,_,q,by simp,.inl ⟨rfl,rfl⟩⟩
  · rename_i q;cases h;exact ⟨_,_,q,by simp,.inr (.inl ⟨rfl,rfl⟩)⟩
  · rename_i id q;cases h;exact ⟨_,_,q,by simp,.inr (.inr ⟨id,rfl,rfl⟩)⟩
  · cases h
def KJ(st:aH)(fn:Func)(first caps:List AV) :aH:=⟨(first ++ .yld st.next::caps)++List.replicate (fn.ntmps-(first ++ .yld st.next::caps).length) (.tup []),eW st.heap st.next (.vs []),st.next+1⟩
theorem O3{C:tL}(hC:C.Ok){g:Operand}{ps:Array Tmp}{assign body:Code}{st:aH}{gf:FuncId}{fn:Func}{c:Code}{first caps:List AV}{e1 e2:AE}{st1:aH}(hev:W6 st.tmps g=.fn (.func gf) first caps)(hfn:C.P.funcs[gf]? = some fn)(hbody:fn.body=some c) 
    (hc2:fn.results.isEmpty=true) (hne:∀ id,e1 ≠ .exit id) (hcl:qX st1.heap=true) (hend:ng (iz (bn st1.heap st.next))=some e2)
    {nn:Nat} {ρ:ae} {a:Act} {w:World} {Q:Exit→Act→World→Prop} (hpn:ρ.pin.2=none) (hs:SR ρ st a w)
    (hgo:∀ (ρi:ae) (wi:World) (ai:Act) (Qi:Exit→Act→World→Prop),SR ρi (KJ st fn first caps) ai wi→mc (some ⟨st.next,st.tmps,ps,assign,body⟩) ρi wi (KJ st fn first caps).heap (KJ st fn first caps).next→(∀ b,ρi.ok b→b<st.next+1) →
      (∀ ρ' a' w',jY ρi ρ' wi→gT (ρi.wm (some ⟨st.next,st.tmps,ps,assign,body⟩)) wi w'→SR ρ' st1 a' w'→st.next+1≤st1.next→(∀ b,ρ'.ok b→ρi.ok b∨st.next+1≤b)→mc (some ⟨st.next,st.tmps,ps,assign,body⟩) ρ' w' st1.heap st1.next→Qi e1.real a' w')→c.wpIn (FW none) (nn-1) C.P Qi ai wi)
    (hQ:∀ ρ' a' w',lP none ρ w st.next ⟨st.tmps,sw st1.heap st.next,st1.next⟩ ρ' a' w'→Q e2.real a' w'):(Code.rangeFunc g ps assign body).wpIn (FW none) nn C.P Q a w:=by
  refine wpIn_rangeFunc ?_
  intro f0 _
  have hg:=zD hs.heap.rom hs.tmps g
  rw [hev] at hg
  generalize hgv:a.eval g=gv at hg
  cases hg with | fn _ _ _ c1 c2 v1 v2 =>
  obtain ⟨w1,hw1⟩:∃ w1,(w.alloc (.deferred (some []))).alloc (.loop { state:=.ready,pending:=none,fn:=f0,tmps:=a.tmps,params:=ps,assign,body,defers:=w.heap.size })=w1:=⟨_,rfl⟩
  refine ⟨w.heap.size+1,[{ target:=.collected w.heap.size,args:=#[] }],w1,{ target:=.fn (.func gf) c2,args:=c1 ++ #[Value.func (.yield (w.heap.size+1)) #[] #[]] },w1,gf,c1 ++ #[Value.func (.yield (w.heap.size+1)) #[] #[]]++c2,w1,?_,?_,fun _ _=>trivial,?_,JI,?_⟩
  · rw [←hw1];exact run_enterLoop_outer _ _ _ _ _
  · simp only [resolve,hgv]
    simp [Deferred.ofValue,Act.eval]
  · have eg:=hC.enter gf fn (c1 ++ #[Value.func (.yield (w.heap.size+1)) #[] #[]]++c2) w1 hfn (by rw [hbody];rfl)
    simp only [invoke]
    exact eg
  have hsz1:w1.heap.size=w.heap.size+2:=by rw [←hw1];simp
  have hD1:w1.heap[w.heap.size]? = some (.deferred (some [])):=by
    rw [←hw1,iD (by simp),ee]
  have hL1:w1.heap[w.heap.size+1]? = some (.loop { state:=.ready,pending:=none,fn:=f0,tmps:=a.tmps,params:=ps,assign,body,defers:=w.heap.size }):=by
    rw [←hw1]
    have:=ee (w.alloc (.deferred (some []))) (.loop { state:=.ready,pending:=none,fn:=f0,tmps:=a.tmps,params:=ps,assign,body,defers:=w.heap.size })
    simpa using this
  have W1:gT ρ.live w w1:=by rw [←hw1];exact (gT.alloc _ _ _).trans (gT.alloc _ _ _) (fun _ _ q=>q)
  have same1:∀ b,b<w.heap.size→w1.heap[b]? = w.heap[b]?:=fun b hb=>by
    rw [←hw1,iD (by simp;omega),iD hb]
  have nlive:∀ b,w.heap.size≤b→¬ ρ.live b:=fun b hb q=>by have:=hs.heap.liveLt b q;omega
  have nok : ¬ ρ.ok st.next:=fun q=>by have:=hs.heap.lt _ q;omega
  have tmps1:∀ {l:List AV} {us:List Value},cU ρ w l us→cU (ρ.pinned (w1.heap.size,some (w.heap.size+1,st.next))) w1 l us:=fun hv=>(hv.mono (jY.refl _ _) W1).noPin hpn _
  have hH1:HR (ρ.pinned (w1.heap.size,some (w.heap.size+1,st.next))) w1 (eW st.heap st.next (.vs [])) (st.next+1):=by
    refine HR.ghost ((((hs.heap.step W1 (fun bl hl=>same1 bl (hs.heap.liveLt bl hl))).noPin hpn _)).le (Nat.le_succ _)) nok (Nat.lt_succ_self _) trivial (fun x=>rfl)
  have hargs:cU (ρ.pinned (w1.heap.size,some (w.heap.size+1,st.next))) w1 ((first ++ .yld st.next::caps)++List.replicate (fn.ntmps-(first ++ .yld st.next::caps).length) (.tup []))
      ((c1 ++ #[Value.func (.yield (w.heap.size+1)) #[] #[]]++c2)++Array.replicate (fn.ntmps-(c1 ++ #[Value.func (.yield (w.heap.size+1)) #[] #[]]++c2).size) undef).toList:=by
    have l1:=v1.length
    have l2:=v2.length
    have e:(first++AV.yld st.next::caps).length=(c1 ++ #[Value.func (.yield (w.heap.size+1)) #[] #[]]++c2).size:=by simp at l1 l2 ⊢;omega
    rw [e]
    have hrep:∀ n,cU (ρ.pinned (w1.heap.size,some (w.heap.size+1,st.next))) w1 (List.replicate n (.tup [])) (List.replicate n undef):=by
      intro n
      induction n with
      | zero=>exact .nil
      | succ n ih=>exact .cons _ _ _ _ (.tup [] #[] .nil) ih
    have hmid:cU (ρ.pinned (w1.heap.size,some (w.heap.size+1,st.next))) w1 (.yld st.next::caps) (Value.func (.yield (w.heap.size+1)) #[] #[]::c2.toList):=.cons _ _ _ _ (.yld _ _ rfl) (tmps1 v2)
    have hall:=cU.append (hrep (fn.ntmps-(c1 ++ #[Value.func (.yield (w.heap.size+1)) #[] #[]]++c2).size)) (cU.append hmid (tmps1 v1))
    simpa using hall
  refine callsIn_of_wp_marks hfn hbody trivial ?_ rfl
  have S0:SR (ρ.pinned (w1.heap.size,some (w.heap.size+1,st.next))) ⟨(first ++ .yld st.next::caps)++List.replicate (fn.ntmps-(first ++ .yld st.next::caps).length) (.tup []),eW st.heap st.next (.vs []),st.next+1⟩
      { tmps:=(c1 ++ #[Value.func (.yield (w.heap.size+1)) #[] #[]]++c2)++Array.replicate (fn.ntmps-(c1 ++ #[Value.func (.yield (w.heap.size+1)) #[] #[]]++c2).size) undef,defers:=[] } w1:=⟨Nat.le_refl _,hargs,hH1⟩
  have P0:mc (some ⟨st.next,st.tmps,ps,assign,body⟩) (ρ.pinned (w1.heap.size,some (w.heap.size+1,st.next))) w1 (eW st.heap st.next (.vs [])) (st.next+1) :=
    ⟨nok,Nat.lt_succ_self _,w.heap.size+1,rfl,nlive _ (by omega),.ready,none,by rw [cS,if_pos rfl];rfl,_,hL1,rfl,rfl,rfl,rfl,rfl,tmps1 hs.tmps⟩
  refine hgo _ _ _ _ S0 P0 (fun b q=>Nat.lt_succ_of_lt (hs.heap.lt b q)) fun ρ1 a1 w2 P1e P1w P1s P1l P1b P1p=>?_
  obtain ⟨s,pe,hst,hbusy,hcase⟩:=M5 hend
  have E1:=P1e
  have pin1:ρ1.pin=(w1.heap.size,some (w.heap.size+1,st.next)):=E1.pin
  have key:LeavesInM (FW none) (nn-1) C.P fn a1.tmps (rangePost (FW none) nn C.P (w.heap.size+1) Q { a with defers:=[{ target:=.collected w.heap.size,args:=#[] }]++a.defers }) a1.defers .returning w2:=by
    refine zM (ρ:=ρ1) a1.defers P1s.defers fun w3 S3 hb3 hl3=>?_
    refine ⟨.tuple #[],?_,?_⟩
    · have:fn.results = #[]:=by simpa using hc2
      rw [TK,this]
      simp [Array.mapM_eq_mapM_toList]
    rw [pin1] at hb3
    have same2:∀ b,b<w1.heap.size→¬ ρ.live b→b≠w.heap.size+1→w2.heap[b]? = w1.heap[b]?:=fun b hb hnl hne=>P1w.same b hb (by
      rintro (q | ⟨_,k,q⟩)
      · exact hnl q
      · have:(some (w.heap.size+1,st.next):Option (Nat×Nat))=some (b,k):=q
        cases this;exact hne rfl)
    obtain ⟨_,_,L',q3,q4,s',pe',q5,rec,r1,r2,r3,r4,r5,r6,r7⟩:=P1p
    have:L'=w.heap.size+1:=by
      rw [show ρ1.pin.2=some (w.heap.size+1,st.next) from by rw [pin1]] at q3;cases q3;rfl
    subst this
    rw [hst] at q5;cases q5
    have hL3:w3.heap[w.heap.size+1]? = some (.loop rec):=(hb3 _ (by show _<w1.heap.size;omega)).trans r1
    refine ⟨_,_,run_endLoop hL3 (by rw [r2];exact hbusy),?_⟩
    have hlt3:w.heap.size+1<w3.heap.size:=(Array.getElem?_eq_some_iff.1 hL3).1
    have S4:sF w3 (w3.putObj (w.heap.size+1) (.loop { rec with state:=.exhausted })):=sF.put hL3 (.inl ⟨_,rfl⟩) (.inl ⟨_,rfl⟩)
    obtain ⟨w4,hw4⟩:∃ w4,w3.putObj (w.heap.size+1) (.loop { rec with state:=.exhausted })=w4:=⟨_,rfl⟩
    rw [hw4] at S4 ⊢
    have same4:∀ b,b≠w.heap.size+1→w4.heap[b]? = w3.heap[b]?:=fun b hb=>by rw [←hw4];exact World.putObj_heap_other hb
    have sameAll:∀ b,b<w1.heap.size→¬ ρ.live b→b≠w.heap.size+1→w4.heap[b]? = w1.heap[b]?:=fun b h1 h2 h3=>(same4 b h3).trans ((hb3 b h1).trans (same2 b h1 h2 h3))
    have W2:=P1w
    have W4:gT ρ.live w w4:=by
      refine ⟨S4.os.trans (S3.os.trans (W2.os.trans W1.os)),S4.tape.trans (S3.tape.trans (W2.tape.trans W1.tape)),S4.output.trans (S3.output.trans (W2.output.trans W1.output)),?_,fun b hb hnl=>(sameAll b (by omega) hnl (by omega)).trans (same1 b hb),fun b c t z hcell=>?_⟩
      · rw [S4.size,S3.size];have:=W2.size;omega
      · obtain ⟨c1,k1,k2⟩:=W1.sized b c t z hcell
        obtain ⟨c2,k3,k4⟩:=W2.sized b c1 t z k1
        exact ⟨c2,S4.cells (S3.cells k3),k4.trans k2⟩
    have E4:jY ρ (ρ1.pinned ρ.pin) w:=⟨E1.at_,E1.ok,E1.live,fun b hb q=>E1.new b (by omega) q,E1.out,rfl⟩
    have P4:lP none ρ w st.next ⟨st.tmps,sw st1.heap st.next,st1.next⟩ (ρ1.pinned ρ.pin) { a with defers:=[{ target:=.collected w.heap.size,args:=#[] }]++a.defers } w4:=by
      refine ⟨.of E4 W4,⟨⟨⟨w.heap.size,rfl,(show ρ.pin.1≤_ from JP hs.defers),?_,fun q=>nlive _ (Nat.le_refl _) (E1.new w.heap.size (by omega) q),?_,O2 hs.defers⟩,hs.defers.mono E4 W4⟩,hs.tmps.mono E4 W4,?_⟩,Nat.le_trans (Nat.le_succ _) P1l,fun b q=>?_,trivial⟩
      · have:=W4.size;have:=W2.size;rw [S4.size,S3.size];omega
      · exact (sameAll _ (by omega) (nlive _ (Nat.le_refl _)) (by omega)).trans hD1
      · exact (((P1s.heap.soft S3).soft S4).pinned ρ.pin hcl).del _
      · rcases P1b b q with q | q
        · exact .inl q
        · exact .inr (Nat.le_trans (Nat.le_succ _) q)
    rcases hcase with ⟨rfl,rfl⟩ | ⟨rfl,rfl⟩ | ⟨id,rfl,rfl⟩
    · rw [r3];exact hQ _ _ _ P4
    · rw [r3];exact wpIn_ret (hQ _ _ _ P4)
    · rw [r3];exact wpIn_exit (hQ _ _ _ P4)
  cases e1 with
  | normal=>exact key
  | ret=>exact key
  | exit id=>exact (hne id rfl).elim
theorem TL{C:tL}(hC:C.Ok){self:md}(hself:tT C.P self){g:Operand}{ps:Array Tmp}{assign body:Code}{st st':aH}{p p':dY}{e:AE}{obs:List Bool}(h:KG C self g ps assign body st p=some (e,st',obs,p'))(ho:aG obs) 
    {nn:Nat} {ρ:ae} {a:Act} {w:World} {Q:Exit→Act→World→Prop} (hpn:ρ.pin.2=none) (hs:SR ρ st a w) (hQ:∀ ρ' a' w',lP none ρ w st.next st' ρ' a' w'→Q e.real a' w'):(Code.rangeFunc g ps assign body).wpIn (FW none) nn C.P Q a w:=by
  unfold KG at h
  split at h
  case h_2=>cases h
  rename_i gf first caps hev
  split at h
  case h_2=>cases h
  rename_i fn hfn
  split at h
  case h_2=>cases h
  rename_i c hbody
  cases hc:(fH c&&fn.results.isEmpty) with
  | false=>rw [hc] at h;cases h
  | true =>
  rw [hc] at h
  rw [Bool.and_eq_true] at hc
  simp only [cond_true] at h
  split at h
  · cases h
  case h_3=>cases h
  rename_i e1 st1 o1 p1 hne h1
  cases hcl:qX st1.heap with
  | false=>rw [hcl] at h;cases h
  | true =>
  rw [hcl] at h
  simp only [cond_true] at h
  split at h
  case h_2=>cases h
  rename_i e2 hend
  simp only [Option.some.injEq,Prod.mk.injEq] at h;obtain ⟨rfl,rfl,rfl,rfl⟩:=h
  exact O3 hC hev hfn hbody hc.2 hne hcl hend hpn hs (fun ρi wi ai Qi S0 P0 _ hQi=>hself (some ⟨st.next,st.tmps,ps,assign,body⟩) c _ _ _ _ _ _ h1 ho none _ ρi ai wi _ (.inl hc.1) S0 P0 fun ρ' a' w' P1=>hQi ρ' a' w' P1.stp.ext P1.stp.wle P1.sr P1.le P1.back P1.pin) hQ
theorem QK{C:tL}(hC:C.Ok){run:eC}(hrun:Kk C.P run){N:Nat}{self:md}(hself:tT C.P self) :tT C.P (Gk C run N self):=by
  intro y c st p e st' obs p' h ho ro nn ρ a w Q hm hs hp hQ
  unfold Gk at h
  simp only at h
  split at h
  · simp only [Option.some.injEq,Prod.mk.injEq] at h;obtain ⟨rfl,rfl,rfl,rfl⟩:=h
    exact wpIn_skip (hQ ρ a w (lP.refl hs hp))
  · simp only [Option.some.injEq,Prod.mk.injEq] at h;obtain ⟨rfl,rfl,rfl,rfl⟩:=h
    exact wpIn_label (hQ ρ a w (lP.refl hs hp))
  · exact QJ hC hrun (aee hself y) h ho hs hp hQ
  · rename_i x z
    refine wpIn_seq ?_
    split at h
    · rename_i st1 o1 p1 h1
      split at h
      case h_2=>cases h
      rename_i e2 vH o2 p2 h2
      simp only [Option.some.injEq,Prod.mk.injEq] at h;obtain ⟨rfl,rfl,rfl,rfl⟩:=h
      rw [bt] at ho
      refine hself y x st p _ _ _ _ h1 ho.1 ro nn ρ a w _ (hm.sub fun q=>by simp only [fH,Bool.and_eq_true] at q;exact q.1) hs hp fun ρ1 a1 w1 P1=>?_
      exact hself y z st1 p1 _ _ _ _ h2 ho.2 ro nn ρ1 a1 w1 Q ((hm.sub fun q=>by simp only [fH,Bool.and_eq_true] at q;exact q.2).ext P1.stp.ext) P1.sr P1.pin fun ρ2 a2 w2 P2=>hQ ρ2 a2 w2 (P1.trans P2)
    · rename_i hne
      refine hself y x st p _ _ _ _ h ho ro nn ρ a w _ (hm.sub fun q=>by simp only [fH,Bool.and_eq_true] at q;exact q.1) hs hp fun ρ1 a1 w1 P1=>?_
      have:=hQ ρ1 a1 w1 P1
      cases e with
      | normal=>exact (hne _ _ _ h).elim
      | ret=>exact this
      | exit id=>exact this
  · rename_i cc x z
    split at h
    case h_2=>cases h
    rename_i b o1 p1 h1
    split at h
    case h_2=>cases h
    rename_i e2 vH o2 p2 h2
    simp only [Option.some.injEq,Prod.mk.injEq] at h;obtain ⟨rfl,rfl,rfl,rfl⟩:=h
    rw [bt] at ho
    have hb:=C4 (zD hs.heap.rom hs.tmps cc) h1 ho.1
    refine wpIn_cond hb ?_
    have hs':SR ρ { st with tmps:=sI st.tmps cc b } a w:=by
      refine ⟨hs.defers,?_,hs.heap⟩
      cases cc with
      | tmp t =>
        simp only [sI,Bf]
        have:cU ρ w (st.tmps.set t (.bool true b)) (a.tmps.toList.set t (.bool b)):=hs.tmps.set (.bool _ _) t
        have e:a.tmps.toList.set t (.bool b)=a.tmps.toList:=by
          apply List.ext_getElem?
          intro j
          rw [List.getElem?_set]
          split
          · rename_i q;subst q
            split
            · rename_i hlt
              simp only [Act.eval] at hb
              rw [Array.getD_eq_getD_getElem?] at hb
              have hlt':t<a.tmps.size:=by simpa using hlt
              rw [Array.getElem?_eq_getElem hlt'] at hb
              simp only [Option.getD_some] at hb
              simp [hlt',hb]
            · rename_i hge
              rw [List.getElem?_eq_none (by omega)]
          · rfl
        rw [e] at this;exact this
      | const v=>exact hs.tmps
      | global g=>exact hs.tmps
      | func f=>exact hs.tmps
    have:=hself y _ _ p1 _ _ _ _ h2 ho.2 ro nn ρ a w Q (hm.sub fun q=>by simp only [fH,Bool.and_eq_true] at q;cases b<;>first | exact q.1 | exact q.2) hs' hp hQ
    cases b<;>exact this
  · rename_i id b
    refine wpIn_block ?_
    split at h
    · rename_i id' st1 o1 p1 h1
      cases hid:Nat.beq id' id with
      | true =>
        rw [hid] at h
        simp only [cond_true,Option.some.injEq,Prod.mk.injEq] at h;obtain ⟨rfl,rfl,rfl,rfl⟩:=h
        refine hself y b st p _ _ _ _ h1 ho ro nn ρ a w _ (hm.sub fun q=>by simpa only [fH] using q) hs hp fun ρ1 a1 w1 P1=>?_
        simp only [AE.real,Exit.inBlock,Nat.eq_of_beq_eq_true hid,if_true]
        exact hQ ρ1 a1 w1 P1
      | false =>
        rw [hid] at h
        simp only [cond_false,Option.some.injEq,Prod.mk.injEq] at h;obtain ⟨rfl,rfl,rfl,rfl⟩:=h
        refine hself y b st p _ _ _ _ h1 ho ro nn ρ a w _ (hm.sub fun q=>by simpa only [fH] using q) hs hp fun ρ1 a1 w1 P1=>?_
        have hne : ¬ id'=id:=fun e=>by subst e;simp [mJ] at hid
        simp only [AE.real,Exit.inBlock,hne,if_false]
        exact hQ ρ1 a1 w1 P1
    · rename_i hne
      refine hself y b st p _ _ _ _ h ho ro nn ρ a w _ (hm.sub fun q=>by simpa only [fH] using q) hs hp fun ρ1 a1 w1 P1=>?_
      have:=hQ ρ1 a1 w1 P1
      cases e with
      | normal=>exact this
      | ret=>exact this
      | exit id=>exact (hne _ _ _ _ h).elim
  · rename_i b
    exact wpIn_loop_rounds N (KH (C:=C) (b:=b) (fun st p e st' obs p' h1 h2 ρ a w Q hm=>hself y b st p e st' obs p' h1 h2 ro nn ρ a w Q hm) N st p e st' obs p' h ho ρ a w Q (hm.sub fun q=>by simpa only [fH] using q) hs hp hQ)
  · simp only [Option.some.injEq,Prod.mk.injEq] at h;obtain ⟨rfl,rfl,rfl,rfl⟩:=h
    exact wpIn_exit (hQ ρ a w (lP.refl hs hp))
  · simp only [Option.some.injEq,Prod.mk.injEq] at h;obtain ⟨rfl,rfl,rfl,rfl⟩:=h
    exact wpIn_ret (hQ ρ a w (lP.refl hs hp))
  · rename_i b
    rcases hm with q | ⟨rfl,rfl,hpn⟩
    · cases q
    refine wpIn_wide.2 (wp_scope_straight (wpIn_wide.1 (hself none b st p _ _ _ _ h ho none nn ρ a w _ (.inr ⟨rfl,rfl,hpn⟩) hs hp fun ρ1 a1 w1 P1=>?_)))
    have:=hQ ρ1 a1 w1 P1
    cases e<;>exact this
  · rename_i g ps assign body
    split at h
    case h_2=>cases h
    rcases hm with q | ⟨rfl,_,q⟩
    · cases q
    · exact TL hC hself h ho q hs hQ
  · cases h
theorem tT.old{P:Program}{self:md}(h:tT P self) :QI P (self none):=by
  intro c st p e st' obs p' hr ho ρ a w Q hpn hs hQ
  exact wpIn_wide.1 (h none c st p e st' obs p' hr ho none 0 ρ a w Q (.inr ⟨rfl,rfl,hpn⟩) hs trivial fun ρ' a' w' P1=>hQ ρ' a' w' P1.old)
theorem KK{P:Program}{w:World}{t:TypeId}{x:Value}{u:Value}(hx:∃ a,x=.pointer (some a))(h:(Instr.loadAt t x).run P w=.ok u w) :(do loadVar t (←asAddr x):Sem Value).run P w=.ok u w:=by
  obtain ⟨a,rfl⟩:=hx
  simpa [Instr.loadAt,Instr.sureAddr,asAddr] using h
def KL(tmps:Array Value) :ResultVar→Sem Value
  | .tmp t=>pure (tmps.getD t undef)
  | .cell x t=>do loadVar t (←asAddr (tmps.getD x undef))
theorem XF(fn:Func)(tmps:Array Value) :results fn tmps=(do let vs ← fn.results.mapM (KL tmps);pure (if h:vs.size=1 then vs[0] else .tuple vs)):=by
  unfold results
  congr 1
theorem zT{P:Program}{fn:Func}{st:aH}{ρ:ae}{a:Act}{w:World}(hs:SR ρ st a w) :∀ (l:List ResultVar) {vs:List AV} {obs:List Bool},jH P fn st l=some (vs,obs)→aG obs →
    ∃ us:List Value,(l.mapM (KL a.tmps)).run P w=.ok us w∧cU ρ w vs us
  | [],vs,obs,h,ho=>by
    simp only [jH,Option.some.injEq,Prod.mk.injEq] at h;obtain ⟨rfl,rfl⟩:=h
    exact ⟨[],by simp,.nil⟩
  | .tmp t::l,vs,obs,h,ho=>by
    simp only [jH] at h
    split at h
    case h_2=>cases h
    rename_i vs' o' h1
    simp only [Option.some.injEq,Prod.mk.injEq] at h;obtain ⟨rfl,rfl⟩:=h
    obtain ⟨us,q1,q2⟩:=zT hs l h1 ho
    refine ⟨a.tmps.getD t undef::us,?_,.cons _ _ _ _ (zD hs.heap.rom hs.tmps (.tmp t)) q2⟩
    simp only [List.mapM_cons,KL,Sem.run_bind,Sem.run_pure,Result.andThen_ok,q1]
  | .cell x t::l,vs,obs,h,ho=>by
    simp only [jH] at h
    split at h
    case h_2=>cases h
    rename_i v o rs vs' o' h1 h2
    simp only [Option.some.injEq,Prod.mk.injEq] at h;obtain ⟨rfl,rfl⟩:=h
    rw [bt] at ho
    obtain ⟨us,q1,q2⟩:=zT hs l h2 ho.2
    have hv:=zD hs.heap.rom hs.tmps (.tmp x)
    simp only [W6,Act.eval] at hv
    obtain ⟨u,r1,r2⟩:=HO (P:=P) hs.heap hv h1 ho.1
    have hp:∃ ad,a.tmps.getD x undef=.pointer (some ad):=by
      generalize a.tmps.getD x undef=z at hv
      unfold Ch at h1
      simp only at h1
      split at h1
      · rename_i e;rw [e] at hv;cases hv;exact ⟨_,rfl⟩
      · rename_i e;rw [e] at hv;cases hv;exact ⟨_,rfl⟩
      · cases h1
    have:=KK hp r1
    refine ⟨u::us,?_,.cons _ _ _ _ r2 q2⟩
    simp only [List.mapM_cons,KL,Sem.run_bind] at this ⊢
    rw [this]
    simp only [Result.andThen_ok,Sem.run_bind,q1,Sem.run_pure]
theorem TM{P:Program}{fn:Func}{st:aH}{ρ:ae}{a:Act}{w:World}(hs:SR ρ st a w){vs:List AV}{obs:List Bool}(h:jH P fn st fn.results.toList=some (vs,obs))(ho:aG obs) :
    ∃ v,(results fn a.tmps).run P w=.ok v w∧VR ρ w (Gl vs) v:=by
  obtain ⟨us,q1,q2⟩:=zT hs fn.results.toList h ho
  have hl:=q2.length
  have hm:(fn.results.mapM (KL a.tmps)).run P w=.ok us.toArray w:=by
    rw [Array.mapM_eq_mapM_toList,map_eq_pure_bind,Sem.run_bind,q1,Result.andThen_ok,Sem.run_pure]
  rw [XF,Sem.run_bind,hm,Result.andThen_ok]
  match vs,us,q2,hl with
  | [],[],q2,_=>exact ⟨.tuple #[],rfl,.tup _ _ .nil⟩
  | [v],[u],q2,_=>cases q2 with | cons _ _ _ _ h1 _=>exact ⟨u,rfl,h1⟩
  | v::v'::vs,u::u'::us,q2,_ =>
    refine ⟨.tuple (u::u'::us).toArray,?_,.tup _ _ q2⟩
    simp
theorem zU{P:Program}{f:FuncId}{fn:Func}{c:Code}(hf:P.funcs[f]? = some fn)(hc:fn.body=some c){lent:List aI}{args:List AV}{r:gw}{keep:Bool} 
    (h:∀ (ρ:ae) (w:World) (a:Act),ik ρ w lent→SR ρ (pW fn lent args) a w →
      c.wp P (fun e a' w'=>(e=.normal∨e=.ret)∧∃ ρ' st' vs obs,jY ρ ρ' w∧gT ρ.live w w'∧(∀ i,i<lent.length→ρ'.ok i→ρ.ok i)∧SR ρ' st' a' w'∧jH P fn st' fn.results.toList=some (vs,obs)∧aG obs∧KF lent.length keep st'.heap (Gl vs)=some r) a w):aj P f lent args r:=by
  intro ρ0 w us hN0 hv0
  refine ⟨⟨fn,hf,by rw [hc];rfl⟩,?_⟩
  have hv:=hv0.noPin hN0.pin (w.heap.size,none)
  have hN:ik (ρ0.pinned (w.heap.size,none)) w lent:=⟨hN0.heap.noPin hN0.pin _,hN0.only,rfl⟩
  generalize hρ:ρ0.pinned (w.heap.size,none)=ρ at hv hN
  have hb0:ρ.pin.1=w.heap.size:=by rw [←hρ];rfl
  have hlive:ρ.live=ρ0.live:=by rw [←hρ];rfl
  refine callsIn_wide.1 (callsIn_of_wp_marks (F:=FW none) (n:=0) hf hc trivial (wpIn_wide.2 ?_) rfl)
  have hlen:=hv.length
  have hs:SR ρ (pW fn lent args) { tmps:=us.toArray++Array.replicate (fn.ntmps-us.toArray.size) undef,defers:=[] } w:=by
    refine ⟨Nat.le_of_eq hb0,?_,hN.heap⟩
    simp only [pW,Array.toList_append,Array.toList_replicate,List.size_toArray,hlen]
    refine cU.append ?_ hv
    have:∀ n,cU ρ w (List.replicate n (.tup [])) (List.replicate n undef):=by
      intro n
      induction n with
      | zero=>exact .nil
      | succ n ih=>exact .cons _ _ _ _ (.tup [] #[] .nil) ih
    exact this _
  refine wp_mono (h ρ w _ hN hs) ?_
  rintro e a' w' ⟨he,ρ',st',vs,obs,E,W,hbk,S,hr,hob,hkeep⟩
  have Aj:LeavesInM (FW none) 0 P fn a'.tmps (fun e w'=>∃ u,e=.returned u∧gT ρ0.live w w'∧r.Holds ρ0 w w' lent.length u) a'.defers .returning w':=by
    refine zM a'.defers S.defers fun w'' Sf hb _=>?_
    have S':SR ρ' st' { a' with defers:=[] } w'':=⟨by show ρ'.pin.1≤_;rw [Sf.size];exact JP S.defers,S.tmps.soft Sf,S.heap.soft Sf⟩
    have W':gT ρ.live w w'':=⟨Sf.os.trans W.os,Sf.tape.trans W.tape,Sf.output.trans W.output,by rw [Sf.size];exact W.size,fun b hlt hnl=>(hb b (by rw [E.pin,hb0];exact hlt)).trans (W.same b hlt hnl),fun b c t z q=>by
      obtain ⟨c',k1,k2⟩:=W.sized b c t z q
      exact ⟨c',Sf.cells k1,k2⟩⟩
    obtain ⟨v,q1,q2⟩:=TM S' hr hob
    refine ⟨v,q1,v,rfl,by rw [←hlive];exact W',?_⟩
    obtain ⟨ρ2,E2,k2,H2,v2⟩:=TJ S'.heap hN E hbk W'.size q2 hkeep
    have hp2:ρ2.pin.2=none:=by rw [E2.pin];exact hN.pin
    subst hρ
    exact ⟨ρ2.pinned ρ0.pin,⟨E2.at_,E2.ok,E2.live,E2.new,E2.out,rfl⟩,k2,H2.noPin hp2 _,v2.noPin hp2 _⟩
  rcases he with rfl | rfl
  · exact Aj
  · exact Aj
theorem TN{C:tL}{S:vR}(hS:aP C.P S){self:wJ}(hself:QI C.P self) :Kk C.P (oM C S self):=by
  intro f lent args p r obs p' h ho
  unfold oM at h
  split at h
  · rename_i alts hs
    simp only [Option.map_eq_some_iff,Prod.mk.injEq] at h
    obtain ⟨⟨alt,q⟩,h1,rfl,rfl,rfl⟩:=h
    exact hS f lent args alts alt hs (abq h1) ho
  · split at h
    case h_2=>cases h
    rename_i fn hf
    split at h
    case h_2=>cases h
    rename_i c hc
    split at h
    case h_2=>cases h
    rename_i e st o1 p1 hr
    cases hres:jH C.P fn st fn.results.toList with
    | none=>rw [hres] at h;cases e<;>cases h
    | some x =>
      obtain ⟨vs,o2⟩:=x
      rw [hres] at h
      have key:∀ (he:e=.normal∨e=.ret),(match KF lent.length (C.mode f).keep st.heap (Gl vs) with | some r=>some (r,o1++o2,p1) | none=>none)=some (r,obs,p')→aj C.P f lent args r:=by
        intro he h
        split at h
        case h_2=>cases h
        rename_i r' hk
        simp only [Option.some.injEq,Prod.mk.injEq] at h;obtain ⟨rfl,rfl,rfl⟩:=h
        rw [bt] at ho
        refine zU (keep:=(C.mode f).keep) hf hc fun ρ w a hN hs=>?_
        refine hself c _ p e st o1 p1 hr ho.1 ρ a w _ hN.pin hs fun ρ' a' w' P1=>⟨?_,ρ',st,vs,o2,P1.ext,P1.wle,fun i hi q=>?_,P1.sr,hres,ho.2,hk⟩
        · rcases he with rfl | rfl
          · exact .inl rfl
          · exact .inr rfl
        · rcases P1.back i q with q | q
          · exact q
          · simp only [pW] at q;omega
      cases e with
      | normal=>exact key (.inl rfl) h
      | ret=>exact key (.inr rfl) h
      | exit id=>cases h
theorem tU{C:tL}(hC:C.Ok){S:vR}(hS:aP C.P S)(N:Nat) :∀ n,tT C.P (zS C S N n)
  | 0=>fun y c st p e st' obs p' h=>by cases h
  | n+1=>QK hC (TN hS (tU hC hS N n).old) (tU hC hS N n)
theorem KM{C:tL}(hC:C.Ok){S:vR}(hS:aP C.P S)(N:Nat)(n:Nat) :QI C.P (ia C S N n):=(tU hC hS N n).old
theorem IN{C:tL}(hC:C.Ok){S:vR}(hS:aP C.P S)(N n:Nat){f:FuncId}{lent:List aI}{args:List AV}{p p':dY}{r:gw}{obs:List Bool}(h:oM C S (ia C S N n) f lent args p=some (r,obs,p'))(ho:aG obs) :
    aj C.P f lent args r:=TN hS (KM hC hS N n) f lent args p r obs p' h ho
def JQ:List (Nat×IM)→Nat→Option IM
  | [],_=>none
  | (k,e)::l,f=>bif Nat.beq k f then some e else JQ l f
def TO:List (Nat×acD)→Nat→acD
  | [],_=>⟨[],false⟩
  | (k,m)::l,f=>bif Nat.beq k f then m else TO l f
def aag(P:Program)(l:List (Nat×IM))(ms:List (Nat×acD)) :tL:={ P,ext:=JQ l,mode:=TO ms,wrap:=false }
theorem H4:∀ {l:List (Nat×IM)} {f:Nat} {k:IM},JQ l f=some k→(f,k)∈l
  | [],f,k,h=>by cases h
  | (a,e)::l,f,k,h=>by
    simp only [JQ] at h
    cases hb:Nat.beq a f with
    | true=>rw [hb] at h;simp only [cond_true,Option.some.injEq] at h;have:=Nat.eq_of_beq_eq_true hb;subst this;subst h;simp
    | false=>rw [hb] at h;simp only [cond_false] at h;exact List.mem_cons_of_mem _ (H4 h)
structure O4 (P:Program) (f:Nat) (k:IM):Prop where
  fn : ∃ fn, P.funcs[f]? = some fn ∧ (fn.name == "runtime.NumGoroutine") = false ∧ fn.body.isNone = true ∧ Extern.findNext fn = none ∧ Extern.find fn = some (zK k)
def aah(P : Program) : Bool := P.funcs.toList.all fun fn => !(fn.name == "runtime.NumGoroutine")
theorem acJ{P:Program}{l:List (Nat×IM)}{ms:List (Nat×acD)}(hm:P.follows .mixedOrders=true)(hn:aah P=true)(he:∀ x∈l,O4 P x.1 x.2) :(aag P l ms).Ok:=by
  refine ⟨hm,fun f fn args w hf hb=>?_,fun f k args w hk=>?_⟩
  · have h1 : fn.name ≠ "runtime.NumGoroutine" := by
      have hmem:fn∈P.funcs.toList:=by
        have:fn∈P.funcs:=Array.mem_of_getElem? hf
        simpa using this
      have:=List.all_eq_true.1 hn fn hmem
      simpa using this
    have h2:fn.body≠none:=by intro q;rw [q] at hb;cases hb
    have hf':P.funcs[f]? = some fn:=hf
    have h3:fn.body.isNone=false:=by cases hq:fn.body<;>simp_all
    simp only [aag,callFunc,Sem.run_bind,run_program,Result.andThen_ok,hf',beq_eq_false_iff_ne.2 h1,Bool.false_eq_true,if_false,h3,Sem.run_pure]
  · obtain ⟨fn,h1,h2,h3,h4,h5⟩:=(he _ (H4 hk)).fn
    have:=run_callFunc_extern (P:=P) h1 h2 h3 h4 h5 args w
    simp only [aag]
    rw [this,Sem.run_bind]
    rfl
def At(k:Nat)(ρ0:ae)(w0:World)(st:aH)(a:Act)(w:World) :Prop:=∃ ρ,jY ρ0 ρ w0∧gT ρ0.live w0 w∧SR ρ st a w∧(∀ i,i<k→ρ.ok i→ρ0.ok i)∧k≤st.next
def Sub(lent:List aI)(st st':aH) :Prop:=∀ ρ0 w0 a w,ik ρ0 w0 lent→At lent.length ρ0 w0 st a w→At lent.length ρ0 w0 st' a w
theorem Sub.refl(lent:List aI)(st:aH) :Sub lent st st:=fun _ _ _ _ _ h=>h
theorem Sub.trans{lent:List aI}{a b c:aH}(h:Sub lent a b)(k:Sub lent b c) :Sub lent a c:=fun _ _ _ _ hN q=>k _ _ _ _ hN (h _ _ _ _ hN q)
def TP:AV→AV
  | .flt _ x=>.flt false x
  | .bool _ b=>.bool false b
  | v=>v
def nmB(σ:Nat→Option Nat) :aI→aI
  | .vs l=>.vs ((nmL σ l).map TP)
  | d=>d
def uY(σ:Nat→Option Nat)(h:bR) :Nat→List Nat→bR
  | _,[]=>[]
  | i,b::l=>match bn h b with
    | some d=>(i,nmB σ d)::uY σ h (i+1) l
    | none=>uY σ h (i+1) l
def afW(b:Bool)(v u:AV) :AV :=
  match b with
  | true=>v
  | false=>u
def aeY:List (Nat×AV)→Nat→AV
  | [],_=>.any
  | (k,v)::l,t=>afW (Nat.beq k t) v (aeY l t)
def O5(L:List (Nat×AV)) :Nat→Nat→List AV
  | _,0=>[]
  | t,n+1=>aeY L t::O5 L (t+1) n
def ah(n:Nat)(L:List (Nat×AV)) :List AV:=O5 L 0 n
def nmT(σ:Nat→Option Nat)(ks:List Nat) :Nat→List AV→List AV
  | _,[]=>[]
  | t,v::l=>(bif qW ks t then TP (TH σ v) else .any)::nmT σ ks (t+1) l
def norm(keep ks:List Nat)(st:aH) :aH :=
  ⟨nmT (iU keep 0) ks 0 st.tmps,uY (iU keep 0) st.heap 0 keep,keep.length⟩
theorem TQ{ρ:ae}{w:World}{v:AV}{u:Value}(h:VR ρ w v u) :VR ρ w (TP v) u:=by
  cases h<;>simp only [TP]<;>first | exact .bool _ _ | (rename_i hf;refine .flt _ _ _ ?_;rcases hf with rfl | ⟨_,h2,h3⟩;exact .inl rfl;exact .inr ⟨rfl,h2,h3⟩) | skip
  case int=>exact .int _ _
  case str=>exact .str _
  case nptr=>exact .nptr
  case ptr hb=>exact .ptr _ _ _ _ hb
  case iptr=>rename_i bw d k i j bl o u' ha hb hr hg hc hv hk;exact .iptr bw d k i j bl o _ (by assumption) (by assumption) (by assumption) (by assumption) (by assumption) (by assumption) (by assumption)
  case nsl=>exact .nsl
  case esl=>exact .esl _
  case zsl=>exact .zsl _ _
  case nan=>exact .nan _ (by assumption)
  case sl=>exact .sl _ _ _ _ _ _ _ (by assumption) (by assumption) (by assumption) _ _ (by assumption) (by assumption)
  case slEnd=>exact .slEnd _ _ _ _ _
  case imm=>exact .imm _ _ _ _ _ _ _ _ _ _ (by assumption) (by assumption) (by assumption) (by assumption) (by assumption) (by assumption) (by assumption) (by assumption)
  case immEnd=>exact .immEnd _ _ _ _ _ _ _ (by assumption) (by assumption) (by assumption)
  case fn=>exact .fn _ _ _ _ _ (by assumption) (by assumption)
  case nfn=>exact .nfn
  case gmap=>exact .gmap _ _ _ _ _ _ (by assumption) (by assumption) (by assumption) (by assumption) (by assumption) (by assumption) (by assumption) (by assumption)
  case gvar=>exact .gvar _ _ _ _ (by assumption) (by assumption) (by assumption)
  case agg=>exact .agg _ _ (by assumption)
  case tup=>exact .tup _ _ (by assumption)
  case iface=>exact .iface _ _ _ (by assumption)
  case niface=>exact .niface
  case yld=>exact .yld _ _ (by assumption)
  case any=>exact .any _
theorem XG{ρ:ae}{keep ks:List Nat}{w:World} :∀ (l:List AV) (t:Nat) {c:List Value},cU ρ w l c→cU (ρ.renamed keep) w (nmT (iU keep 0) ks t l) c
  | [],t,c,h=>by cases h;exact .nil
  | v::l,t,c,h=>by
    cases h with | cons _ u _ c' h1 h2 =>
    simp only [nmT]
    refine .cons _ _ _ _ ?_ (XG l (t+1) h2)
    cases qW ks t with
    | true=>exact TQ (O1 v h1)
    | false=>exact .any u
theorem wK{σ:Nat→Option Nat}{h:bR} :∀ {l:List Nat} {i c:Nat} {d:aI},bn (uY σ h i l) c=some d→i≤c∧∃ b e,l[c-i]? = some b∧bn h b=some e∧d=nmB σ e
  | [],i,c,d,q=>by cases q
  | b::l,i,c,d,q=>by
    simp only [uY] at q
    have next:bn (uY σ h (i+1) l) c=some d→i≤c∧∃ b' e,(b::l)[c-i]? = some b'∧bn h b'=some e∧d=nmB σ e:=by
      intro q
      obtain ⟨h1,b',e,h2,h3,h4⟩:=wK q
      refine ⟨by omega,b',e,?_,h3,h4⟩
      have:c-i=(c-(i+1))+1:=by omega
      rw [this];simpa using h2
    split at q
    · rename_i e he
      simp only [eF,dk] at q
      cases hc:Nat.beq i c with
      | true =>
        rw [hc] at q;simp only [cond_true,Option.some.injEq] at q
        have:=Nat.eq_of_beq_eq_true hc;subst this
        exact ⟨Nat.le_refl _,b,e,by simp,he,q.symm⟩
      | false=>rw [hc] at q;exact next q
    · exact next q
theorem acL{σ:Nat→Option Nat}{d:aI}(h:d.recKept) :(nmB σ d).recKept:=by
  cases d<;>first | exact h | trivial
theorem TR{σ:Nat→Option Nat}{d:aI}{x:Nat}{v:AV}(h:(nmB σ d).cell? x=some v)(hr:d.recKept) :∃ v',d.cell? x=some v'∧(v=TP (TH σ v')∨(v=v'∧v.foreign=true)):=by
  cases d with
  | vs l =>
    simp only [nmB,aI.cell?,List.getElem?_map,QH,Option.map_map,Option.map_eq_some_iff,Function.comp] at h
    obtain ⟨v',h1,rfl⟩:=h
    exact ⟨v',h1,.inl rfl⟩
  | fl xs=>exact ⟨v,h,.inr ⟨rfl,bd (d:=.fl xs) hr rfl x v h⟩⟩
  | ns k xs=>exact ⟨v,h,.inr ⟨rfl,bd (d:=.ns k xs) hr rfl x v h⟩⟩
  | bs xs=>exact ⟨v,h,.inr ⟨rfl,bd (d:=.bs xs) hr rfl x v h⟩⟩
  | ss xs=>exact ⟨v,h,.inr ⟨rfl,bd (d:=.ss xs) hr rfl x v h⟩⟩
  | rows k m get=>exact ⟨v,h,.inr ⟨rfl,bd (d:=.rows k m get) hr rfl x v h⟩⟩
  | cols m cs=>exact ⟨v,h,.inr ⟨rfl,bd (d:=.cols m cs) hr rfl x v h⟩⟩
def QL:Nat→Nat→List Nat→Bool
  | 0,_,_=>true
  | _+1,_,[]=>false
  | k+1,i,b::l=>Nat.beq b i&&QL k (i+1) l
theorem wL:∀ {k i:Nat} {l:List Nat},QL k i l=true→∀ j,j<k→l[j]? = some (i+j)
  | 0,i,l,_,j,hj=>by omega
  | k+1,i,[],h,j,hj=>by cases h
  | k+1,i,b::l,h,j,hj=>by
    simp only [QL,Bool.and_eq_true] at h
    cases j with
    | zero=>simp;exact Nat.eq_of_beq_eq_true h.1
    | succ j=>simp only [List.getElem?_cons_succ];rw [wL h.2 j (by omega)];congr 1;omega
def Db(k:Nat)(keep:List Nat) :Bool:=uT keep&&QL k 0 keep
theorem Dc{ρ:ae}{keep:List Nat}{i b:Nat}(q:keep[i]? = some b) :(ρ.renamed keep).at_ i=ρ.at_ b:=by simp [ae.renamed,q]
theorem aai{keep:List Nat}(hn:uT keep=true){ρ:ae}{w:World}{h:bR}{n:Nat}(hh:HR ρ w h n) :HR (ρ.renamed keep) w (uY (iU keep 0) h 0 keep) keep.length:=by
  have atL:∀ {i b:Nat},keep[i]? = some b→(ρ.renamed keep).at_ i=ρ.at_ b:=fun q=>Dc q
  refine ⟨fun c d q=>?_,fun c c' d d' q q' ok1 ok2 he=>?_,hh.fresh,hh.liveLt,hh.outLt,fun c q=>?_,fun x hx=>eH (hh.rom x hx) (gr (Rom.kept x hx))⟩
  · obtain ⟨_,b,e,h1,h2,rfl⟩:=wK q
    rw [Nat.sub_zero] at h1
    rcases hh.cell b e h2 with ⟨k1,k2,hr,ce,t,r1,r2⟩ | ⟨k1,k2,k3,k4⟩
    · refine .inl ⟨⟨b,h1,k1⟩,by rw [atL h1];exact k2,acL hr,ce,t,by rw [atL h1];exact r1,fun x v hx=>?_⟩
      obtain ⟨v',s1,s2⟩:=TR hx hr
      obtain ⟨u,t1,t2⟩:=r2 x v' s1
      refine ⟨u,t1,?_⟩
      rcases s2 with rfl | ⟨rfl,hf⟩
      · exact TQ (O1 v' t2)
      · exact eH t2 hf
    · refine .inr ⟨?_,(List.getElem?_eq_some_iff.1 h1).1,acL k3,fun x=>?_⟩
      · rintro ⟨b',q1,q2⟩
        rw [h1] at q1;cases q1
        exact k1 q2
      · cases hc:(nmB (iU keep 0) e).cell? x with
        | none=>rfl
        | some v=>obtain ⟨v',s1,_⟩:=TR hc k3;rw [k4 x] at s1;cases s1
  · obtain ⟨_,b,e,h1,h2,rfl⟩:=wK q
    obtain ⟨_,b',e',h1',h2',rfl⟩:=wK q'
    rw [Nat.sub_zero] at h1 h1'
    obtain ⟨x,x1,x2⟩:=ok1
    obtain ⟨y,y1,y2⟩:=ok2
    rw [h1] at x1;cases x1
    rw [h1'] at y1;cases y1
    rw [atL h1,atL h1'] at he
    have:=hh.inj b b' e e' h2 h2' x2 y2 he
    subst this
    exact sE hn h1 h1'
  · obtain ⟨b,h1,_⟩:=q
    exact (List.getElem?_eq_some_iff.1 h1).1
theorem acM{lent:List aI}{keep ks:List Nat}(hk:Db lent.length keep=true)(st:aH) :Sub lent st (norm keep ks st):=by
  unfold Db at hk
  rw [Bool.and_eq_true] at hk
  obtain ⟨hn,hid⟩:=hk
  have idL:∀ {i:Nat},i<lent.length→keep[i]? = some i:=fun q=>by have:=wL hid _ q;simpa using this
  rintro ρ0 w0 a w hN ⟨ρ,E,W,S,hbk,hle⟩
  refine ⟨ρ.renamed keep,⟨fun b q=>?_,fun b q=>⟨b,idL (hN.heap.lt b q),E.ok b q⟩,E.live,E.new,E.out,E.pin⟩,W,⟨S.defers.renamed,XG _ _ S.tmps,aai hn S.heap⟩,fun i hi q=>?_,?_⟩
  · rw [Dc (idL (hN.heap.lt b q))];exact E.at_ b q
  · obtain ⟨b,q1,q2⟩:=q
    rw [idL hi] at q1;cases q1
    exact hbk i hi q2
  · simp only [norm]
    rcases Nat.lt_or_ge keep.length lent.length with q | q
    · have:=idL q
      rw [List.getElem?_eq_none (Nat.le_refl _)] at this;cases this
    · exact q
inductive GP where
  | slot (t:Nat)
  | part (t i:Nat)
  | cell (b i:Nat)
def gi.empty:gi→Bool
  | .cf [] | .ci _ [] | .cb [] | .cs [] | .cfl [] | .cns _ []=>true
  | _=>false
def Ep:List gi→Bool
  | []=>true
  | c::l=>c.empty&&Ep l
def aI.isVoid:aI→Bool
  | .fl [] | .ns _ [] | .bs [] | .ss [] | .vs []=>true
  | .cols 0 cs=>Ep cs
  | _=>false
theorem KN{c:gi}(h:c.empty=true) :c.len=0:=by
  unfold gi.empty at h
  split at h<;>first | rfl | cases h
theorem uZ:∀ {l:List gi},Ep l=true→∀ c∈l,c.len=0
  | [],_,c,hc=>by cases hc
  | c::l,h,x,hx=>by
    simp only [Ep,Bool.and_eq_true] at h
    rcases List.mem_cons.1 hx with rfl | q
    · exact KN h.1
    · exact uZ h.2 x q
theorem zV{d:aI}(h:d.isVoid=true) :d.recKept∧d.void:=by
  unfold aI.isVoid at h
  split at h
  case h_6 =>
    rename_i cs
    have:=uZ h
    refine ⟨this,fun x=>?_⟩
    cases hc:(aI.cols 0 cs).cell? x with
    | none=>rfl
    | some v =>
      obtain ⟨c,_,h2,h3⟩:=gN hc
      have:=zB h3
      rw [uZ h c h2] at this;exact absurd this (Nat.not_lt_zero _)
  case h_7=>cases h
  all_goals exact ⟨trivial,fun x=>by simp [aI.cell?]⟩
theorem KO(b w es:Nat) :bz .nsl (.sl b w es 0 0 0):=by
  intro ρ w' u h;cases h;exact .slEnd _ _ _ _ _
theorem HR.weaken{ρ:ae}{w:World}{h:bR}{n b:Nat}{d d':aI}(hh:HR ρ w h n)(hg:bn h b=some d)(hr:d'.recKept)(hw:∀ x v',d'.cell? x=some v'→∃ v,d.cell? x=some v∧bz v v') :HR ρ w (eW h b d') n:=by
  have look:∀ x e,bn (eW h b d') x=some e→(x=b∧e=d')∨(x≠b∧bn h x=some e):=by
    intro x e hx
    rw [cS] at hx
    by_cases q:b=x
    · rw [if_pos q] at hx;cases hx;exact .inl ⟨q.symm,rfl⟩
    · rw [if_neg q] at hx;exact .inr ⟨fun e=>q e.symm,hx⟩
  have had:∀ x e,bn (eW h b d') x=some e→∃ e',bn h x=some e':=by
    intro x e hx
    rcases look x e hx with ⟨rfl,_⟩ | ⟨_,q⟩
    · exact ⟨d,hg⟩
    · exact ⟨e,q⟩
  refine ⟨fun x e hx=>?_,fun x y e f h1 h2 ok1 ok2 he=>?_,hh.fresh,hh.liveLt,hh.outLt,hh.lt,hh.rom⟩
  · rcases look x e hx with ⟨rfl,rfl⟩ | ⟨_,q⟩
    · rcases hh.cell x d hg with ⟨k1,k2,_,c,t,r1,r2⟩ | ⟨k1,k2,_,k4⟩
      · refine .inl ⟨k1,k2,hr,c,t,r1,fun y v' hy=>?_⟩
        obtain ⟨v,q1,q2⟩:=hw y v' hy
        obtain ⟨u,t1,t2⟩:=r2 y v q1
        exact ⟨u,t1,q2 _ _ _ t2⟩
      · refine .inr ⟨k1,k2,hr,fun y=>?_⟩
        cases hc:e.cell? y with
        | none=>rfl
        | some v'=>obtain ⟨v,q1,_⟩:=hw y v' hc;rw [k4 y] at q1;cases q1
    · exact hh.cell x e q
  · obtain ⟨e',q1⟩:=had x e h1
    obtain ⟨f',q2⟩:=had y f h2
    exact hh.inj x y e' f' q1 q2 ok1 ok2 he
def XH(st:aH)(pos:GP)(w es:Nat)(d:aI) :aH :=
  match pos with
  | .slot t =>
    match st.tmps[t]? with
    | some .nsl=>⟨st.tmps.set t (.sl st.next w es 0 0 0),eW st.heap st.next d,st.next+1⟩
    | some .esl=>⟨st.tmps.set t (.sl st.next w es 0 0 0),eW st.heap st.next d,st.next+1⟩
    | _=>st
  | .part t i =>
    match st.tmps[t]? with
    | some (.agg l) =>
      match l[i]? with
      | some .nsl=>⟨st.tmps.set t (.agg (l.set i (.sl st.next w es 0 0 0))),eW st.heap st.next d,st.next+1⟩
      | _=>st
    | _=>st
  | .cell b i =>
    match bn st.heap b with
    | some (.vs l) =>
      match l[i]? with
      | some .nsl=>⟨st.tmps,eW (eW st.heap b (.vs (l.set i (.sl st.next w es 0 0 0)))) st.next d,st.next+1⟩
      | _=>st
    | _=>st
theorem acN(b w es:Nat) :bz .esl (.sl b w es 0 0 0):=by
  intro ρ w' u h;cases h;exact .slEnd _ _ _ _ _
theorem tV{ρ:ae}{w:World} :∀ {l:List AV} {c:List Value} {i:Nat} {v v':AV},cU ρ w l c→l[i]? = some v→bz v v'→cU ρ w (l.set i v') c
  | _,_,i,v,v',.nil,h,_=>by simp at h
  | _,_,0,v,v',.cons a u l c h t,hi,hw=>by simp at hi;subst hi;exact .cons _ _ _ _ (hw _ _ _ h) t
  | _,_,i+1,v,v',.cons a u l c h t,hi,hw=>.cons _ _ _ _ h (tV t (by simpa using hi) hw)
structure H5 (st st':aH):Prop where
  sr:∀ (ρ:ae) (a:Act) (w:World),SR ρ st a w→SR ρ st' a w
  le:st.next≤st'.next
  mark:∀ b,b<st.next→(iz (bn st.heap b)).isSome=true→bn st'.heap b=bn st.heap b
theorem H5.refl(st:aH) :H5 st st:=⟨fun _ _ _ h=>h,Nat.le_refl _,fun _ _ _=>rfl⟩
theorem H5.trans{a b c:aH}(h:H5 a b)(k:H5 b c) :H5 a c:=⟨fun ρ x w q=>k.sr ρ x w (h.sr ρ x w q),Nat.le_trans h.le k.le,fun x hx hs=>by
  have:=h.mark x hx hs
  exact (k.mark x (Nat.lt_of_lt_of_le hx h.le) (by rw [this];exact hs)).trans this⟩
theorem H5.sub{lent:List aI}{st st':aH}(h:H5 st st') :Sub lent st st':=by
  rintro ρ0 w0 a w' hN ⟨ρ,E,W,S,hbk,hle⟩
  exact ⟨ρ,E,W,h.sr _ _ _ S,hbk,Nat.le_trans hle h.le⟩
theorem O6{h:bR}{b c i:Nat}{l:List AV}{v:AV}{d:aI}(hg:bn h b=some (.vs l))(hi:l[i]? = some v)(hs:(iz (bn h c)).isSome=true) :bn (eW h b d) c=bn h c:=by
  rw [cS]
  by_cases e:b=c
  · subst e
    rw [hg] at hs
    cases l with
    | nil=>simp at hi
    | cons x l=>simp [iz] at hs
  · rw [if_neg e]
theorem XI{st:aH}{pos:GP}{w es:Nat}{d:aI}(hd:d.isVoid=true) :H5 st (XH st pos w es d):=by
  obtain ⟨d1,d2⟩:=zV hd
  have hset1:∀ {h:bR} {b:Nat},b<st.next→bn (eW h st.next d) b=bn h b:=fun hb=>by rw [cS,if_neg (by omega)]
  have hno:∀ {ρ:ae} {a:Act} {w':World},SR ρ st a w'→¬ ρ.ok st.next:=fun S q=>Nat.lt_irrefl _ (S.heap.lt _ q)
  have h1:∀ {ρ:ae} {a:Act} {w':World},SR ρ st a w'→HR ρ w' (eW st.heap st.next d) (st.next+1):=fun S=>(S.heap.le (Nat.le_succ _)).ghost (hno S) (Nat.lt_succ_self _) d1 d2
  unfold XH
  split
  · split
    · rename_i t h
      exact ⟨fun ρ a w' S=>⟨S.defers,tV S.tmps h (KO _ _ _),h1 S⟩,Nat.le_succ _,fun b hb _=>hset1 hb⟩
    · rename_i t h
      exact ⟨fun ρ a w' S=>⟨S.defers,tV S.tmps h (acN _ _ _),h1 S⟩,Nat.le_succ _,fun b hb _=>hset1 hb⟩
    · exact H5.refl _
  · split
    · rename_i t i l h
      split
      · rename_i h2
        refine ⟨fun ρ a w' S=>⟨S.defers,tV S.tmps h ?_,h1 S⟩,Nat.le_succ _,fun b hb _=>hset1 hb⟩
        intro ρ w u hu
        cases hu with | agg _ c hc=>exact .agg _ _ (tV hc h2 (KO _ _ _))
      · exact H5.refl _
    · exact H5.refl _
  · split
    · rename_i b i _ l h
      split
      · rename_i h2
        refine ⟨fun ρ a w' S=>?_,Nat.le_succ _,fun c hc hs=>by rw [hset1 hc];exact O6 h h2 hs⟩
        have hw:HR ρ w' (eW st.heap b (.vs (l.set i (.sl st.next w es 0 0 0)))) st.next:=by
          refine S.heap.weaken h trivial fun x v' hx=>?_
          simp only [aI.cell?,List.getElem?_set] at hx ⊢
          by_cases hi:i=x
          · subst hi
            rw [if_pos rfl] at hx
            split at hx
            · cases hx;exact ⟨_,h2,KO _ _ _⟩
            · cases hx
          · rw [if_neg hi] at hx;exact ⟨v',hx,bz.refl _⟩
        exact ⟨S.defers,S.tmps,(hw.le (Nat.le_succ _)).ghost (hno S) (Nat.lt_succ_self _) d1 d2⟩
      · exact H5.refl _
    · exact H5.refl _
def KP(f:AV→Option AV)(st:aH)(pos:GP) :aH :=
  match pos with
  | .slot t =>
    match st.tmps[t]? with
    | some v=>match f v with
      | some v'=>⟨st.tmps.set t v',st.heap,st.next⟩
      | none=>st
    | none=>st
  | .part t i =>
    match st.tmps[t]? with
    | some (.agg l) =>
      match l[i]? with
      | some v=>match f v with
        | some v'=>⟨st.tmps.set t (.agg (l.set i v')),st.heap,st.next⟩
        | none=>st
      | none=>st
    | _=>st
  | .cell b i =>
    match bn st.heap b with
    | some (.vs l) =>
      match l[i]? with
      | some v=>match f v with
        | some v'=>⟨st.tmps,eW st.heap b (.vs (l.set i v')),st.next⟩
        | none=>st
      | none=>st
    | _=>st
theorem Dd{st:aH}{pos:GP}{f:AV→Option AV}(hf:∀ v v',f v=some v'→bz v v') :H5 st (KP f st pos):=by
  unfold KP
  split
  · split
    · rename_i t v h
      split
      · rename_i v' hv
        exact ⟨fun ρ a w' S=>⟨S.defers,tV S.tmps h (hf _ _ hv),S.heap⟩,Nat.le_refl _,fun _ _ _=>rfl⟩
      · exact H5.refl _
    · exact H5.refl _
  · split
    · rename_i t i l h
      split
      · rename_i v h2
        split
        · rename_i v' hv
          refine ⟨fun ρ a w' S=>⟨S.defers,tV S.tmps h ?_,S.heap⟩,Nat.le_refl _,fun _ _ _=>rfl⟩
          intro ρ w u hu
          cases hu with | agg _ c hc=>exact .agg _ _ (tV hc h2 (hf _ _ hv))
        · exact H5.refl _
      · exact H5.refl _
    · exact H5.refl _
  · split
    · rename_i b i _ l h
      split
      · rename_i v h2
        split
        · rename_i v' hv
          refine ⟨fun ρ a w' S=>?_,Nat.le_refl _,fun c hc hs=>O6 h h2 hs⟩
          have hw:HR ρ w' (eW st.heap b (.vs (l.set i v'))) st.next:=by
            refine S.heap.weaken h trivial fun x u hx=>?_
            simp only [aI.cell?,List.getElem?_set] at hx ⊢
            by_cases hi:i=x
            · subst hi
              rw [if_pos rfl] at hx
              split at hx
              · cases hx;exact ⟨_,h2,hf _ _ hv⟩
              · cases hx
            · rw [if_neg hi] at hx;exact ⟨u,hx,bz.refl _⟩
          exact ⟨S.defers,S.tmps,hw⟩
        · exact H5.refl _
      · exact H5.refl _
    · exact H5.refl _
theorem tW{d:aI}(h:d.isVoid=true) :d.kept=true∧d.foreign=true:=by
  unfold aI.isVoid at h
  split at h<;>first | exact ⟨rfl,rfl⟩ | cases h
theorem abt{d:aI}(w es:Nat)(hd:d.isVoid=true) :bz .nsl (.imm .free d w es 0 0):=by
  intro ρ w' u h;cases h;exact .immEnd _ _ _ _ _ _ _ (zV hd).1 (fun _=>(tW hd).1) (tW hd).2
theorem abu{d:aI}(w es:Nat)(hd:d.isVoid=true) :bz .esl (.imm .free d w es 0 0):=by
  intro ρ w' u h;cases h;exact .immEnd _ _ _ _ _ _ _ (zV hd).1 (fun _=>(tW hd).1) (tW hd).2
def XJ(w es:Nat)(d:aI) :AV→Option AV
  | .nsl | .esl=>some (.imm .free d w es 0 0)
  | _=>none
theorem TS{w es:Nat}{d:aI}(hd:d.isVoid=true) :∀ v v',XJ w es d v=some v'→bz v v':=by
  intro v v' h
  unfold XJ at h
  split at h
  · cases h;exact abt _ _ hd
  · cases h;exact abu _ _ hd
  · cases h
theorem aaj{l:Lv}{ρ:ae}{bl:Nat}(ha:ρ.avoid .free bl) :ρ.avoid l bl:=jS (fun j=>ha j (Nat.zero_le _)) _ _
def afu(l:Lv) :AV→Option AV
  | .imm .free d w es i n=>some (.imm l d w es i n)
  | .iptr .free d w i j=>some (.iptr l d w i j)
  | _=>none
theorem abv{l:Lv} :∀ v v',afu l v=some v'→bz v v':=by
  intro v v' h
  unfold afu at h
  split at h
  · cases h
    intro ρ w' u hu
    cases hu with
    | imm _ _ _ _ _ _ cap bl o u ha hb hc hv hn hr hk hg=>exact .imm _ _ _ _ _ _ cap bl o u (aaj ha) hb hc hv hn hr (fun _=>hk rfl) hg
    | immEnd _ _ _ _ _ cap a hr hk hg=>exact .immEnd _ _ _ _ _ cap a hr (fun _=>hk rfl) hg
  · cases h
    intro ρ w' u hu
    cases hu with
    | iptr _ _ _ _ _ bl o u ha hb hc hv hr hk hg=>exact .iptr _ _ _ _ _ bl o u (aaj ha) hb hc hv hr (fun _=>hk rfl) hg
  · cases h
def acO:AV→Option AV
  | .imm _ d w es i n=>some (.imm .lent d w es i n)
  | .iptr _ d w i j=>some (.iptr .lent d w i j)
  | _=>none
theorem XK:∀ v v',acO v=some v'→bz v v':=by
  intro v v' h
  unfold acO at h
  split at h
  · cases h
    intro ρ w' u hu
    cases hu with
    | imm _ _ _ _ _ _ cap bl o u ha hb hc hv hn hr hk hg=>exact .imm _ _ _ _ _ _ cap bl o u (CT (O:=ρ.own) ha) hb hc hv hn hr (fun q=>by cases q) hg
    | immEnd _ _ _ _ _ cap a hr hk hg=>exact .immEnd _ _ _ _ _ cap a hr (fun q=>by cases q) hg
  · cases h
    intro ρ w' u hu
    cases hu with
    | iptr _ _ _ _ _ bl o u ha hb hc hv hr hk hg=>exact .iptr _ _ _ _ _ bl o u (CT (O:=ρ.own) ha) hb hc hv hr (fun q=>by cases q) hg
  · cases h
inductive GK where
  | own (w es:Nat) (d:aI)
  | fre (w es:Nat) (d:aI)
  | lev (l:Lv)
  | low
abbrev GL:=List (GP×GK)
def De:GL→aH→aH
  | [],st=>st
  | (p,.fre w es d)::l,st=>De l (KP (XJ w es d) st p)
  | (p,.own w es d)::l,st=>De l (XH st p w es d)
  | (p,.lev v)::l,st=>De l (KP (afu v) st p)
  | (p,.low)::l,st=>De l (KP acO st p)
def kC:GL→Bool
  | []=>true
  | (_,.own _ _ d)::l=>d.isVoid&&kC l
  | (_,.fre _ _ d)::l=>d.isVoid&&kC l
  | (_,.lev _)::l=>kC l
  | (_,.low)::l=>kC l
theorem pb:∀ {l:GL} {st:aH},kC l=true→H5 st (De l st)
  | [],st,_=>H5.refl _
  | (p,.fre w es d)::l,st,h=>by
    simp only [kC,Bool.and_eq_true] at h
    exact (Dd (TS h.1)).trans (pb h.2)
  | (p,.own w es d)::l,st,h=>by
    simp only [kC,Bool.and_eq_true] at h
    exact (XI h.1).trans (pb h.2)
  | (p,.lev v)::l,st,h=>(Dd abv).trans (pb (l:=l) (by simpa [kC] using h))
  | (p,.low)::l,st,h=>(Dd XK).trans (pb (l:=l) (by simpa [kC] using h))
theorem XL{lent:List aI}{l:GL}{st:aH}(h:kC l=true) :Sub lent st (De l st):=(pb h).sub
structure NS where
  gs:GL
  keep:List Nat
  ks:List Nat
def NS.ok(k:Nat)(s:NS) :Bool:=kC s.gs&&Db k s.keep
def NS.on(s:NS)(st:aH) :aH:=norm s.keep s.ks (De s.gs st)
theorem XM{lent:List aI}{s:NS}(h:s.ok lent.length=true)(st:aH) :Sub lent st (s.on st):=by
  unfold NS.ok at h
  rw [Bool.and_eq_true] at h
  exact (XL h.1).trans (acM h.2 _)
def cJ:Code→List Code
  | .seq a b=>cJ a++cJ b
  | .skip=>[]
  | .label _=>[]
  | c=>[c]
def Gm(P:Program) :List Code→(Exit→Act→World→Prop)→Act→World→Prop
  | [],K,a,w=>K .normal a w
  | c::l,K,a,w=>c.wp P (fun e a' w'=>match e with | .normal=>Gm P l K a' w' | e=>K e a' w') a w
theorem wM{P:Program}{K:Exit→Act→World→Prop} :∀ (l l':List Code) (a:Act) (w:World),Gm P l (fun e a' w'=>match e with | .normal=>Gm P l' K a' w' | e=>K e a' w') a w→Gm P (l++l') K a w
  | [],l',a,w,h=>h
  | c::l,l',a,w,h=>by
    simp only [List.cons_append,Gm] at h ⊢
    refine wp_mono h ?_
    intro e a' w' q
    cases e<;>first | exact wM l l' a' w' q | exact q
theorem va{P:Program}{c:Code}{K:Exit→Act→World→Prop}{a:Act}{w:World}(h:Gm P [c] K a w) :c.wp P K a w:=by
  simp only [Gm] at h
  refine wp_mono h ?_
  intro e a' w' q
  cases e<;>exact q
theorem pX{P:Program} :∀ (c:Code) {K:Exit→Act→World→Prop} {a:Act} {w:World},Gm P (cJ c) K a w→c.wp P K a w
  | .seq x y,K,a,w,h=>by
    simp only [cJ] at h
    refine wp_seq (pX x ?_)
    have app:∀ (l l':List Code) (a:Act) (w:World),Gm P (l++l') K a w→Gm P l (fun e a' w'=>match e with | .normal=>Gm P l' K a' w' | e=>K e a' w') a w:=by
      intro l
      induction l with
      | nil=>intro l' a w h;exact h
      | cons c l ih =>
        intro l' a w h
        simp only [List.cons_append,Gm] at h ⊢
        refine wp_mono h ?_
        intro e a' w' q
        cases e<;>first | exact ih l' a' w' q | exact q
    have:=app _ _ _ _ h
    have mono:∀ (l:List Code) (K K':Exit→Act→World→Prop) (a:Act) (w:World),(∀ e a w,K e a w→K' e a w)→Gm P l K a w→Gm P l K' a w:=by
      intro l
      induction l with
      | nil=>intro K K' a w hK h;exact hK _ _ _ h
      | cons c l ih =>
        intro K K' a w hK h
        simp only [Gm] at h ⊢
        refine wp_mono h ?_
        intro e a' w' q
        cases e<;>first | exact ih K K' a' w' hK q | exact hK _ _ _ q
    refine mono _ _ _ _ _ ?_ this
    intro e a' w' q
    cases e<;>first | exact pX y q | exact q
  | .skip,K,a,w,h=>wp_skip h
  | .label _,K,a,w,h=>wp_label h
  | .region ..,K,a,w,h=>va h
  | .cond ..,K,a,w,h=>va h
  | .block ..,K,a,w,h=>va h
  | .loop ..,K,a,w,h=>va h
  | .exit ..,K,a,w,h=>va h
  | .ret,K,a,w,h=>va h
  | .scope ..,K,a,w,h=>va h
  | .goto ..,K,a,w,h=>va h
  | .rangeFunc ..,K,a,w,h=>va h
  | .refuse ..,K,a,w,h=>va h
def gY(P:Program)(lent:List aI)(cs:List Code)(st:aH)(Q:AE→aH→Prop) :Prop :=
  ∀ (ρ0:ae) (w0:World),ik ρ0 w0 lent→∀ (K:Exit→Act→World→Prop),(∀ e st' a' w',Q e st'→At lent.length ρ0 w0 st' a' w'→K e.real a' w')→∀ a w,At lent.length ρ0 w0 st a w→Gm P cs K a w
def M6(self:wJ) :List Code→aH→dY→Res
  | [],st,p=>some (.normal,st,[],p)
  | c::l,st,p =>
    match self c st p with
    | some (.normal,st1,o1,p1) =>
      match M6 self l st1 p1 with
      | some (e,vH,o2,p2)=>some (e,vH,o1++o2,p2)
      | none=>none
    | r=>r
theorem aak{P:Program}{self:wJ}(hself:QI P self) :∀ (cs:List Code) {st st':aH} {p p':dY} {e:AE} {obs:List Bool},M6 self cs st p=some (e,st',obs,p')→aG obs→∀ {ρ:ae} {a:Act} {w:World} {Q:Exit→Act→World→Prop},ρ.pin.2=none→SR ρ st a w →
    (∀ ρ' a' w',Kp ρ w st.next st' ρ' a' w'→Q e.real a' w')→Gm P cs Q a w
  | [],st,st',p,p',e,obs,h,ho,ρ,a,w,Q,hpn,hs,hQ=>by
    simp only [M6,Option.some.injEq,Prod.mk.injEq] at h;obtain ⟨rfl,rfl,rfl,rfl⟩:=h
    exact hQ ρ a w (Kp.refl hs)
  | c::l,st,st',p,p',e,obs,h,ho,ρ,a,w,Q,hpn,hs,hQ=>by
    simp only [M6] at h
    split at h
    · rename_i st1 o1 p1 h1
      split at h
      case h_2=>cases h
      rename_i e2 vH o2 p2 h2
      simp only [Option.some.injEq,Prod.mk.injEq] at h;obtain ⟨rfl,rfl,rfl,rfl⟩:=h
      rw [bt] at ho
      refine hself c st p _ _ _ _ h1 ho.1 ρ a w _ hpn hs fun ρ1 a1 w1 P1=>?_
      exact aak hself l h2 ho.2 (by rw [P1.ext.pin];exact hpn) P1.sr fun ρ2 a2 w2 P2=>hQ ρ2 a2 w2 (P1.trans P2)
    · rename_i hne
      refine hself c st p _ _ _ _ h ho ρ a w _ hpn hs fun ρ1 a1 w1 P1=>?_
      have:=hQ ρ1 a1 w1 P1
      cases e with
      | normal=>exact (hne _ _ _ h).elim
      | ret=>exact this
      | exit id=>exact this
theorem At.post{lent:List aI}{ρ0 ρ ρ':ae}{w0 w w':World}{st st':aH}{a a':Act}(E:jY ρ0 ρ w0)(W:gT ρ0.live w0 w)(hbk:∀ i,i<lent.length→ρ.ok i→ρ0.ok i)(hle:lent.length≤st.next)(h:Kp ρ w st.next st' ρ' a' w') :At lent.length ρ0 w0 st' a' w' :=
  ⟨ρ',E.trans h.ext W.size,W.trans h.wle (fun x hx q=>E.new x hx q),h.sr,fun i hi q=>(h.back i q).elim (hbk i hi) (fun r=>by omega),Nat.le_trans hle h.le⟩
theorem gY.weak{P:Program}{lent:List aI}{cs:List Code}{st st1:aH}{Q:AE→aH→Prop}(hs:Sub lent st st1)(h:gY P lent cs st1 Q) :gY P lent cs st Q :=
  fun ρ0 w0 hN K hK a w hA=>h ρ0 w0 hN K hK a w (hs _ _ _ _ hN hA)
theorem gY.nil{P:Program}{lent:List aI}{st:aH}{Q:AE→aH→Prop}(h:Q .normal st) :gY P lent [] st Q :=
  fun ρ0 w0 hN K hK a w hA=>hK .normal st a w h hA
def M7(P:Program)(lent:List aI)(rest:List Code)(e:AE)(st:aH)(Q:AE→aH→Prop) :Prop :=
  match e with
  | .normal=>gY P lent rest st Q
  | e=>Q e st
theorem M7.exit{P:Program}{lent:List aI}{rest:List Code}{id:Nat}{st:aH}{Q:AE→aH→Prop}(h:Q (.exit id) st) :M7 P lent rest (.exit id) st Q:=h
theorem M7.ret{P:Program}{lent:List aI}{rest:List Code}{st:aH}{Q:AE→aH→Prop}(h:Q .ret st) :M7 P lent rest .ret st Q:=h
theorem M7.normal{P:Program}{lent:List aI}{rest:List Code}{st:aH}{Q:AE→aH→Prop}(h:gY P lent rest st Q) :M7 P lent rest .normal st Q:=h
def TT(s:NS)(r:Res) :Option (AE×aH×List Bool) :=
  match r with
  | some (e,st,obs,_)=>some (e,s.on st,obs)
  | none=>none
theorem gY.seg{C:tL}(hC:C.Ok){S:vR}(hS:aP C.P S){lent:List aI}{N n:Nat}(k:Nat)(p:dY)(s:NS){cs:List Code}{st st1:aH}{e:AE}{obs:List Bool}{Q:AE→aH→Prop} 
    (h:TT s (M6 (ia C S N n) (cs.take k) st p)=some (e,st1,obs)) (hn:s.ok lent.length=true) (ho:aG obs) (hr:M7 C.P lent (cs.drop k) e st1 Q):gY C.P lent cs st Q:=by
  intro ρ0 w0 hN K hK a w ⟨ρ,E,W,S1,hbk,hle⟩
  rw [←List.take_append_drop k cs]
  apply wM
  unfold TT at h
  split at h
  case h_2=>cases h
  rename_i e' vH obs' p' hrun
  simp only [Option.some.injEq,Prod.mk.injEq] at h;obtain ⟨rfl,rfl,rfl⟩:=h
  refine aak (KM hC hS N n) _ hrun ho (by rw [E.pin];exact hN.pin) S1 fun ρ' a' w' P1=>?_
  have hA:=XM hn vH ρ0 w0 a' w' hN (At.post (st:=st) (a:=a) E W hbk hle P1)
  cases e' with
  | normal=>exact hr ρ0 w0 hN K hK a' w' hA
  | ret=>exact hK _ _ _ _ hr hA
  | exit id=>exact hK _ _ _ _ hr hA
def Er(P:Program)(lent:List aI){σ:Type}(I:σ→aH)(G:σ→Prop)(m:σ→Nat)(s:σ)(id:Nat)(rest:List Code)(Q:AE→aH→Prop)(e:AE)(st:aH) :Prop :=
  match e with
  | .normal=>∃ s',G s'∧m s'<m s∧st=I s'
  | .exit j=>if j=id then gY P lent rest st Q else Q (.exit j) st
  | .ret=>Q .ret st
theorem Er.out{P:Program}{lent:List aI}{σ:Type}{I:σ→aH}{G:σ→Prop}{m:σ→Nat}{s:σ}{id:Nat}{rest:List Code}{Q:AE→aH→Prop}{st:aH}(h:gY P lent rest st Q) :Er P lent I G m s id rest Q (.exit id) st:=by
  simp only [Er,if_true];exact h
theorem Er.on{P:Program}{lent:List aI}{σ:Type}{I:σ→aH}{G:σ→Prop}{m:σ→Nat}{s:σ}{id:Nat}{rest:List Code}{Q:AE→aH→Prop}{st:aH}(s':σ)(hs:st=I s')(hm:m s'<m s)(hG:G s') :gY P lent [] st (Er P lent I G m s id rest Q) :=
  gY.nil ⟨s',hG,hm,hs⟩
theorem gY.loop{P:Program}{lent:List aI}{σ:Type}(I:σ→aH)(G:σ→Prop)(m:σ→Nat){id:Nat}{b:Code}{cs rest:List Code}{Q:AE→aH→Prop}(hcs:cs=.block id (.loop b)::rest) 
    (body:∀ s,G s→gY P lent (cJ b) (I s) (Er P lent I G m s id rest Q)) (s:σ) (hs:G s):gY P lent cs (I s) Q:=by
  subst hcs
  intro ρ0 w0 hN K hK a w hA
  simp only [Gm]
  refine wp_block ?_
  refine wp_loop_rounds (m s+1) ?_
  have key:∀ n s,m s<n→G s→∀ a w,At lent.length ρ0 w0 (I s) a w→Code.rounds P b (Exit.inBlock id fun (e:Exit) a' w'=>match e with | .normal=>Gm P rest K a' w' | e=>K e a' w') n a w:=by
    intro n
    induction n with
    | zero=>intro s h;omega
    | succ n ih =>
      intro s hm hs a w hA
      rw [rounds_succ]
      refine pX b ?_
      refine body s hs ρ0 w0 hN _ ?_ a w hA
      intro e st' a' w' hR hA'
      cases e with
      | normal =>
        obtain ⟨s',h1,h2,rfl⟩:=hR
        exact ih s' (by omega) h1 a' w' hA'
      | ret=>exact hK _ _ _ _ hR hA'
      | exit j =>
        simp only [Er] at hR
        by_cases hj:j=id
        · subst hj
          rw [if_pos rfl] at hR
          simp only [AE.real,Exit.then,Exit.inBlock,if_true]
          exact hR ρ0 w0 hN K hK a' w' hA'
        · rw [if_neg hj] at hR
          simp only [AE.real,Exit.then,Exit.inBlock,hj,if_false]
          exact hK _ _ _ _ hR hA'
  exact key _ s (Nat.lt_succ_self _) hs a w hA
theorem gY.mono{P:Program}{lent:List aI}{cs:List Code}{st:aH}{Q Q':AE→aH→Prop}(hQ:∀ e st,Q e st→Q' e st)(h:gY P lent cs st Q) :gY P lent cs st Q' :=
  fun ρ0 w0 hN K hK a w hA=>h ρ0 w0 hN K (fun e st' a' w' q hA'=>hK e st' a' w' (hQ e st' q) hA') a w hA
theorem gY.block{P:Program}{lent:List aI}{id:Nat}{b:Code}{cs rest:List Code}{st:aH}{Q:AE→aH→Prop}(hcs:cs=.block id b::rest) 
    (h:gY P lent (cJ b) st fun e st'=>match e with | .normal=>gY P lent rest st' Q | .exit j=>if j=id then gY P lent rest st' Q else Q (.exit j) st' | .ret=>Q .ret st'):gY P lent cs st Q:=by
  subst hcs
  intro ρ0 w0 hN K hK a w hA
  simp only [Gm]
  refine wp_block (pX b ?_)
  refine h ρ0 w0 hN _ ?_ a w hA
  intro e st' a' w' hR hA'
  cases e with
  | normal=>exact hR ρ0 w0 hN K hK a' w' hA'
  | ret=>exact hK _ _ _ _ hR hA'
  | exit j =>
    simp only at hR
    by_cases hj:j=id
    · subst hj
      rw [if_pos rfl] at hR
      simp only [AE.real,Exit.inBlock,if_true]
      exact hR ρ0 w0 hN K hK a' w' hA'
    · rw [if_neg hj] at hR
      simp only [AE.real,Exit.inBlock,hj,if_false]
      exact hK _ _ _ _ hR hA'
theorem gY.scope{P:Program}{lent:List aI}{b:Code}{cs rest:List Code}{st:aH}{Q:AE→aH→Prop}(hcs:cs=.scope b::rest) 
    (h:gY P lent (cJ b) st fun e st'=>M7 P lent rest e st' Q):gY P lent cs st Q:=by
  subst hcs
  intro ρ0 w0 hN K hK a w hA
  simp only [Gm]
  refine wp_scope_straight (pX b ?_)
  refine h ρ0 w0 hN _ ?_ a w hA
  intro e st' a' w' hR hA'
  cases e with
  | normal=>exact hR ρ0 w0 hN K hK a' w' hA'
  | ret=>exact hK _ _ _ _ hR hA'
  | exit j=>exact hK _ _ _ _ hR hA'
def aal(P:Program)(fn:Func)(k:Nat)(keep:Bool)(r:gw)(e:AE)(st:aH) :Prop :=
  (e=.normal∨e=.ret)∧∃ vs obs,jH P fn st fn.results.toList=some (vs,obs)∧aG obs∧KF k keep st.heap (Gl vs)=some r
theorem gY.contract{P:Program}{f:FuncId}{fn:Func}{c:Code}(hf:P.funcs[f]? = some fn)(hc:fn.body=some c){lent:List aI}{args:List AV}{r:gw}{keep:Bool} 
    (h:gY P lent (cJ c) (pW fn lent args) (aal P fn lent.length keep r)):aj P f lent args r:=by
  refine zU (keep:=keep) hf hc ?_
  intro ρ w a hN hs
  refine pX c ?_
  refine h ρ w hN _ ?_ a w ⟨ρ,jY.refl _ _,gT.refl _ _,hs,fun _ _ q=>q,Nat.le_refl _⟩
  rintro e st' a' w' ⟨he,vs,obs,h1,h2,h3⟩ ⟨ρ',E,W,S,hbk,_⟩
  refine ⟨?_,ρ',st',vs,obs,E,W,hbk,S,h1,h2,h3⟩
  rcases he with rfl | rfl
  · exact .inl rfl
  · exact .inr rfl
def qZ(x:Nat) :Nat:=x%9223372036854775808
def oN(x y:Nat) :Nat:=x%9223372036854775808+y/9223372036854775808%2*9223372036854775808
def acP(x y:Nat) :Bool:=(isNaN x&&isNaN y)||x==y
theorem Br(x:Nat) :BitVec.ofInt 64 (x:Int)=BitVec.ofNat 64 x:=by simp
theorem aeg : ~~~ BitVec.ofInt 64 9223372036854775808=BitVec.ofNat 64 (2^63-1):=by decide
theorem nD(n:Nat) :IntKind.u64.wrap (n:Int)=((n%18446744073709551616:Nat):Int):=by
  simp [IntKind.wrap,IntKind.signed,IntKind.bits]
theorem acQ(x:Nat) :(cM .andNot .u64 (x:Int) 9223372036854775808)=((qZ x:Nat):Int):=by
  have e:(BitVec.ofInt IntKind.u64.bits (x:Int) &&& ~~~ BitVec.ofInt IntKind.u64.bits 9223372036854775808).toNat=x%9223372036854775808:=by
    show (BitVec.ofInt 64 (x:Int) &&& ~~~ BitVec.ofInt 64 9223372036854775808).toNat=_
    rw [aeg,Br,BitVec.toNat_and,BitVec.toNat_ofNat,BitVec.toNat_ofNat]
    have:(2^63-1)%2^64=2^63-1:=by decide
    rw [this,Nat.and_two_pow_sub_one_eq_mod]
    omega
  unfold cM
  simp only
  rw [e,nD]
  congr 1
  unfold qZ
  omega
theorem afv(y:Nat) :(cM .and .u64 (y:Int) 9223372036854775808)=((y/9223372036854775808%2*9223372036854775808:Nat):Int):=by
  have e:(BitVec.ofInt IntKind.u64.bits (y:Int) &&& BitVec.ofInt IntKind.u64.bits 9223372036854775808).toNat=y/9223372036854775808%2*9223372036854775808:=by
    show (BitVec.ofInt 64 (y:Int) &&& BitVec.ofInt 64 9223372036854775808).toNat=_
    have h1:BitVec.ofInt 64 9223372036854775808=BitVec.ofNat 64 (2^63):=by decide
    rw [h1,Br,BitVec.toNat_and,BitVec.toNat_ofNat,BitVec.toNat_ofNat]
    have:2^63%2^64=2^63:=by decide
    rw [this]
    apply Nat.eq_of_testBit_eq;intro i
    have e2:(9223372036854775808:Nat)=2^63:=by decide
    rw [e2,Nat.testBit_and,Nat.testBit_two_pow,Nat.testBit_mod_two_pow,Nat.testBit_mul_two_pow]
    by_cases hi:63=i
    · subst hi
      simp [Nat.testBit_eq_decide_div_mod_eq]
    · by_cases h2:63≤i
      · have h3:∃ j,i-63=j+1:=⟨i-64,by omega⟩
        obtain ⟨j,hj⟩:=h3
        have:(y/2^63%2).testBit (i-63)=false:=by
          have:=Nat.mod_lt (y/2^63) (by decide:2>0)
          apply Nat.testBit_lt_two_pow
          calc y/2^63%2<2:=this
            _=2^1:=rfl
            _≤2^(i-63):=Nat.pow_le_pow_right (by decide) (by omega)
        simp [hi,this]
      · simp [hi,h2]
  unfold cM
  simp only
  rw [e,nD]
  congr 1
  omega
theorem aam(x:Nat) :(IntKind.u64.wrap ((x:Int)*2^min (Int.toNat 1) IntKind.u64.bits)).fdiv (2^min (Int.toNat 1) IntKind.u64.bits)=((qZ x:Nat):Int):=by
  have h1:min (Int.toNat 1) IntKind.u64.bits=1:=by decide
  have h2:(2:Int)^1=2:=by decide
  rw [h1,h2]
  have h3:(x:Int)*2=((x*2:Nat):Int):=by push_cast;rfl
  rw [h3,nD,Int.fdiv_eq_ediv_of_nonneg _ (by decide:(0:Int)≤2)]
  unfold qZ
  omega
theorem aeh(y:Nat) :IntKind.u64.wrap ((y:Int).fdiv (2^min (Int.toNat 63) IntKind.u64.bits)*2^min (Int.toNat 63) IntKind.u64.bits)=((y/9223372036854775808%2*9223372036854775808:Nat):Int):=by
  have h1:min (Int.toNat 63) IntKind.u64.bits=63:=by decide
  have h2:(2:Int)^63=9223372036854775808:=by decide
  rw [h1,h2,Int.fdiv_eq_ediv_of_nonneg _ (by decide:(0:Int)≤9223372036854775808)]
  have h3:(y:Int)/9223372036854775808*9223372036854775808=((y/9223372036854775808*9223372036854775808:Nat):Int):=by rw [Int.natCast_mul,Int.natCast_ediv];rfl
  rw [h3,nD]
  congr 1
  omega
theorem aeZ(x y:Nat) :cM .or .u64 ((qZ x:Nat):Int) ((y/9223372036854775808%2*9223372036854775808:Nat):Int)=((oN x y:Nat):Int):=by
  have e:(BitVec.ofInt IntKind.u64.bits ((qZ x:Nat):Int) ||| BitVec.ofInt IntKind.u64.bits ((y/9223372036854775808%2*9223372036854775808:Nat):Int)).toNat=oN x y:=by
    show (BitVec.ofInt 64 ((qZ x:Nat):Int) ||| BitVec.ofInt 64 ((y/9223372036854775808%2*9223372036854775808:Nat):Int)).toNat=_
    rw [Br,Br,BitVec.toNat_or,BitVec.toNat_ofNat,BitVec.toNat_ofNat]
    unfold qZ oN
    have hb0:=Nat.mod_lt (y/9223372036854775808) (by decide:2>0)
    generalize y/9223372036854775808%2=b at *
    have e2:(9223372036854775808:Nat)=2^63:=by decide
    have l1:x%9223372036854775808%2^64=x%9223372036854775808:=by omega
    rw [l1]
    rcases Nat.lt_or_ge b 2 with hb | hb
    · have l2:b*9223372036854775808%2^64=b*9223372036854775808:=by omega
      rw [l2,Nat.or_comm,Nat.add_comm,e2,Nat.mul_comm b,Nat.two_pow_add_eq_or_of_lt (Nat.mod_lt _ (by decide))]
    · omega
  unfold cM
  simp only
  rw [e,nD]
  congr 1
  unfold oN
  have:=Nat.mod_lt x (by decide:9223372036854775808>0)
  have:=Nat.mod_lt (y/9223372036854775808) (by decide:2>0)
  omega
theorem KQ(x:Nat) :isNaN (qZ x)=isNaN x:=by
  rw [kx,kx];unfold qZ;rw [Nat.mod_mod]
theorem tX(x y:Nat) :isNaN (oN x y)=isNaN x:=by
  rw [kx,kx];unfold oN
  rw [Nat.add_mul_mod_self_right,Nat.mod_mod]
theorem acR{ex:Bool}{x y:Nat}(h:FR ex x y) :FR false (qZ x) (qZ y):=by
  rcases h with rfl | ⟨h1,h2,h3⟩
  · exact .inl rfl
  · exact .inr ⟨rfl,by rw [KQ];exact h2,by rw [KQ];exact h3⟩
theorem FR.copy{e1 e2:Bool}{x y x' y':Nat}(h:FR e1 x x')(k:FR e2 y y')(hn:isNaN y=true→isNaN x=true) :FR false (oN x y) (oN x' y'):=by
  rcases h with rfl | ⟨h1,h2,h3⟩
  · rcases k with rfl | ⟨k1,k2,k3⟩
    · exact .inl rfl
    · exact .inr ⟨rfl,by rw [tX];exact hn k2,by rw [tX];exact hn k2⟩
  · exact .inr ⟨rfl,by rw [tX];exact h2,by rw [tX];exact h3⟩
theorem FR.same{e1 e2:Bool}{x y x' y':Nat}(h:FR e1 x x')(k:FR e2 y y') :acP x' y'=acP x y:=by
  unfold acP
  rcases h with rfl | ⟨h1,h2,h3⟩
  · rcases k with rfl | ⟨k1,k2,k3⟩
    · rfl
    · rw [k2,k3]
      cases hx:isNaN x' with
      | true=>rfl
      | false =>
        have a:(x'==y')=false:=by
          rw [beq_eq_false_iff_ne];intro e;rw [e] at hx;rw [hx] at k3;cases k3
        have b:(x'==y)=false:=by
          rw [beq_eq_false_iff_ne];intro e;rw [e] at hx;rw [hx] at k2;cases k2
        rw [a,b]
  · rcases k with rfl | ⟨k1,k2,k3⟩
    · rw [h2,h3]
      cases hx:isNaN y' with
      | true=>rfl
      | false =>
        have a:(x'==y')=false:=by
          rw [beq_eq_false_iff_ne];intro e;rw [e] at h3;rw [hx] at h3;cases h3
        have b:(x==y')=false:=by
          rw [beq_eq_false_iff_ne];intro e;rw [e] at h2;rw [hx] at h2;cases h2
        rw [a,b]
    · rw [h2,h3,k2,k3];rfl
theorem gw.Holds.weak{ρ:ae}{w w':World}{k:Nat}{v v':AV}{own:List (Option aI)}{u:Value}(h:(⟨v,own⟩:gw).Holds ρ w w' k u)(hw:∀ ρ w,VR ρ w v u→VR ρ w v' u) :(⟨v',own⟩:gw).Holds ρ w w' k u:=by
  obtain ⟨ρ',h1,h2,h3,h4⟩:=h
  exact ⟨ρ',h1,h2,h3,hw _ _ h4⟩
theorem yA{P:Program}{f:FuncId}{ex:Bool}{x:Nat}{r:Nat→AV}{r':AV}(h:∀ y,aj P f [] [.flt true y] ⟨r y,[]⟩) 
    (hw:∀ y,FR ex x y→∀ ρ w u,VR ρ w (r y) u→VR ρ w r' u):aj P f [] [.flt ex x] ⟨r',[]⟩:=by
  intro ρ w us hN hv
  cases hv with | cons _ u _ _ h1 h2 =>
  cases h2
  cases h1 with | flt _ _ y hf =>
  obtain ⟨q1,q2⟩:=h y ρ w [.float .f64 y] hN (.cons _ _ _ _ (.flt _ _ _ (.inl rfl)) .nil)
  refine ⟨q1,q2.mono ?_⟩
  rintro e w' ⟨u,rfl,W,hu⟩
  exact ⟨u,rfl,W,hu.weak fun ρ w=>hw y hf ρ w u⟩
theorem yB{P:Program}{f:FuncId}{e1 e2:Bool}{x1 x2:Nat}{r:Nat→Nat→AV}{r':AV}(h:∀ y1 y2,aj P f [] [.flt true y1,.flt true y2] ⟨r y1 y2,[]⟩) 
    (hw:∀ y1 y2,FR e1 x1 y1→FR e2 x2 y2→∀ ρ w u,VR ρ w (r y1 y2) u→VR ρ w r' u):aj P f [] [.flt e1 x1,.flt e2 x2] ⟨r',[]⟩:=by
  intro ρ w us hN hv
  cases hv with | cons _ u _ _ h1 h2 =>
  cases h2 with | cons _ u _ _ h3 h4 =>
  cases h4
  cases h1 with | flt _ _ y1 hf1 =>
  cases h3 with | flt _ _ y2 hf2 =>
  obtain ⟨q1,q2⟩:=h y1 y2 ρ w [.float .f64 y1,.float .f64 y2] hN (.cons _ _ _ _ (.flt _ _ _ (.inl rfl)) (.cons _ _ _ _ (.flt _ _ _ (.inl rfl)) .nil))
  refine ⟨q1,q2.mono ?_⟩
  rintro e w' ⟨u,rfl,W,hu⟩
  exact ⟨u,rfl,W,hu.weak fun ρ w=>hw y1 y2 hf1 hf2 ρ w u⟩
theorem VR.flt_weak{ρ:ae}{w:World}{x y:Nat}{u:Value}(h:VR ρ w (.flt true y) u)(hf:FR false x y) :VR ρ w (.flt false x) u:=by
  cases h with | flt _ _ z hz =>
  rcases hz with rfl | ⟨h1,_⟩
  · exact .flt _ _ _ hf
  · cases h1
structure aF where
  f:FuncId
  on:List aI→List AV→Option (List qs)
def zW:List aF→vR
  | [],_,_,_=>none
  | e::l,f,lent,args=>bif Nat.beq e.f f then (match e.on lent args with | some r=>some r | none=>zW l f lent args) else zW l f lent args
def TU:List aF→Nat
  | []=>0
  | e::l=>Nat.lor (Nat.shiftLeft 1 e.f) (TU l)
def aN(L:List aF) :vR:=fun f lent args=>bif Kv (TU L) f then zW L f lent args else none
def aV(P:Program)(e:aF) :Prop:=∀ lent args alts a,e.on lent args=some alts→a∈alts→aG a.obs→aj P e.f lent args a.out
theorem O7:∀ {L:List aF} {e:aF},e∈L→Kv (TU L) e.f=true
  | x::l,e,h=>by
    rw [Bp]
    show ((1 <<< x.f) ||| TU l).testBit e.f=true
    rw [Nat.testBit_or,Bool.or_eq_true]
    rcases List.mem_cons.1 h with rfl | h
    · left;rw [Nat.one_shiftLeft,Nat.testBit_two_pow];simp
    · right;rw [←Bp];exact O7 h
theorem Df:∀ {L:List aF} {f:FuncId} {lent:List aI} {args:List AV} {alts:List qs},zW L f lent args=some alts→∃ e∈L,e.f=f∧e.on lent args=some alts
  | e::l,f,lent,args,alts,h=>by
    simp only [zW] at h
    cases hb:Nat.beq e.f f with
    | false=>rw [hb] at h;obtain ⟨x,h1,h2⟩:=Df h;exact ⟨x,by simp [h1],h2⟩
    | true =>
      rw [hb] at h
      have:=Nat.eq_of_beq_eq_true hb
      simp only [cond_true] at h
      split at h
      · rename_i r hr;cases h;exact ⟨e,by simp,this,hr⟩
      · obtain ⟨x,h1,h2⟩:=Df h;exact ⟨x,by simp [h1],h2⟩
theorem O8{L:List aF}{f:FuncId}{lent:List aI}{args:List AV}{alts:List qs}(h:zW L f lent args=some alts) :aN L f lent args=some alts:=by
  obtain ⟨e,h1,h2,_⟩:=Df h
  have:=O7 h1
  rw [h2] at this
  simp only [aN,this,cond_true];exact h
theorem KR{L:List aF}{f:FuncId}{lent:List aI}{args:List AV}{alts:List qs}(h:aN L f lent args=some alts) :zW L f lent args=some alts:=by
  unfold aN at h
  cases hb:Kv (TU L) f with
  | false=>rw [hb] at h;cases h
  | true=>rw [hb] at h;exact h
theorem KS(P:Program) :aP P (aN []):=fun f lent args alts a h=>by have:=KR h;cases this
theorem ay{P:Program}{e:aF}{l:List aF}(he:aV P e)(hl:aP P (aN l)) :aP P (aN (e::l)):=by
  intro f lent args alts a h ha ho
  replace h:=KR h
  simp only [zW] at h
  cases hb:Nat.beq e.f f with
  | false=>rw [hb] at h;exact hl f lent args alts a (O8 h) ha ho
  | true =>
    rw [hb] at h
    have:=Nat.eq_of_beq_eq_true hb
    subst this
    simp only [cond_true] at h
    split at h
    · rename_i r hr
      cases h
      exact he lent args alts a hr ha ho
    · exact hl _ lent args alts a (O8 h) ha ho
def one(v:AV)(obs:List Bool) :Option (List qs):=some [⟨⟨v,[]⟩,obs⟩]
def acS(v:AV)(own:List (Option aI))(obs:List Bool) :Option (List qs):=some [⟨⟨v,own⟩,obs⟩]
theorem abw{P:Program}{f:FuncId}{lent:List aI}{args:List AV}{alts:List qs}{a:qs}{v:AV}{own:List (Option aI)}{obs:List Bool}(h:acS v own obs=some alts)(ha:a∈alts)(ho:aG a.obs) 
    (hc:aG obs→aj P f lent args ⟨v,own⟩):aj P f lent args a.out:=by
  simp only [acS,Option.some.injEq] at h;subst h
  simp only [List.mem_singleton] at ha;subst ha
  exact hc ho
theorem sj{P:Program}{f:FuncId}{lent:List aI}{args:List AV}{alts:List qs}{a:qs}{v:AV}{obs:List Bool}(h:one v obs=some alts)(ha:a∈alts)(ho:aG a.obs) 
    (hc:aG obs→aj P f lent args ⟨v,[]⟩):aj P f lent args a.out:=abw (own:=[]) h ha ho hc
theorem aj.run{C:tL}(hC:C.Ok){S:vR}(hS:aP C.P S)(p:dY){f:FuncId}{lent:List aI}{args:List AV}{p':dY}{r:gw}{obs:List Bool}(N n:Nat)(h:oM C S (ia C S N n) f lent args p=some (r,obs,p'))(ho:aG obs) :
    aj C.P f lent args r:=IN hC hS N n h ho
theorem ob{b:Bool}{l:List Bool}(h:b=true)(t:aG l) :aG (b::l):=⟨h,t⟩
theorem nob:aG []:=trivial
inductive gz:List AV→List AV→Prop
  | nil:gz [] []
  | cons {v v':AV} {l l':List AV} (h:bz v v') (t:gz l l'):gz (v::l) (v'::l')
theorem gz.vrs{ρ:ae}{w:World} :∀ {l l':List AV} {c:List Value},gz l l'→cU ρ w l c→cU ρ w l' c
  | _,_,_,.nil,.nil=>.nil
  | _,_,_,.cons h t,.cons _ _ _ _ hv tv=>.cons _ _ _ _ (h _ _ _ hv) (gz.vrs t tv)
theorem gz.refl:∀ l:List AV,gz l l
  | []=>.nil
  | v::l=>.cons (bz.refl v) (gz.refl l)
theorem bz.agg{l l':List AV}(h:gz l l') :bz (.agg l) (.agg l'):=by
  intro ρ w u hv;cases hv with | agg _ _ hl=>exact .agg _ _ (h.vrs hl)
theorem bz.tup{l l':List AV}(h:gz l l') :bz (.tup l) (.tup l'):=by
  intro ρ w u hv;cases hv with | tup _ _ hl=>exact .tup _ _ (h.vrs hl)
theorem aj.args{P:Program}{f:FuncId}{lent:List aI}{a a':List AV}{r:gw}(h:aj P f lent a' r)(ha:gz a a') :aj P f lent a r :=
  fun ρ w us hN hv=>h ρ w us hN (ha.vrs hv)
theorem aj.weak{P:Program}{f:FuncId}{lent:List aI}{a:List AV}{v v':AV}{own:List (Option aI)}(h:aj P f lent a ⟨v,own⟩)(hw:bz v v') :aj P f lent a ⟨v',own⟩:=by
  intro ρ w us hN hv
  obtain ⟨q1,q2⟩:=h ρ w us hN hv
  refine ⟨q1,q2.mono ?_⟩
  rintro e w' ⟨u,rfl,W,hu⟩
  exact ⟨u,rfl,W,hu.weak fun ρ w=>hw ρ w u⟩
theorem Dg(k k' b:Bool) :bz (.bool k b) (.bool k' b):=by
  intro ρ w u h;cases h;exact .bool _ _
end
end Go.Plb
namespace Go.Plb
noncomputable section
open Go.ChangeShapes Go.WideShapes Go.ChangeAt Go.RowKit Go.Deep
set_option linter.unusedSimpArgs false
set_option linter.unusedVariables false
set_option linter.unusedSectionVars false
variable [Rom]
def ae.none_:ae:={ at_:=fun _=>0,live:=fun _=>False,out:=fun _ _=>False,ok:=fun _=>False,pin:=(0,none) }
theorem aei(w:World)(hr:∀ x∈Rom.tab,VR ae.none_ w x.2 (.pointer (some ⟨x.1,0,none⟩))) :ik ae.none_ w [] :=
  ⟨⟨fun b d q=>by simp [eu,eF,dk] at q,fun b c d e q=>by simp [eu,eF,dk] at q,fun bl q=>q.elim,fun bl q=>q.elim,fun j bl q=>q.elim,fun b q=>q.elim,hr⟩,fun bl q=>q.elim,rfl⟩
theorem Dh(l:Lv)(bl:Nat) :ae.none_.avoid l bl:=jS (fun j=>by cases j<;>exact id) l 0
inductive FA where
  | i (k:IntKind) (n:Int)
  | f (x:Nat)
  | s (b:ByteArray)
  | b (b:Bool)
  | fl (xs:List Nat)
  | ns (k:IntKind) (xs:List Int)
def FA.av:FA→AV
  | .i k n=>.int k n
  | .f x=>.flt true x
  | .s z=>.str z
  | .b z=>.bool false z
  | .fl xs=>.imm .free (.fl xs) 1 1 0 xs.length
  | .ns k xs=>.imm .free (.ns k xs) 1 1 0 xs.length
theorem FA.kept(a:FA) :a.av.kept=true:=by cases a<;>rfl
inductive FT where
  | i (k:IntKind)
  | f
  | s
  | b
  | fl
  | ns (k:IntKind)
def FA.has:FT→FA→Prop
  | .i k,.i k' n=>k'=k∧(Lit.int k n).wf=true
  | .f,.f x=>(Lit.float .f64 x).wf=true
  | .s,.s z=>z.size≤maxLen
  | .b,.b _=>True
  | .fl,.fl xs=>xs.length≤maxLen∧∀ x∈xs,(Lit.float .f64 x).wf=true
  | .ns k,.ns k' xs=>k'=k∧xs.length≤maxLen∧∀ n∈xs,(Lit.int k n).wf=true
  | _,_=>False
def abx(P:Program)(t:TypeId) :Option FT :=
  match P.underlying t with
  | some (.int k)=>some (.i k)
  | some (.float .f64)=>some .f
  | some .string=>some .s
  | some .bool=>some .b
  | some (.slice e) =>
    match P.underlying e,P.cellsOf e with
    | some (.float .f64),1=>some .fl
    | some (.int k),1=>some (.ns k)
    | _,_=>none
  | _=>none
def QM:Value→Nat
  | .float _ b=>b
  | _=>0
def QN:Value→Int
  | .int _ n=>n
  | _=>0
theorem H6{W:World}{a:Addr}{i:Nat}{v:Value}(c:W.cell? (a.add i)=some v)(h0:a.spot=none) :a.add i=⟨a.block,a.off+i,none⟩:=by
  cases a;simp only at h0;subst h0
  unfold Addr.add;split
  · rename_i q;subst q;rfl
  · rfl
theorem Es{W:World}{a:Addr}{v:Value}(c:W.cell? a=some v) :a.spot=none:=by
  unfold World.cell? at c
  split at c
  · cases q:a.spot with
    | none=>rfl
    | some s=>rw [q] at c;simp at c
  · cases c
theorem KT{W:World}{a:Addr}{v:Value}(c:W.cell? a=some v) :a.block<W.heap.size:=by
  unfold World.cell? at c
  split at c
  · rename_i q;exact (Array.getElem?_eq_some_iff.1 q).1
  · cases c
theorem nF{α:Type}(f:Nat→α)(n x:Nat)(y:α)(h:((List.range n).map f)[x]? = some y) :x<n∧y=f x:=by
  rw [List.getElem?_map] at h
  rcases Nat.lt_or_ge x n with q | q
  · rw [List.getElem?_range q] at h;simp only [Option.map_some,Option.some.injEq] at h;exact ⟨q,h.symm⟩
  · rw [List.getElem?_eq_none (by simpa using q)] at h;cases h
variable {H : Type} {enc : TypeId × Value → H} {P : Program} {W : World}
theorem O9{t : TypeId}{ft : FT}{fuel : Nat}{v : Value}{x : DataW H × List MemPlace}(ht : abx P t = some ft)(h : DataW.trod enc P W 0 (fun _ => true) true fuel t [v] = some x) :
    ∃ a:FA,a.has ft∧VR ae.none_ W a.av v:=by
  cases fuel with
  | zero=>simp [DataW.trod] at h
  | succ fuel =>
  have h0:=h
  unfold abx at ht
  split at ht
  · rename_i k hk
    cases ht
    simp only [DataW.trod,hk] at h
    cases v<;>simp at h
    rename_i k' n
    obtain ⟨⟨rfl,hw⟩,_⟩:=h
    exact ⟨.i k' n,⟨rfl,hw⟩,.int _ _⟩
  · rename_i hk
    cases ht
    simp only [DataW.trod,hk] at h
    cases v<;>simp at h
    rename_i k b
    obtain ⟨⟨rfl,hw⟩,_⟩:=h
    exact ⟨.f b,hw,.flt _ _ _ (.inl rfl)⟩
  · rename_i hk
    cases ht
    simp only [DataW.trod,hk] at h
    cases v<;>simp at h
    exact ⟨.s _,h.1,.str _⟩
  · rename_i hk
    cases ht
    simp only [DataW.trod,hk] at h
    cases v<;>simp at h
    exact ⟨.b _,trivial,.bool _ _⟩
  · rename_i e hk
    have key:∀ (he:P.cellsOf e=1),(v=.slice none 0 0)∨∃ (a:Addr) (len cap n:Nat) (V:Nat→Value),v=.slice (some a) len cap∧len≤cap∧cap≤maxLen ∧
        ∀ i,i<len→∃ y,W.cell? (a.add i)=some (V i)∧DataW.trod enc P W 0 (fun _=>true) true n e [V i]=some y:=by
      intro he
      rcases open_slice1 hk he h0 with ⟨h1,_⟩ | ⟨a,len,cap,m,n,V,D,Pl,h1,hb,hl,hm,hmm,_,hx⟩
      · simp only [List.cons.injEq,and_true] at h1
        exact .inl h1
      · simp only [List.cons.injEq,and_true] at h1
        refine .inr ⟨a,len,cap,n,V,h1,hl,hm,fun i hi=>⟨_,hx i (by rw [hmm,if_pos rfl];omega)⟩⟩
    split at ht
    · rename_i he hc
      cases ht
      rcases key hc with rfl | ⟨a,len,cap,n,V,rfl,hl,hm,hx⟩
      · exact ⟨.fl [],⟨Nat.zero_le _,fun x hx=>by cases hx⟩,.immEnd _ _ _ _ _ _ _ trivial (fun _=>rfl) rfl⟩
      · have hV:∀ i,i<len→V i=.float .f64 (QM (V i))∧(Lit.float .f64 (QM (V i))).wf=true:=by
          intro i hi
          obtain ⟨y,c1,c2⟩:=hx i hi
          cases n with
          | zero=>simp [DataW.trod] at c2
          | succ n =>
            simp only [DataW.trod,he] at c2
            cases hV:V i<;>rw [hV] at c2<;>simp at c2
            obtain ⟨⟨rfl,hw⟩,_⟩:=c2
            exact ⟨rfl,hw⟩
        refine ⟨.fl ((List.range len).map fun i=>QM (V i)),⟨by simp;omega,fun x hx=>?_⟩,?_⟩
        · simp only [List.mem_map,List.mem_range] at hx
          obtain ⟨i,hi,rfl⟩:=hx
          exact (hV i hi).2
        · simp only [FA.av,List.length_map,List.length_range]
          rcases Nat.eq_zero_or_pos len with rfl | hz
          · exact .immEnd _ _ _ _ _ _ _ trivial (fun _=>rfl) rfl
          · have h0:=Es (hx 0 hz).choose_spec.1
            have hs:a.spot=none:=by
              have e:a.add 0=a:=by simp [Addr.add]
              rw [e] at h0;exact h0
            have hcell:∀ i,i<len→W.cell? ⟨a.block,a.off+i,none⟩=some (V i):=fun i hi=>by
              obtain ⟨y,c1,_⟩:=hx i hi
              rw [H6 c1 hs] at c1;exact c1
            have ha:a=⟨a.block,a.off+0*1,none⟩:=by cases a;simp only at hs;subst hs;rfl
            have:=VR.imm (ρ:=ae.none_) (w:=W) .free (.fl ((List.range len).map fun i=>QM (V i))) 1 1 0 len cap a.block a.off V (Dh _ _) (KT (a:=⟨a.block,a.off+0,none⟩) (hcell 0 hz))
              (fun x v hx'=>by
                simp only [aI.cell?,Option.map_eq_some_iff] at hx'
                obtain ⟨y,h1,h2⟩:=hx'
                exact hcell x (nF _ _ _ _ h1).1)
              (fun x v hx'=>by
                simp only [aI.cell?,Option.map_eq_some_iff] at hx'
                obtain ⟨y,h1,rfl⟩:=hx'
                obtain ⟨q1,rfl⟩:=nF _ _ _ _ h1
                rw [(hV x q1).1]
                exact .flt _ _ _ (.inl rfl)) hl trivial (fun _=>rfl) rfl
            rw [ha];exact this
    · rename_i k he hc
      cases ht
      rcases key hc with rfl | ⟨a,len,cap,n,V,rfl,hl,hm,hx⟩
      · exact ⟨.ns k [],⟨rfl,Nat.zero_le _,fun x hx=>by cases hx⟩,.immEnd _ _ _ _ _ _ _ trivial (fun _=>rfl) rfl⟩
      · have hV:∀ i,i<len→V i=.int k (QN (V i))∧(Lit.int k (QN (V i))).wf=true:=by
          intro i hi
          obtain ⟨y,c1,c2⟩:=hx i hi
          cases n with
          | zero=>simp [DataW.trod] at c2
          | succ n =>
            simp only [DataW.trod,he] at c2
            cases hV:V i<;>rw [hV] at c2<;>simp at c2
            obtain ⟨⟨rfl,hw⟩,_⟩:=c2
            exact ⟨rfl,hw⟩
        refine ⟨.ns k ((List.range len).map fun i=>QN (V i)),⟨rfl,by simp;omega,fun x hx=>?_⟩,?_⟩
        · simp only [List.mem_map,List.mem_range] at hx
          obtain ⟨i,hi,rfl⟩:=hx
          exact (hV i hi).2
        · simp only [FA.av,List.length_map,List.length_range]
          rcases Nat.eq_zero_or_pos len with rfl | hz
          · exact .immEnd _ _ _ _ _ _ _ trivial (fun _=>rfl) rfl
          · have h0:=Es (hx 0 hz).choose_spec.1
            have hs:a.spot=none:=by
              have e:a.add 0=a:=by simp [Addr.add]
              rw [e] at h0;exact h0
            have hcell:∀ i,i<len→W.cell? ⟨a.block,a.off+i,none⟩=some (V i):=fun i hi=>by
              obtain ⟨y,c1,_⟩:=hx i hi
              rw [H6 c1 hs] at c1;exact c1
            have ha:a=⟨a.block,a.off+0*1,none⟩:=by cases a;simp only at hs;subst hs;rfl
            have:=VR.imm (ρ:=ae.none_) (w:=W) .free (.ns k ((List.range len).map fun i=>QN (V i))) 1 1 0 len cap a.block a.off V (Dh _ _) (KT (a:=⟨a.block,a.off+0,none⟩) (hcell 0 hz))
              (fun x v hx'=>by
                simp only [aI.cell?,Option.map_eq_some_iff] at hx'
                obtain ⟨y,h1,h2⟩:=hx'
                exact hcell x (nF _ _ _ _ h1).1)
              (fun x v hx'=>by
                simp only [aI.cell?,Option.map_eq_some_iff] at hx'
                obtain ⟨y,h1,rfl⟩:=hx'
                obtain ⟨q1,rfl⟩:=nF _ _ _ _ h1
                rw [(hV x q1).1]
                exact .int _ _) hl trivial (fun _=>rfl) rfl
            rw [ha];exact this
    · cases ht
  · cases ht
theorem TV{t:TypeId}{ft:FT}{v:Value}{d:DataW H}{p:List MemPlace}{base:Nat}(ht:abx P t=some ft)(ho:Value.okWide P W .any base t v)(h:DataW.Trod enc P W 0 (fun _=>true) true t v d p) :
    ∃ a:FA,a.has ft∧VR ae.none_ W a.av v:=by
  obtain ⟨fuel,hf⟩:=h
  have hc:v.cells.toList=[v]:=by
    have hne:∀ c,v ≠ .agg c:=by
      rintro c rfl
      unfold abx at ht
      unfold Value.okWide at ho
      split at ht
      case h_6=>cases ht
      all_goals (rename_i hk;rw [hk] at ho;simp [Cell.okWide,Cell.ok,hk] at ho)
    cases v<;>first | rfl | exact (hne _ rfl).elim
  rw [hc] at hf
  exact O9 ht hf
def FA.avs:List FA→List AV
  | []=>[]
  | a::l=>a.av::FA.avs l
def vS:List FT→List FA→Prop
  | [],[]=>True
  | t::ts,a::fas=>a.has t∧vS ts fas
  | _,_=>False
def aej(P:Program)(t:TypeId) :Option (List FT) :=
  match P.underlying t with
  | some (.struct fs)=>bif P.cellsOf t==fs.size&&fs.toList.zipIdx.all (fun x=>x.1.offset==x.2&&P.cellsOf x.1.type==1) then fs.toList.mapM fun f=>abx P f.type else none
  | _=>none
theorem H7{n:Nat} :∀ (fs:List Field) (o:Nat) {fts:List FT} {cs:List Value} {xs:List (DataW H×List MemPlace)},cs.length=o+fs.length→(∀ (j:Nat) (f:Field),fs[j]? = some f→f.offset=o+j∧P.cellsOf f.type=1)→fs.mapM (fun f=>abx P f.type)=some fts →
    fs.mapM (fun f=>DataW.trod enc P W 0 (fun _=>true) true n f.type ((cs.drop f.offset).take (P.cellsOf f.type)))=some xs→∃ fas:List FA,vS fts fas∧cU ae.none_ W (FA.avs fas) (cs.drop o)
  | [],o,fts,cs,xs,hl,_,h1,h2=>by
    simp at h1;subst h1
    exact ⟨[],trivial,by rw [List.drop_eq_nil_of_le (by simp at hl;omega)];exact .nil⟩
  | f::fs,o,fts,cs,xs,hl,hf,h1,h2=>by
    simp only [List.mapM_cons,Option.pure_def,Option.bind_eq_bind,Option.bind_eq_some_iff,Option.some.injEq] at h1 h2
    obtain ⟨ft,a1,fts',a2,rfl⟩:=h1
    obtain ⟨x,b1,xs',b2,rfl⟩:=h2
    obtain ⟨e1,e2⟩:=hf 0 f rfl
    simp only [List.length_cons] at hl
    have hlt:o<cs.length:=by omega
    have hd:(cs.drop f.offset).take (P.cellsOf f.type)=[cs[o]]:=by
      rw [e1,e2,Nat.add_zero,List.drop_eq_getElem_cons hlt];rfl
    rw [hd] at b1
    obtain ⟨a,k1,k2⟩:=O9 a1 b1
    obtain ⟨fas,k3,k4⟩:=H7 fs (o+1) (cs:=cs) (by omega) (fun j f' hj=>by have:=hf (j+1) f' (by simpa using hj);exact ⟨by omega,this.2⟩) a2 b2
    refine ⟨a::fas,⟨k1,k3⟩,?_⟩
    rw [List.drop_eq_getElem_cons hlt]
    exact .cons _ _ _ _ k2 k4
theorem QO{t:TypeId}{fts:List FT}{fuel:Nat}{cs:List Value}{x:DataW H×List MemPlace}(ht:aej P t=some fts)(h:DataW.trod enc P W 0 (fun _=>true) true fuel t cs=some x) :
    ∃ fas:List FA,vS fts fas∧cU ae.none_ W (FA.avs fas) cs:=by
  unfold aej at ht
  split at ht
  case h_2=>cases ht
  rename_i fs hk
  cases hb:(P.cellsOf t==fs.size&&fs.toList.zipIdx.all (fun x=>x.1.offset==x.2&&P.cellsOf x.1.type==1)) with
  | false=>rw [hb] at ht;cases ht
  | true =>
  rw [hb] at ht
  simp only [cond_true] at ht
  simp only [Bool.and_eq_true,beq_iff_eq,List.all_eq_true] at hb
  cases fuel with
  | zero=>simp [DataW.trod] at h
  | succ fuel =>
  simp only [DataW.trod,hk] at h
  split at h
  case isFalse=>cases h
  rename_i hlen
  simp only [Option.map_eq_some_iff] at h
  obtain ⟨xs,h1,_⟩:=h
  have:=H7 fs.toList 0 (cs:=cs) (by rw [hlen,hb.1];simp) (fun j f hj=>by
    have:=hb.2 (f,j) (by rw [List.mem_zipIdx_iff_getElem?];exact hj)
    simp only at this
    exact ⟨by omega,this.2⟩) ht h1
  simpa using this
theorem H8{t:TypeId}{fts:List FT}{v:Value}{d:DataW H}{p:List MemPlace}{base:Nat}(ht:aej P t=some fts)(ho:Value.okWide P W .any base t v)(h:DataW.Trod enc P W 0 (fun _=>true) true t v d p) :
    ∃ fas:List FA,vS fts fas∧VR ae.none_ W (.agg (FA.avs fas)) v:=by
  obtain ⟨fuel,hf⟩:=h
  have hs:∃ cs,v=.agg cs:=by
    unfold aej at ht
    split at ht
    case h_2=>cases ht
    rename_i fs hk
    unfold Value.okWide at ho
    rw [hk] at ho
    obtain ⟨cs,rfl,_⟩:=ho
    exact ⟨cs,rfl⟩
  obtain ⟨cs,rfl⟩:=hs
  obtain ⟨fas,k1,k2⟩:=QO ht hf
  exact ⟨fas,k1,.agg _ _ k2⟩
theorem acT{W W':World}(h:gT (fun _=>False) W W') :Below W.heap.size W W' :=
  ⟨h.os,h.tape,h.output,h.size,fun k hk=>h.same k hk (fun q=>q)⟩
def tY(P:Program)(ts:List TypeId) :Bool:=ts.all fun t=>P.readableRec t&&decide (t<P.types.size)
theorem Pa{W W':World}(hl:laidOutB P=true)(hb:Below W.heap.size W W') :∀ {ts:List TypeId} {vs:List Value} {ds:List (DataW H)} {ps:List MemPlace},tY P ts=true →
    DataW.TrodAll enc P W 0 (fun _=>true) true ts vs ds ps→(∀ x∈ps,x.block<W.heap.size)→∀ sp:Nat→Bool,(∀ p∈ps,sp p.block=true)→DataW.TrodAll enc P W' 0 sp true ts vs ds ps
  | [],vs,ds,ps,_,h,_,_,_=>by obtain ⟨rfl,rfl,rfl⟩:=trodAll_nil h;rfl
  | t::ts,vs,ds,ps,hp,h,hlt,sp,hsp=>by
    obtain ⟨v,vs',d,ds',p,q,rfl,rfl,rfl,h1,h2⟩:=trodAll_cons h
    simp only [tY,List.all_cons,Bool.and_eq_true,decide_eq_true_eq] at hp
    exact ⟨p,q,WideElems.Trod_stays hl hp.1.1 hp.1.2 h1 (fun x hx=>hb.same (hlt x (by simp [hx]))) (fun x hx=>hsp x (by simp [hx])),
      Pa hl hb (by simpa [tY] using hp.2) h2 (fun x hx=>hlt x (by simp [hx])) sp (fun x hx=>hsp x (by simp [hx])),rfl⟩
theorem acU{f:Func}{s:ChangeSpec}{W W':World}{args:Array Value}{ds gs:List (DataW H)}{before:List MemPlace}{tb:TypeId}(hl:laidOutB P=true) 
    (hW:DataW.Whole enc P f.params.toList s.vars false W args.toList ds gs before) (hv:s.vars=[]) (hp:tY P f.params.toList=true)
    (hs:s.fn H (ds++gs) = { results:=[.lit (.bool true)],args:=ds }) (hr:f.resultTypes = #[tb]) (ht:P.underlying tb=some .bool) (hw:gT (fun _=>False) W W') :
    s.post enc P f false true false false W args (.bool true) W':=by
  have hb:=acT hw
  have hlt:∀ p∈before,p.block<W.heap.size:=fun p hp=>hW.lt p hp
  have hW':=hW
  obtain ⟨p,q,hA,hV,rfl,hfz,ln⟩:=hW'
  rw [hv] at hV
  obtain ⟨rfl,rfl⟩:=trodVars_none hV
  simp only [List.append_nil] at hlt hs hW
  have harg:=Pa hl hb hp hA hlt (fun b=>decide (b<W.heap.size)) (fun x hx=>by simpa using hlt x hx)
  refine ⟨ds,[],p,[],p,[],hW,?_,?_,?_,World.keptBut_mono (fun x hx=>⟨hx,.inr (.inl hx)⟩) (hb.frame (· ∈ p)),fun e=>(by cases e)⟩
  · rw [List.append_nil,hs,hr]
    exact trodAll_mk1 (shut_bool ht true)
  · rw [List.append_nil,hs];exact harg
  · rw [hv];simp only [List.append_nil,hs];exact rfl
theorem acV{k:IntKind}{a:FA}(h:a.has (.i k)) :∃ n,a=.i k n:=by
  cases a<;>simp only [FA.has] at h
  obtain ⟨rfl,_⟩:=h;exact ⟨_,rfl⟩
theorem acW{a:FA}(h:a.has .fl) :∃ x,a=.fl x:=by
  cases a<;>simp only [FA.has] at h
  exact ⟨_,rfl⟩
theorem aan{k k':IntKind}{l:List FA}(h:vS [.i k,.i k',.fl] l) :∃ r c xs,l=[.i k r,.i k' c,.fl xs]:=by
  match l,h with
  | [a,b,c],⟨h1,h2,h3,_⟩ =>
    obtain ⟨r,rfl⟩:=acV h1;obtain ⟨s,rfl⟩:=acV h2;obtain ⟨xs,rfl⟩:=acW h3
    exact ⟨r,s,xs,rfl⟩
theorem acX{ρ:ae}{w w':World}{k b:Bool}{u:Value}(h:(⟨.bool k b,[]⟩:gw).Holds ρ w w' 0 u) :u=.bool b:=by
  obtain ⟨ρ',_,_,_,h4⟩:=h
  cases h4;rfl
end
end Go.Plb
