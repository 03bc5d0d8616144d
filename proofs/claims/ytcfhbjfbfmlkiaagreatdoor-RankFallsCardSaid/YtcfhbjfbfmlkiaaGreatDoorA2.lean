/-
  Part 2 of what the claim leans on: an evaluator of the model, proved sound; the contracts of the functions.
-/
import Derived.Laws.BytesString
import GoSem.Instr.Lookup
import GoSem.Extern.MathSqrt
import GoSem.Extern.MathFloatBits
import GoSem.Extern.MathBitsCarry
import GoSem.Extern.BytealgIndexByte
import GoSem.Extern.BytealgCount
import Derived.OrdersIn
import Derived.LoopNIn
import Derived.RangeFuncRecord
import Derived.RangeFuncLeaves
import Derived.LoopN
import Derived.Scope
import Derived.RangeFuncIn
import Derived.Laws.Externs
import Derived.WalkKit
import Derived.ProofKit
import Derived.OpenShut
import Derived.Deep.Slices
import Derived.Test.YtcfhbjfbfmlkiaaGreatDoorChecked
import Derived.KernelRfl
import Derived.Test.YtcfhbjfbfmlkiaaGreatDoorA1
namespace Go.Plb
noncomputable section
set_option linter.unusedSimpArgs false
set_option linter.unusedVariables false
set_option linter.unusedSectionVars false
variable [Rom]
def vE(d:aD) :Nat→Nat→Option (List AV)
  | 0,_=>some []
  | n+1,x=>match d.cell? x,vE d n (x+1) with
    | some v,some l=>some (v::l)
    | _,_=>none
theorem Jc{d:aD} :∀ {n x:Nat} {l:List AV},vE d n x=some l→l.length=n∧∀ j,j<n→d.cell? (x+j)=l[j]?
  | 0,x,l,h=>by simp only [vE,Option.some.injEq] at h;subst h;exact ⟨rfl,fun j hj=>absurd hj (Nat.not_lt_zero _)⟩
  | n+1,x,l,h=>by
    unfold vE at h
    split at h
    case h_2=>cases h
    rename_i v l' h1 h2
    simp only [Option.some.injEq] at h;subst h
    obtain ⟨a,b⟩:=Jc h2
    refine ⟨by simp [a],fun j hj=>?_⟩
    cases j with
    | zero=>simpa using h1
    | succ j =>
      have:=b j (by omega)
      rw [show x+(j+1)=x+1+j by omega,this];simp
def cpL{α:Type}(xs:List α)(i k:Nat)(ys:List α) :List α:=xs.take i++(ys.take k++xs.drop (i+k))
def ag4(blk nb:aD)(w i k:Nat) :Option (aD×List Bool) :=
  match blk,nb with
  | .fl xs,.fl ys=>bif Nat.beq w 1 then some (.fl (cpL xs i k ys),[mt (i+k) xs.length,mt k ys.length]) else none
  | .ns kd xs,.ns kd' ys=>bif Nat.beq w 1&&cJ kd kd' then some (.ns kd (cpL xs i k ys),[mt (i+k) xs.length,mt k ys.length]) else none
  | .bs xs,.bs ys=>bif Nat.beq w 1 then some (.bs (cpL xs i k ys),[mt (i+k) xs.length,mt k ys.length]) else none
  | blk,nb=>match vE nb k 0 with
    | some l=>bif iw l then blk.wrN w i l 0 else none
    | none=>none
theorem Lq{α:Type}{d:aD}{f:α→AV}{ys:List α}(hd:∀ x,d.cell? x=(ys[x]?).map f) :∀ {k x:Nat},x+k≤ys.length→vE d k x=some (((ys.drop x).take k).map f)
  | 0,x,h=>by simp [vE]
  | k+1,x,h=>by
    have e1:ys[x]? = some (ys[x]'(by omega)):=List.getElem?_eq_getElem (by omega)
    have e2:=Lq hd (k:=k) (x:=x+1) (by omega)
    unfold vE
    rw [hd,e1,e2]
    simp only [Option.map_some]
    rw [List.drop_eq_getElem_cons (show x<ys.length by omega),List.take_succ_cons,List.map_cons]
theorem aa4{α:Type}{g:List α→aD}{f:α→AV}{i:Nat}(hg:∀ xs j z,(g xs).wr 1 i j (f z)=some (g (xs.set (fc j i) z),[fD (fc j i) xs.length])) :
    ∀ {zs xs:List α} {j:Nat},i+j+zs.length≤xs.length→∃ o,(g xs).wrN 1 i (zs.map f) j=some (g (xs.take (i+j)++(zs++xs.drop (i+j+zs.length))),o)∧aB o
  | [],xs,j,h=>⟨[],by simp [aD.wrN],trivial⟩
  | z::zs,xs,j,h=>by
    rw [List.length_cons] at h
    have ad:fc j i=i+j:=by rw [iM];omega
    obtain ⟨o,h1,h2⟩:=aa4 hg (zs:=zs) (xs:=xs.set (fc j i) z) (j:=j+1) (by rw [List.length_set];omega)
    refine ⟨fD (fc j i) xs.length::o,?_,by rw [ad];unfold fD;exact decide_eq_true (by omega),h2⟩
    simp only [List.map_cons,aD.wrN,hg,h1,List.singleton_append,Option.some.injEq,Prod.mk.injEq,and_true]
    congr 1
    rw [ad]
    have hp:i+j<xs.length:=by omega
    rw [show i+(j+1)=i+j+1 by omega,show i+j+(z::zs).length=i+j+1+zs.length by rw [List.length_cons];omega]
    generalize i+j=p at hp
    rw [List.drop_set_of_lt (by omega),List.take_succ_eq_append_getElem (by rw [List.length_set];exact hp),List.take_set_of_le (Nat.le_refl p),List.getElem_set_self]
    simp
theorem Lr{α:Type}{f:α→AV}(hf:∀ z,(f z).one=true) :∀ (zs:List α),iw (zs.map f)=true
  | []=>rfl
  | z::zs=>by simp only [List.map_cons,iw,hf,Lr hf zs,Bool.and_self]
theorem RD{α:Type}{g:List α→aD}{f:α→AV}{i k:Nat}{xs ys:List α}(hg:∀ xs j z,(g xs).wr 1 i j (f z)=some (g (xs.set (fc j i) z),[fD (fc j i) xs.length]))(hd:∀ x,(g ys).cell? x=(ys[x]?).map f)(hf:∀ z,(f z).one=true) 
    (h1:mt (i+k) xs.length=true) (h2:mt k ys.length=true):∃ l o',vE (g ys) k 0=some l∧iw l=true∧(g xs).wrN 1 i l 0=some (g (cpL xs i k ys),o')∧aB o':=by
  unfold mt at h1 h2
  rw [decide_eq_true_eq] at h1 h2
  have hlen:(ys.take k).length=k:=by rw [List.length_take];omega
  obtain ⟨o,w1,w2⟩:=aa4 hg (zs:=ys.take k) (xs:=xs) (j:=0) (by rw [hlen];omega)
  refine ⟨_,o,Lq hd (by omega),Lr hf _,?_,w2⟩
  rw [List.drop_zero,w1,hlen];rfl
theorem acm{blk nb blk':aD}{w i k:Nat}{o:List Bool}(h:ag4 blk nb w i k=some (blk',o))(ho:aB o) :∃ l o',vE nb k 0=some l∧iw l=true∧blk.wrN w i l 0=some (blk',o')∧aB o':=by
  unfold ag4 at h
  split at h
  · cases e:Nat.beq w 1 with
    | false=>rw [e] at h;cases h
    | true =>
      rw [e] at h;cases h
      cases Nat.eq_of_beq_eq_true e
      exact RD (g:=.fl) (f:=.flt false) (fun _ _ _=>rfl) (fun _=>rfl) (fun _=>rfl) ho.1 ho.2.1
  · rename_i kd xs kd' ys
    cases e:Nat.beq w 1&&cJ kd kd' with
    | false=>rw [e] at h;cases h
    | true =>
      rw [e] at h;cases h
      rw [Bool.and_eq_true] at e
      cases Nat.eq_of_beq_eq_true e.1
      have e2:kd=kd':=by have:=e.2;simpa [cJ] using this
      cases e2
      exact RD (g:=.ns kd) (f:=.int kd) (fun xs j z=>by simp [aD.wr,cJ]) (fun _=>rfl) (fun _=>rfl) ho.1 ho.2.1
  · cases e:Nat.beq w 1 with
    | false=>rw [e] at h;cases h
    | true =>
      rw [e] at h;cases h
      cases Nat.eq_of_beq_eq_true e
      exact RD (g:=.bs) (f:=.bool false) (fun _ _ _=>rfl) (fun _=>rfl) (fun _=>rfl) ho.1 ho.2.1
  · split at h
    case h_2=>cases h
    rename_i l hl
    cases e:iw l with
    | false=>rw [e] at h;cases h
    | true=>rw [e] at h;exact ⟨l,o,hl,e,h,ho⟩
def P9(P:Program)(g:Nat→Option aD)(t:TypeId)(d x:AV) :Option (Nat×Nat×aD×List Bool×List Nat) :=
  match P.underlying t,d with
  | some (.slice e),.sl b w es i len _ =>
    match P.info? e,g b,Ud g x with
    | some inf,some blk,some (m,es',nb,obs,rs) =>
      bif Nat.beq inf.size 1&&Nat.beq es' 1 then (ag4 blk nb w i (Nat.min m len)).map fun r=>(Nat.min m len,b,r.1,obs++r.2,b::rs) else none
    | _,_,_=>none
  | _,_=>none
theorem HR.same{ρ:ac}{w:World}{h:bN}{n b:Nat}{d:aD}(hh:HR ρ w h n)(hg:be h b=some d) :HR ρ w (eY h b d) n:=by
  have e:∀ c,be (eY h b d) c=be h c:=by
    intro c;rw [cR];split
    · rename_i q;subst q;exact hg.symm
    · rfl
  exact ⟨fun c e' he=>hh.cell c e' (by rw [←e];exact he),fun a c d e' h1 h2=>hh.inj a c d e' (by rw [←e];exact h1) (by rw [←e];exact h2),hh.fresh,hh.liveLt,hh.outLt,hh.lt,hh.rom⟩
theorem Uj{P:Program}{ρ:ac}{w:World}{h:bN}{n:Nat}(hh:HR ρ w h n){t t' T:TypeId}{d x:AV}{d' x':Value}(hd:VR ρ w d d')(hx:VR ρ w x x'){k b:Nat}{blk:aD}{obs:List Bool}{rs:List Nat} 
    (hc:P9 P (be h) t d x=some (k,b,blk,obs,rs)) (ho:aB obs):∃ w',(Builtin.copy_ #[t,t'] T #[d',x']).run P w=.ok (.int .i64 (k:Int)) w'∧HR ρ w' (eY h b blk) n∧iq ρ.live w w':=by
  unfold P9 at hc
  split at hc
  case h_2=>cases hc
  rename_i e b' kk es i len cap ht
  split at hc
  case h_2=>cases hc
  rename_i inf blk0 m es' nb obs' rs' hi hg hsrc
  cases h1:Nat.beq inf.size 1&&Nat.beq es' 1 with
  | false=>rw [h1] at hc;cases hc
  | true =>
  rw [h1] at hc
  simp only [Bool.and_eq_true] at h1
  have hsz:=Nat.eq_of_beq_eq_true h1.1
  have hes:=Nat.eq_of_beq_eq_true h1.2
  subst hes
  simp only [cond_true,Option.map_eq_some_iff,Prod.mk.injEq] at hc
  obtain ⟨⟨blk',o'0⟩,hc2,rfl,rfl,rfl,rfl,rfl⟩:=hc
  rw [bh] at ho
  obtain ⟨l,o',hl,h2,hw,ho2⟩:=acm hc2 ho.2
  replace ho:aB obs'∧aB o':=⟨ho.1,ho2⟩
  have hS:=Lm hh hx hsrc ho.1
  obtain ⟨l1,l2⟩:=Jc hl
  obtain ⟨a,c,rfl,hv⟩:=hS.val
  have hsize:P.cellsOf e=1:=by simp [Program.cellsOf,hi,hsz]
  by_cases hn0:Nat.min m len=0
  · have el:l=[]:=List.length_eq_zero_iff.1 (by rw [l1,hn0])
    subst el
    simp only [aD.wrN,Option.some.injEq,Prod.mk.injEq] at hw
    obtain ⟨rfl,rfl⟩:=hw
    refine ⟨w,?_,hh.same hg,iq.refl _ _⟩
    rw [hn0]
    cases hd with
    | sl _ _ _ _ _ _ cap' hb hcap hle c' t' hhh hss =>
      have hn0':min m len=0:=hn0
      cases a<;>simp [Builtin.copy_,run_underlying ht,sizeOf,typeInfo,hi,Builtin.lenOf,Builtin.firstCells,storeCells,loadCells,loadCellsFrom,hn0',goInt]<;>rfl
    | slEnd _ _ _ _ a' =>
      cases a<;>cases a'<;>simp [Builtin.copy_,run_underlying ht,sizeOf,typeInfo,hi,Builtin.lenOf,Builtin.firstCells,storeCells,loadCells,loadCellsFrom,goInt]<;>rfl
  · have hmn : ¬ m=0:=fun q=>hn0 (by subst q;exact Nat.zero_min _)
    rcases hv with q | ⟨bl,o,rfl,news,hnl,hnews,hone,hrel⟩
    · exact absurd q hmn
    have hle:Nat.min m len≤news.length:=by rw [hnl,Nat.mul_one];exact Nat.min_le_left _ _
    have hvs:cV ρ w l (news.take (Nat.min m len)):=by
      have key:∀ (l:List AV) (us:List Value),l.length=us.length→(∀ (j:Nat) (v:AV) (u:Value),l[j]? = some v→us[j]? = some u→VR ρ w v u)→cV ρ w l us:=by
        intro l
        induction l with
        | nil=>intro us h1 _;have:us=[]:=List.length_eq_zero_iff.1 h1.symm;subst this;exact .nil
        | cons v l ih =>
          intro us h1 h2
          cases us with
          | nil=>simp at h1
          | cons u us=>exact .cons _ _ _ _ (h2 0 v u rfl rfl) (ih us (by simpa using h1) fun j v' u' q1 q2=>h2 (j+1) v' u' (by simpa using q1) (by simpa using q2))
      refine key _ _ (by rw [l1,List.length_take];omega) fun j v u q1 q2=>?_
      have hj:j<Nat.min m len:=by
        rcases Nat.lt_or_ge j (Nat.min m len) with z | z
        · exact z
        · rw [List.getElem?_eq_none (by omega)] at q1;cases q1
      have:=l2 j hj
      rw [Nat.zero_add,q1] at this
      obtain ⟨u',r1,r2⟩:=hrel j v this
      rw [List.getElem?_take,if_pos hj,r1] at q2
      cases q2
      exact r2
    cases hd with
    | slEnd=>exact absurd (Nat.min_zero m) hn0
    | sl _ _ _ _ _ _ cap' hb hcap hle' c' t'' hhh hss =>
      obtain ⟨w',r1,r2,r3⟩:=tr (P:=P) (x0:=0) (j:=0) hh hg hvs h2 hw ho.2
      refine ⟨w',?_,r2,r3⟩
      have hf:=run_firstCells_some (P:=P) w 1 (Nat.min m len) ⟨bl,o,none⟩ m c (news.take (Nat.min m len)) (by rw [List.length_take];omega) (fun j v hj=>by
        rw [List.getElem?_take] at hj
        split at hj
        · exact hnews j v hj
        · cases hj)
      simp only [Nat.add_zero] at r1
      have hf':(Builtin.firstCells 1 (min m len) (.slice (some ⟨bl,o,none⟩) m c)).run P w=.ok (news.take (min m len)).toArray w:=hf
      have r1':(storeCells ⟨ρ.at_ b',i*kk,none⟩ (news.take (min m len)) 0).run P w=.ok () w':=r1
      have hm:((Nat.min m len:Nat):Int)=((min m len:Nat):Int):=rfl
      simp [Builtin.copy_,run_underlying ht,sizeOf,typeInfo,hi,hsz,Builtin.lenOf,hf',r1',goInt,hm]
def adO:AV→Bool
  | .nsl | .esl | .zsl _=>true
  | _=>false
theorem adP{ρ:ac}{w:World}{x:AV}{u:Value}(h:VR ρ w x u)(hv:adO x=true) :∃ a c,u=.slice a 0 c:=by
  cases h<;>first | exact ⟨_,_,rfl⟩ | cases hv
def Qa(P:Program)(g:Nat→Option aD)(t:TypeId)(d x:AV) :Option (Nat×Nat×aD×List Bool×List Nat) :=
  match adO x with
  | false=>P9 P g t d x
  | true=>match P.underlying t,d with
    | some (.slice e),.sl b _ _ _ _ _=>match P.info? e,g b with
      | some _,some blk=>some (0,b,blk,[],[b])
      | _,_=>none
    | _,_=>none
theorem Uk{P:Program}{ρ:ac}{w:World}{h:bN}{n:Nat}(hh:HR ρ w h n){t t' T:TypeId}{d x:AV}{d' x':Value}(hd:VR ρ w d d')(hx:VR ρ w x x'){k b:Nat}{blk:aD}{obs:List Bool}{rs:List Nat} 
    (hc:Qa P (be h) t d x=some (k,b,blk,obs,rs)) (ho:aB obs):∃ w',(Builtin.copy_ #[t,t'] T #[d',x']).run P w=.ok (.int .i64 (k:Int)) w'∧HR ρ w' (eY h b blk) n∧iq ρ.live w w':=by
  unfold Qa at hc
  split at hc
  · exact Uj hh hd hx hc ho
  · rename_i hvx
    obtain ⟨a,c,rfl⟩:=adP hx hvx
    split at hc
    case h_2=>cases hc
    rename_i e b' kk es i len cap ht
    split at hc
    case h_2=>cases hc
    rename_i inf blk0 hi hg
    simp only [Option.some.injEq,Prod.mk.injEq] at hc
    obtain ⟨rfl,rfl,rfl,rfl,rfl⟩:=hc
    refine ⟨w,?_,hh.same hg,iq.refl _ _⟩
    cases hd with
    | sl _ _ _ _ _ _ cap' hb hcap hle c' t' hhh hss =>
      cases a<;>simp [Builtin.copy_,run_underlying ht,sizeOf,typeInfo,hi,Builtin.lenOf,Builtin.firstCells,storeCells,loadCells,loadCellsFrom,goInt]<;>rfl
    | slEnd _ _ _ _ a' =>
      cases a<;>cases a'<;>simp [Builtin.copy_,run_underlying ht,sizeOf,typeInfo,hi,Builtin.lenOf,Builtin.firstCells,storeCells,loadCells,loadCellsFrom,goInt]<;>rfl
def ahP(l:List Int) :ByteArray:=l.foldl (fun r n=>r.push (UInt8.ofNat n.toNat)) ByteArray.empty
def acn(P:Program)(g:Nat→Option aD)(s d:TypeId)(x:AV) :Option (ByteArray×List Bool×List Nat) :=
  match P.underlying s,P.underlying d with
  | some (.slice e),some .string =>
    match P.underlying e,Ud g x with
    | some (.int .u8),some (m,es,.ns k ys,obs,rs)=>bif Nat.beq es 1&&cJ k .u8 then some (ahP ys,obs,rs) else none
    | _,_=>none
  | _,_=>none
theorem Yc{P:Program}{ρ:ac}{w:World}{h:bN}{n:Nat}(hh:HR ρ w h n){s d:TypeId}{x:AV}{x':Value}(hx:VR ρ w x x'){t:ByteArray}{obs:List Bool}{rs:List Nat} 
    (hc:acn P (be h) s d x=some (t,obs,rs)) (ho:aB obs):(convert s d x').run P w=.ok (.string t) w:=by
  unfold acn at hc
  split at hc
  case h_2=>cases hc
  rename_i e hs hd
  split at hc
  case h_2=>cases hc
  rename_i m es k ys obs' rs' he hsrc
  cases h1:Nat.beq es 1&&cJ k .u8 with
  | false=>rw [h1] at hc;cases hc
  | true =>
  rw [h1] at hc
  simp only [Bool.and_eq_true] at h1
  have hes:=Nat.eq_of_beq_eq_true h1.1
  have hk:k=.u8:=by simpa [cJ] using h1.2
  subst hes hk
  simp only [cond_true,Option.some.injEq,Prod.mk.injEq] at hc
  obtain ⟨rfl,rfl,rfl⟩:=hc
  have hS:=Lm hh hx hsrc ho
  obtain ⟨a,c,rfl,hv⟩:=hS.val
  have hlen:ys.length=m:=by
    have:=hS.count
    rw [Nat.mul_one] at this
    exact this
  rw [run_convert_bytes_string w s d e a m c hs he hd]
  rcases hv with h0 | ⟨bl,o,rfl,news,hnl,hnews,hone,hrel⟩
  · subst h0
    have hy:ys=[]:=List.length_eq_zero_iff.1 hlen
    subst hy
    cases a with
    | none=>rfl
    | some a=>exact run_bytesToString w a 0 c [] (by simp [loadCells,loadCellsFrom])
  · have hnews':news=ys.map (Value.int .u8):=by
      refine List.ext_getElem? fun j=>?_
      rw [List.getElem?_map]
      cases hj:ys[j]? with
      | none =>
        rw [List.getElem?_eq_none_iff] at hj
        rw [List.getElem?_eq_none (by omega)];rfl
      | some z =>
        obtain ⟨u,q1,q2⟩:=hrel j (.int .u8 z) (by show (ys[j]?).map _=_;rw [hj];rfl)
        rw [q1]
        cases q2
        rfl
    subst hnews'
    refine run_bytesToString w ⟨bl,o,none⟩ m c ys ?_
    have hf:=run_firstCells_some (P:=P) w 1 m ⟨bl,o,none⟩ m c (ys.map (Value.int .u8)) (by rw [hnl]) hnews
    simpa [Builtin.firstCells] using hf
def Hj(P:Program)(g:Nat→Option aD)(t:TypeId)(x:AV)(lo hi:Option AV) :Option (AV×List Bool×List Nat) :=
  match P.underlying t,x with
  | some (.array n e),.ptr b 1 0 0 =>
    match g b,P.info? e,Hb hi n,Hb lo 0 with
    | some (.ns k xs),some ie,some h,some l =>
      bif Nat.beq ie.size 1 then some (.sl b 1 1 l.toNat (h.toNat-l.toNat) (n-l.toNat),[xr h n,xr l h.toNat,mt n xs.length],[b]) else none
    | _,_,_,_=>none
  | _,_=>none
theorem RE{P:Program}{ρ:ac}{w:World}{hp:bN}{m:Nat}(hh:HR ρ w hp m){e:Operand→AV}{g:Operand→Value}(hops:∀ x,VR ρ w (e x) (g x)){t:TypeId}{x:AV}{x':Value}{lo hi:Option Operand}{v:AV}{obs:List Bool}{rs:List Nat} 
    (hx:VR ρ w x x') (h:Hj P (be hp) t x (lo.map e) (hi.map e)=some (v,obs,rs)) (ho:aB obs):jl P ρ w (Instr.sliceAt t x' (lo.map g) (hi.map g) none) v:=by
  unfold Hj at h
  split at h
  case h_2=>cases h
  rename_i n el b hu
  split at h
  case h_2=>cases h
  rename_i k xs ie hh' ll hg hi' e1 e2
  cases hb1:Nat.beq ie.size 1 with
  | false=>rw [hb1] at h;cases h
  | true =>
  rw [hb1] at h
  simp only [cond_true,Option.some.injEq,Prod.mk.injEq] at h
  obtain ⟨rfl,rfl,rfl⟩:=h
  have hsz:ie.size=1:=Nat.eq_of_beq_eq_true hb1
  have b1:=iN ho.1
  have b2:=iN ho.2.1
  have b3:n≤xs.length:=by have:=ho.2.2.1;unfold mt at this;exact of_decide_eq_true this
  have hce:P.cellsOf el=1:=by simp [Program.cellsOf,hi',hsz]
  cases hx with
  | ptr _ _ _ _ hbo =>
  obtain ⟨hl,hr,c,ty,hc,hcv⟩:=hh.real hg hbo
  have hn:n≤c.size:=by
    rcases Nat.eq_zero_or_pos n with z | z
    · omega
    · have hlt:n-1<xs.length:=by omega
      obtain ⟨u,q,_⟩:=hcv (n-1) (.int k (xs[n-1]'hlt)) (by show (xs[n-1]?).map _=_;rw [List.getElem?_eq_getElem hlt];rfl)
      have:=(Array.getElem?_eq_some_iff.1 q).1
      omega
  have run:=kg (P:=P) (w:=w) false n n (lo.map g) (hi.map g) ll hh' (mG hops e2) (mG hops e1) b1 ⟨b2.1,by omega⟩
  have run2:(Instr.sliceAt t (.pointer (some ⟨ρ.at_ b,0*1+0,none⟩)) (lo.map g) (hi.map g) none).run P w=.ok (.slice (some (if n=ll.toNat then ⟨ρ.at_ b,0*1+0,none⟩ else (Addr.add ⟨ρ.at_ b,0*1+0,none⟩ (ll.toNat*P.cellsOf el)))) (hh'.toNat-ll.toNat) (n-ll.toNat)) w:=by
    simp only [Instr.sliceAt,Sem.run_bind,run_underlying hu,Result.andThen]
    simp [Instr.sureAddr,run,run_sizeOf w hi',hce,hsz,Sem.run_bind,Result.andThen,Sem.run_pure,Go.asAddr]
  refine .plain run2 ?_
  by_cases q:n=ll.toNat
  · rw [if_pos q]
    have z1:hh'.toNat-ll.toNat=0:=by omega
    have z2:n-ll.toNat=0:=by omega
    rw [z1,z2]
    exact .slEnd _ _ _ _ _
  · rw [if_neg q,kY,hce]
    have:0*1+0+ll.toNat*1=ll.toNat*1:=by omega
    rw [this]
    exact .sl _ _ _ _ _ _ _ hbo (Nat.le_refl _) (by omega) c ty hc (by omega)
theorem RF{P:Program}{g g':Nat→Option aD}{t:TypeId}{x:AV}{lo hi:Option AV}{r:AV×List Bool×List Nat}(h:Hj P g t x lo hi=some r)(hg:∀ b∈r.2.2,g' b=g b) :Hj P g' t x lo hi=some r:=by
  unfold Hj at h ⊢
  split at h
  case h_2=>cases h
  rename_i n el b hu
  split at h
  case h_2=>cases h
  rename_i k xs ie hh' ll hgb hi' e1 e2
  cases hb1:Nat.beq ie.size 1 with
  | false=>rw [hb1] at h;cases h
  | true =>
  rw [hb1] at h
  simp only [cond_true,Option.some.injEq] at h
  subst h
  have:g' b=some (.ns k xs):=by rw [hg b (by simp)];exact hgb
  simp only [this,hi',e1,e2,hb1,cond_true]
def dz.like:dz→dz→Bool
  | .i k _,.i k' _=>cJ k k'
  | .s _,.s _=>true
  | .p k _ _,.p k' _ _=>cJ k k'
  | _,_=>false
def dz.same:dz→dz→Bool
  | .i _ n,.i _ m=>n==m
  | .s a,.s b=>decide (a=b)
  | .p _ x y,.p _ x' y'=>x==x'&&y==y'
  | _,_=>false
def dz.fits:TypeDesc→dz→Bool
  | .int _,.i ..=>true
  | .string,.s _=>true
  | _,_=>false
def Fz(k:dz) :List dz→Bool
  | []=>true
  | q::l=>k.like q&&Fz k l
def Ls:List dz→Bool
  | []=>true
  | q::l=>(l.all fun r=>!q.same r)&&Ls l
def ag5:AV→Option dz
  | .int k n=>some (.i k n)
  | .str s=>some (.s s)
  | .agg [.int k x,.int k' y]=>bif cJ k k' then some (.p k x y) else none
  | _=>none
def Lt(P:Program)(kt:TypeId) :dz→Bool
  | .p k _ _=>match P.underlying kt with
    | some (.array 2 et)=>match P.underlying et,(P.info? et).map (·.size) with
      | some (.int _),some 1=>true
      | _,_=>false
    | _=>false
  | _=>false
def adQ:Value→AV
  | .agg c=>.agg (c.toList.map fH)
  | v=>fH v
def okV(cok:Bool)(v:AV)(b:Bool) :AV:=bif cok then .tup [v,.bool true b] else v
def FB(cok:Bool)(k:dz) :List dz→List AV→List sK
  | q::ks,v::vs=>⟨okV cok v true,[],[k.same q]⟩::FB cok k ks vs
  | _,_=>[]
def RG(P:Program)(t:TypeId)(x k:AV)(cok:Bool) :List sK :=
  match P.underlying t,x,ag5 k with
  | some (.map kt et),.gmap ks vs,some key =>
    match P.underlying kt,(P.info? et).bind (·.zero) with
    | some d,some z=>bif (key.fits d||Lt P kt key)&&Fz key ks&&Ls ks then FB cok key ks vs++[⟨okV cok (adQ z) false,[],ks.map fun q=>!key.same q⟩] else []
    | _,_=>[]
  | _,_,_=>[]
theorem Lu{P:Program}{w:World}{t:TypeId}{n:Nat}(h:(P.info? t).map (·.size)=some n) :(sizeOf t).run P w=.ok n w:=by
  obtain ⟨i,h1,h2⟩:=Option.map_eq_some_iff.1 h
  subst h2
  simp [sizeOf,typeInfo,Sem.run_bind,h1]
theorem FC{P:Program}{w:World}{et:TypeId}{k:IntKind}(he:P.underlying et=some (.int k)){cs:Array Value}{off:Nat}{v:Value}(hc:cs[off]? = some v) :(part et cs off).run P w=.ok v w:=by
  unfold part
  simp [isAgg,Sem.run_bind,run_underlying he,hc]
theorem afG{P:Program}{w:World}{kt et:TypeId}{k:IntKind}(hu:P.underlying kt=some (.array 2 et))(he:P.underlying et=some (.int k))(hs:(P.info? et).map (·.size)=some 1)(j:IntKind)(x y x' y':Int)(n:Nat) :
    (Op.equalIn (n+2) kt (.agg #[.int j x,.int j y]) (.agg #[.int j x',.int j y'])).run P w=.ok (x==x'&&y==y') w:=by
  unfold Op.equalIn
  rw [Sem.run_bind,run_underlying hu]
  simp only [Result.andThen_ok,Sem.run_bind,Lu hs]
  have e1:∀ a b,(Op.equalIn (n+1) et (.int j a) (.int j b)).run P w=.ok (a==b) w:=fun a b=>by
    unfold Op.equalIn
    rw [Sem.run_bind,run_underlying he]
    simp
  have p0:∀ a b:Int,(part et #[.int j a,.int j b] 0).run P w=.ok (.int j a) w:=fun a b=>FC he rfl
  have p1:∀ a b:Int,(part et #[.int j a,.int j b] 1).run P w=.ok (.int j b) w:=fun a b=>FC he rfl
  simp [Std.Legacy.Range.forIn_eq_forIn_range',Std.Legacy.Range.size,List.range',Sem.run_bind,p0,p1,e1]
  cases h1:(x==x')<;>cases h2:(y==y')<;>simp_all [Sem.run_bind,p0,p1,e1]
theorem Lw{P:Program}{w:World}{kt et:TypeId}{k:IntKind}(hu:P.underlying kt=some (.array 2 et))(he:P.underlying et=some (.int k))(hs:(P.info? et).map (·.size)=some 1)(j:IntKind)(x y:Int)(b:Bool)(n:Nat) :
    (Instr.checkKey b (n+2) kt (.agg #[.int j x,.int j y])).run P w=.ok () w:=by
  unfold Instr.checkKey
  rw [Sem.run_bind,run_underlying hu]
  have p0:∀ a b:Int,(part et #[.int j a,.int j b] 0).run P w=.ok (.int j a) w:=fun a b=>FC he rfl
  have p1:∀ a b:Int,(part et #[.int j a,.int j b] 1).run P w=.ok (.int j b) w:=fun a b=>FC he rfl
  have c1:∀ a,(Instr.checkKey b (n+1) et (.int j a)).run P w=.ok () w:=fun a=>by
    unfold Instr.checkKey
    rw [Sem.run_bind,run_underlying he]
    rfl
  simp [Std.Legacy.Range.forIn_eq_forIn_range',Std.Legacy.Range.size,List.range',Sem.run_bind,Lu hs,p0,p1,c1]
theorem Qb{P:Program}{kt:TypeId}{key:dz}(h:Lt P kt key=true) :∃ k x y et k',key=.p k x y∧P.underlying kt=some (.array 2 et)∧P.underlying et=some (.int k')∧(P.info? et).map (·.size)=some 1:=by
  unfold Lt at h
  split at h
  case h_2=>cases h
  rename_i k x y
  split at h
  case h_2=>cases h
  rename_i et hu
  split at h
  case h_2=>cases h
  rename_i k' he hs
  exact ⟨k,x,y,et,k',rfl,hu,he,hs⟩
theorem nY{k:dz} :∀ {l:List dz},Fz k l=true→∀ q∈l,k.like q=true
  | [],_,q,h=>by cases h
  | r::l,h,q,hq=>by
    simp only [Fz,Bool.and_eq_true] at h
    rcases List.mem_cons.1 hq with rfl | hq
    · exact h.1
    · exact nY h.2 q hq
theorem Ul(ρ:ac)(w:World)(v:Value) :VR ρ w (adQ v) v:=by
  unfold adQ
  split
  · exact .agg _ _ (xw ρ w _)
  · exact pZ ρ w v
theorem adR{ρ:ac}{w:World}{k:AV}{k':Value}{key:dz}(h:VR ρ w k k')(hk:ag5 k=some key) :k'=key.val:=by
  unfold ag5 at hk
  split at hk
  · cases hk;cases h;rfl
  · cases hk;cases h;rfl
  · rename_i k x k' y
    cases hs:cJ k k' with
    | false=>rw [hs] at hk;cases hk
    | true =>
      rw [hs] at hk
      have hkk:k=k':=by simpa [cJ] using hs
      subst hkk
      cases hk
      cases h with | agg _ c h =>
      obtain ⟨c⟩:=c
      cases h with | cons _ _ _ _ h1 h2 =>
      cases h2 with | cons _ _ _ _ h2 h3 =>
      cases h3;cases h1;cases h2;rfl
  · cases hk
theorem wK{k q:dz}(h:k.like q=true) :k.same q=true↔q.val=k.val:=by
  cases k with
  | i k n =>
    cases q with
    | i k' m =>
      have:k=k':=by simpa [dz.like,cJ] using h
      subst this
      simp only [dz.same,dz.val,beq_iff_eq,Value.int.injEq,true_and]
      exact ⟨fun e=>e.symm,fun e=>e.symm⟩
    | s b=>cases h
    | p=>cases h
  | p k x y =>
    cases q with
    | p k' x' y' =>
      have:k=k':=by simpa [dz.like,cJ] using h
      subst this
      simp only [dz.same,dz.val,Bool.and_eq_true,beq_iff_eq]
      exact ⟨fun ⟨h1,h2⟩=>by rw [h1,h2],fun h=>by simp at h;exact ⟨h.1.symm,h.2.symm⟩⟩
    | i=>cases h
    | s=>cases h
  | s a =>
    cases q with
    | i k' m=>cases h
    | p=>cases h
    | s b =>
      simp only [dz.same,dz.val,decide_eq_true_eq,Value.string.injEq]
      exact ⟨fun e=>e.symm,fun e=>e.symm⟩
theorem ag6(a b:ByteArray) :(a==b)=decide (a=b):=by
  have e:(a==b)=(a.data==b.data):=rfl
  rw [e]
  by_cases h:a=b
  · subst h;simp
  · rw [decide_eq_false h]
    have:a.data≠b.data:=fun c=>h (by cases a;cases b;simp at c;subst c;rfl)
    simpa using this
theorem afH{d:TypeDesc}{k q:dz}(hf:k.fits d=true)(h:k.like q=true) :Instr.sameNow d k.val q.val=some (k.same q):=by
  cases k with
  | i k n =>
    cases q with
    | i k' m =>
      have:k=k':=by simpa [dz.like,cJ] using h
      subst this
      cases d<;>first | (cases hf;done) | simp [dz.val,Instr.sameNow,dz.same]
    | s b=>cases h
    | p=>cases h
  | p k x y=>cases d<;>cases hf
  | s a =>
    cases q with
    | i k' m=>cases h
    | p=>cases h
    | s b =>
      cases d<;>first | (cases hf;done) | (simp only [dz.val,Instr.sameNow,dz.same,ag6])
theorem FD{d:TypeDesc}{key:dz}(hf:key.fits d=true) :∀ (es:List MapEntry) (i:Nat),(∀ e∈es,∃ q:dz,key.like q=true∧e.key=q.val) →
    (Instr.findNow d key.val es i=some none∧∀ e∈es,e.key≠key.val)∨∃ j e,e∈es∧e.key=key.val∧Instr.findNow d key.val es i=some (some (j,e.val))
  | [],i,_=>.inl ⟨rfl,fun e h=>by cases h⟩
  | e::es,i,h=>by
    obtain ⟨q,hq,he⟩:=h e (by simp)
    have hn:Instr.sameNow d key.val e.key=some (key.same q):=by rw [he];exact afH hf hq
    cases hs:key.same q with
    | true =>
      refine .inr ⟨i,e,by simp,by rw [he];exact (wK hq).1 hs,?_⟩
      simp only [Instr.findNow,hn,hs]
    | false =>
      have hne:e.key≠key.val:=by rw [he];intro c;rw [(wK hq).2 c] at hs;cases hs
      rcases FD hf es (i+1) (fun e he=>h e (by simp [he])) with ⟨q1,q2⟩ | ⟨j,e',q1,q2,q3⟩
      · refine .inl ⟨by simp only [Instr.findNow,hn,hs];exact q1,fun e' he'=>?_⟩
        rcases List.mem_cons.1 he' with rfl | he'
        · exact hne
        · exact q2 e' he'
      · exact .inr ⟨j,e',by simp [q1],q2,by simp only [Instr.findNow,hn,hs];exact q3⟩
theorem FE{P:Program}{w:World}{kt et:TypeId}{k':IntKind}(hu:P.underlying kt=some (.array 2 et))(he:P.underlying et=some (.int k'))(hs:(P.info? et).map (·.size)=some 1){k:IntKind}{x y:Int} :∀ (es:List MapEntry) (i:Nat),(∀ e∈es,∃ q:dz,(dz.p k x y).like q=true∧e.key=q.val) →
    ((Instr.findAsking kt (dz.p k x y).val es i).run P w=.ok none w∧∀ e∈es,e.key≠(dz.p k x y).val)∨∃ j e,e∈es∧e.key=(dz.p k x y).val∧(Instr.findAsking kt (dz.p k x y).val es i).run P w=.ok (some (j,e.val)) w
  | [],i,_=>.inl ⟨by simp [Instr.findAsking],fun e h=>by cases h⟩
  | e::es,i,h=>by
    obtain ⟨q,hq,hk⟩:=h e (by simp)
    obtain ⟨k2,x',y',rfl⟩:∃ k2 x' y',q=.p k2 x' y':=by cases q<;>first | exact ⟨_,_,_,rfl⟩ | cases hq
    have hkk:k=k2:=by simpa [dz.like,cJ] using hq
    subst hkk
    have heq:(Op.equal kt (dz.p k x y).val e.key).run P w=.ok (x==x'&&y==y') w:=by
      rw [hk];exact afG hu he hs k x y x' y' _
    have hfa:(Instr.findAsking kt (dz.p k x y).val (e::es) i).run P w=if (x==x'&&y==y')=true then .ok (some (i,e.val)) w else (Instr.findAsking kt (dz.p k x y).val es (i+1)).run P w:=by
      rw [Instr.findAsking]
      simp only [Sem.run_bind,heq,Result.andThen_ok]
      split<;>simp
    cases hb:(x==x'&&y==y') with
    | true =>
      refine .inr ⟨i,e,by simp,?_,by rw [hfa,hb];rfl⟩
      simp only [Bool.and_eq_true,beq_iff_eq] at hb
      rw [hk,hb.1,hb.2]
    | false =>
      have hne:e.key≠(dz.p k x y).val:=by
        rw [hk]
        intro c
        simp [dz.val] at c
        rw [c.1,c.2] at hb
        simp at hb
      rw [hb] at hfa
      simp only [Bool.false_eq_true,if_false] at hfa
      rcases FE hu he hs es (i+1) (fun e he=>h e (by simp [he])) with ⟨q1,q2⟩ | ⟨j,e',q1,q2,q3⟩
      · refine .inl ⟨by rw [hfa];exact q1,fun e' he'=>?_⟩
        rcases List.mem_cons.1 he' with rfl | he'
        · exact hne
        · exact q2 e' he'
      · exact .inr ⟨j,e',by simp [q1],q2,by rw [hfa];exact q3⟩
theorem aco{P:Program}{w:World}{kt:TypeId}{d:TypeDesc}(hu:P.underlying kt=some d){key:dz}(hf:key.fits d=true)(b:Bool)(n:Nat) :(Instr.checkKey b (n+1) kt key.val).run P w=.ok () w:=by
  unfold Instr.checkKey
  rw [Sem.run_bind,run_underlying hu]
  cases key<;>cases d<;>first | (cases hf;done) | rfl
theorem Qc{P:Program}{w:World}{kt:TypeId}{d:TypeDesc}(hu:P.underlying kt=some d){key:dz}(hf:(key.fits d||Lt P kt key)=true)(b:Bool)(n:Nat) :(Instr.checkKey b (n+2) kt key.val).run P w=.ok () w:=by
  rcases Bool.or_eq_true _ _ ▸ hf with h | h
  · exact aco hu h b (n+1)
  · obtain ⟨k,x,y,et,k',rfl,h1,h2,h3⟩:=Qb h
    exact Lw h1 h2 h3 k x y b n
theorem FF{P:Program}{w:World}{kt:TypeId}{d:TypeDesc}(hu:P.underlying kt=some d){key:dz}(hf:(key.fits d||Lt P kt key)=true)(es:List MapEntry)(h:∀ e∈es,∃ q:dz,key.like q=true∧e.key=q.val) :
    ((Instr.findKey kt key.val es).run P w=.ok none w∧∀ e∈es,e.key≠key.val)∨∃ j e,e∈es∧e.key=key.val∧(Instr.findKey kt key.val es).run P w=.ok (some (j,e.val)) w:=by
  unfold Instr.findKey
  rcases Bool.or_eq_true _ _ ▸ hf with hk | hk
  · rcases FD hk es 0 h with ⟨q1,q2⟩ | ⟨j,e,q1,q2,q3⟩
    · exact .inl ⟨by simp only [Sem.run_bind,run_underlying hu,Result.andThen_ok,q1];rfl,q2⟩
    · exact .inr ⟨j,e,q1,q2,by simp only [Sem.run_bind,run_underlying hu,Result.andThen_ok,q3];rfl⟩
  · obtain ⟨k,x,y,et,k',rfl,h1,h2,h3⟩:=Qb hk
    have hd:d=.array 2 et:=by rw [hu] at h1;exact Option.some.inj h1
    subst hd
    cases es with
    | nil=>exact .inl ⟨by simp only [Sem.run_bind,run_underlying hu,Result.andThen_ok,Instr.findNow];rfl,fun e h=>by cases h⟩
    | cons e es =>
      have hn:Instr.findNow (.array 2 et) (dz.p k x y).val (e::es) 0=none:=rfl
      simp only [Sem.run_bind,run_underlying hu,Result.andThen_ok,hn]
      exact FE h1 h2 h3 (e::es) 0 h
theorem xE{cok:Bool}{k:dz} :∀ {ks:List dz} {vs:List AV} {r:sK},r∈FB cok k ks vs→∃ (i:Nat) (q:dz) (v:AV),ks[i]? = some q∧vs[i]? = some v∧r=⟨okV cok v true,[],[k.same q]⟩
  | q::ks,v::vs,r,h=>by
    simp only [FB,List.mem_cons] at h
    rcases h with rfl | h
    · exact ⟨0,q,v,rfl,rfl,rfl⟩
    · obtain ⟨i,q',v',h1,h2,h3⟩:=xE h
      exact ⟨i+1,q',v',by simpa using h1,by simpa using h2,h3⟩
  | [],_,r,h=>by cases h
  | _::_,[],r,h=>by cases h
theorem D9:∀ {l:List dz},Ls l=true→∀ {i j:Nat} {q r:dz},l[i]? = some q→l[j]? = some r→i<j→q.same r=false
  | [],_,i,j,q,r,h1,_,_=>by simp at h1
  | x::l,hn,i,j,q,r,h1,h2,hlt=>by
    simp only [Ls,Bool.and_eq_true,List.all_eq_true,Bool.not_eq_true'] at hn
    cases j with
    | zero=>omega
    | succ j =>
      cases i with
      | zero =>
        simp at h1 h2;subst h1
        exact hn.1 r (List.mem_of_getElem? h2)
      | succ i=>exact D9 hn.2 (i:=i) (j:=j) (by simpa using h1) (by simpa using h2) (by omega)
theorem Lx{P:Program}{w:World}{t kt et:TypeId}(ht:P.underlying t=some (.map kt et)){bl cl:Nat}{es:Array MapEntry}(hh:w.heap[bl]? = some (.map es cl)){key:dz}(hck:∀ b,(Instr.checkKey b 10000 kt key.val).run P w=.ok () w) 
    {r:Option (Nat×Value)} (hfk:(Instr.findKey kt key.val es.toList).run P w=.ok r w) {z:Value} (hz:(zeroValue et).run P w=.ok z w) (cok:Bool) :
    (Instr.lookup t (.map (some bl)) key.val cok).run P w=.ok (if cok then .tuple #[(r.map Prod.snd).getD z,.bool r.isSome] else (r.map Prod.snd).getD z) w:=by
  unfold Instr.lookup
  simp only [Sem.run_bind,run_underlying ht,Result.andThen_ok]
  have hg:(getObj bl).run P w=.ok (.map es cl) w:=by simp [getObj,Sem.run,hh]
  simp only [Sem.run_bind,hg,Result.andThen_ok,Sem.run_pure,hck]
  simp only [hfk,Result.andThen_ok]
  cases r with
  | none=>simp only [Sem.run_bind,hz,Result.andThen_ok,Sem.run_pure];cases cok<;>rfl
  | some p=>obtain ⟨j,v⟩:=p;simp only [Sem.run_bind,Result.andThen_ok,Sem.run_pure];cases cok<;>rfl
theorem Ou{P:Program}{ρ:ac}{w:World}{t:TypeId}{x k:AV}{x' k':Value}{cok:Bool}{r:sK}(hx:VR ρ w x x')(hk:VR ρ w k k')(h:r∈RG P t x k cok)(ho:aB r.obs) :
    jl P ρ w (Instr.lookup t x' k' cok) r.v:=by
  unfold RG at h
  split at h
  case h_2=>cases h
  rename_i kt et ks vs key ht hkey
  split at h
  case h_2=>cases h
  rename_i d z hd hz
  cases hb:(key.fits d||Lt P kt key)&&Fz key ks&&Ls ks with
  | false=>rw [hb] at h;cases h
  | true =>
  rw [hb] at h
  simp only [cond_true,List.mem_append,List.mem_singleton] at h
  simp only [Bool.and_eq_true] at hb
  obtain ⟨⟨hf,hl⟩,hn⟩:=hb
  have hkv:=adR hk hkey
  subst hkv
  cases hx with | gmap _ _ bl es cl u ha hb' hh hin hex hv hlen hkept =>
  simp only [Option.bind_eq_some_iff] at hz
  obtain ⟨inf,hi,hz⟩:=hz
  have hzv:(zeroValue et).run P w=.ok z w:=by simp [zeroValue,typeInfo,hi,hz]
  have hes:∀ e∈es.toList,∃ q:dz,key.like q=true∧e.key=q.val:=fun e he=>by
    obtain ⟨i,q,h1,h2,_⟩:=hin e he
    exact ⟨q,nY hl q (List.mem_of_getElem? h1),h2⟩
  rcases FF hd hf es.toList hes with ⟨q1,q2⟩ | ⟨j,e,q1,q2,q3⟩
  · have run:=Lx ht hh (fun b=>Qc hd hf b 9998) q1 hzv cok
    rcases h with h | rfl
    · obtain ⟨i,q,v,h1,h2,rfl⟩:=xE h
      obtain ⟨e,he,h3,_⟩:=hex i q h1
      exact absurd (h3.trans ((wK (nY hl q (List.mem_of_getElem? h1))).1 ho.1)) (q2 e he)
    · refine .plain run ?_
      cases cok
      · exact Ul ρ w z
      · exact .tup _ #[_,_] (.cons _ _ _ _ (Ul ρ w z) (.cons _ _ _ _ (.bool _ _) .nil))
  · have run:=Lx ht hh (fun b=>Qc hd hf b 9998) q3 hzv cok
    obtain ⟨i,q,h1,h2,h3⟩:=hin e q1
    have hsame:key.same q=true:=(wK (nY hl q (List.mem_of_getElem? h1))).2 (h2.symm.trans q2)
    rcases h with h | rfl
    · obtain ⟨i',q',v,k1,k2,rfl⟩:=xE h
      have hij:i=i':=by
        have l1:=nY hl q (List.mem_of_getElem? h1)
        have l2:=nY hl q' (List.mem_of_getElem? k1)
        have e1:=(wK l1).1 hsame
        have e2:=(wK l2).1 ho.1
        have lk:∀ {a b:dz},key.like a=true→key.like b=true→a.val=b.val→a.same b=true:=by
          intro a b ha hb e
          cases key<;>cases a<;>cases b<;>simp_all [dz.like,dz.same,dz.val]
        rcases Nat.lt_trichotomy i i' with c | c | c
        · have:=D9 hn h1 k1 c
          rw [lk l1 l2 (e1.trans e2.symm)] at this;cases this
        · exact c
        · have:=D9 hn k1 h1 c
          rw [lk l2 l1 (e2.trans e1.symm)] at this;cases this
      subst hij
      refine .plain run ?_
      have hvr:VR ρ w v e.val:=by rw [h3];exact hv i v k2
      cases cok
      · exact hvr
      · exact .tup _ #[_,_] (.cons _ _ _ _ hvr (.cons _ _ _ _ (.bool _ _) .nil))
    · exfalso
      have:∀ (l:List dz),aB (l.map fun q=>!key.same q)→∀ q∈l,key.same q=false:=by
        intro l
        induction l with
        | nil=>intro _ q hq;cases hq
        | cons a l ih =>
          intro h q hq
          simp only [List.map_cons,aB,Bool.not_eq_true'] at h
          rcases List.mem_cons.1 hq with rfl | hq
          · exact h.1
          · exact ih h.2 q hq
      have:=this ks ho q (List.mem_of_getElem? h1)
      rw [hsame] at this;cases this
inductive J3 where
  | sqrt | bits | frombits | add64 | sub64 | idxb | cntb
def ag7(s:ByteArray)(c:Int) :Int:=match (List.range s.size).find? fun i=>s[i]! == c.toNat.toUInt8 with
  | some i=>(i:Int)
  | none=>-1
def ag8(s:ByteArray)(c:Int) :Int:=s.foldl (fun n x=>if x==c.toNat.toUInt8 then n+1 else n) (0:Int)
def AQ:J3→Array Value→Sem Value
  | .sqrt=>Extern.MathSqrt.sqrt
  | .bits=>Extern.MathFloatBits.float64bits
  | .frombits=>Extern.MathFloatBits.float64frombits
  | .add64=>fun args=>do
    let (x, y, c) ← Extern.MathBitsCarry.three "Add64" args
    pure (Extern.MathBitsCarry.pair ((x+y+c)%Extern.MathBitsCarry.m64) ((x+y+c)/Extern.MathBitsCarry.m64))
  | .sub64=>fun args=>do
    let (x, y, b) ← Extern.MathBitsCarry.three "Sub64" args
    pure (Extern.MathBitsCarry.pair ((x+Extern.MathBitsCarry.m64-y-b)%Extern.MathBitsCarry.m64) (if x<y+b then 1 else 0))
  | .idxb=>Extern.BytealgIndexByte.indexByte
  | .cntb=>Extern.BytealgCount.count
def afI(k:J3)(args:List AV) :List sK :=
  match k,args with
  | .sqrt,[.flt _ x]=>[⟨.flt false (adw x),[],[]⟩]
  | .bits,[.flt true x]=>[⟨.int .u64 x,[],[]⟩]
  | .bits,[.flt false x]=>[⟨.int .u64 x,[],[!isNaN x]⟩,⟨.nan,[],[isNaN x]⟩]
  | .frombits,[.int .u64 n]=>[⟨.flt true n.toNat,[],[]⟩]
  | .add64,[.int _ x,.int _ y,.int _ c]=>[⟨.tup [.int .u64 (((x.toNat+y.toNat+c.toNat)%18446744073709551616:Nat):Int),.int .u64 (((x.toNat+y.toNat+c.toNat)/18446744073709551616:Nat):Int)],[],[mt c.toNat 1]⟩]
  | .sub64,[.int _ x,.int _ y,.int _ c]=>[⟨.tup [.int .u64 (((x.toNat+18446744073709551616-y.toNat-c.toNat)%18446744073709551616:Nat):Int),.int .u64 (bif Nat.blt x.toNat (y.toNat+c.toNat) then 1 else 0)],[],[mt c.toNat 1]⟩]
  | .idxb,[.str s,.int .u8 c]=>[⟨.int .i64 (ag7 s c),[],[]⟩]
  | .cntb,[.str s,.int .u8 c]=>[⟨.int .i64 (ag8 s c),[],[]⟩]
  | _,_=>[]
abbrev eF:=Option (List Nat)
structure adS where
  mask:List Bool
  keep:Bool
abbrev eX:=FuncId→List aD→List AV→eF→Option (ir×List Bool×eF)
structure uv where
  P:Program
  ext:FuncId→Option J3
  mode:FuncId→adS
  wrap:Bool
structure uv.Ok (C:uv):Prop where
  mixed:C.P.follows .mixedOrders=true
  enter:∀ (f:FuncId) (fn:Func) (args:Array Value) (w:World),C.P.funcs[f]? = some fn→fn.body.isSome=true→(callFunc f args).run C.P w=.ok (.enter f args) w
  ext:∀ (f:FuncId) (k:J3) (args:Array Value) (w:World),C.ext f=some k→(callFunc f args).run C.P w=(do pure (Next.value (←AQ k args)):Sem Next).run C.P w
def Ly(P:Program)(run:eX) :Prop :=
  ∀ f lent args p r obs p',run f lent args p=some (r,obs,p')→aB obs→∀ (ρ:ac) (w:World) (us:List Value),iI ρ w lent→cV ρ w args us →
    (∃ fn,P.funcs[f]? = some fn∧fn.body.isSome=true)∧Calls P f us.toArray w fun e w'=>∃ u,e=.returned u∧iq ρ.live w w'∧r.Holds ρ w w' lent.length u
structure OpR where
  v:AV
  sets:List (Nat×Option aD)
  reads:List Nat
  obs:List Bool
  path:eF
def RH:List Bool→Bool
  | []=>true
  | b::l=>b&&RH l
theorem Hk:∀ {l:List Bool},RH l=true→aB l
  | [],_=>trivial
  | b::l,h=>by simp only [RH,Bool.and_eq_true] at h;exact ⟨h.1,Hk h.2⟩
def xF(alts:List sK)(p:eF) :Option (sK×eF) :=
  match alts,p with
  | [a],p=>some (a,p)
  | alts,none=>(alts.find? fun a=>RH a.obs).map fun a=>(a,none)
  | alts,some (k::r)=>(alts[k]?).map fun a=>(a,some r)
  | _,_=>none
theorem uC{alts:List sK}{p p':eF}{a:sK}(h:xF alts p=some (a,p')) :a∈alts:=by
  unfold xF at h
  split at h
  · simp only [Option.some.injEq,Prod.mk.injEq] at h;rw [←h.1];simp
  · simp only [Option.map_eq_some_iff,Prod.mk.injEq] at h;obtain ⟨b,h1,rfl,_⟩:=h;exact List.mem_of_find?_eq_some h1
  · simp only [Option.map_eq_some_iff,Prod.mk.injEq] at h;obtain ⟨b,h1,rfl,_⟩:=h;exact List.mem_of_getElem? h1
  · cases h
def iE:Nat:=100000
mutual
def RI:AV→List Nat
  | .ptr b ..=>[b]
  | .sl b ..=>[b]
  | .fn _ l1 l2=>iO l1++iO l2
  | .agg l | .tup l=>iO l
  | .iface _ v=>RI v
  | _=>[]
def iO:List AV→List Nat
  | []=>[]
  | v::l=>RI v++iO l
end
def afJ:aD→List Nat
  | .vs l=>iO l
  | _=>[]
def sc:List Nat→Nat→Bool
  | [],_=>false
  | k::l,b=>bif Nat.beq k b then true else sc l b
def mI(g:Nat→Option aD) :Nat→List Nat→List Nat→List Nat
  | 0,_,acc=>acc
  | _+1,[],acc=>acc
  | n+1,b::t,acc=>match sc acc b with
    | true=>mI g n t acc
    | false=>mI g n ((match g b with | some d=>afJ d | none=>[])++t) (acc++[b])
def ov:List Bool→List AV→List AV
  | true::m,v::l=>v::ov m l
  | false::m,_::l=>ov m l
  | _,_=>[]
def ki(σ:Nat→Option Nat)(g:Nat→Option aD) :List Bool→List AV→List AV×List Nat
  | _,[]=>([],[])
  | true::m,v::l=>let s:=ki σ g m l;(KQ σ v::s.1,s.2)
  | false::m,v::l=>let r:=Hh σ g iE v;let s:=ki σ g m l;(r.1::s.1,r.2++s.2)
  | [],v::l=>let r:=Hh σ g iE v;let s:=ki σ g [] l;(r.1::s.1,r.2++s.2)
theorem uD{ρ τ:ac}{w:World}{h:bN}{m:Nat}{σ:Nat→Option Nat}(hh:HR ρ w h m)(L:Uh ρ τ w h σ) :∀ (k:List Bool) {l:List AV} {c:List Value},cV ρ w l c→cV τ w (ki σ (be h) k l).1 c
  | k,[],c,hv=>by cases hv;cases k<;>exact .nil
  | true::k,v::l,c,hv=>by cases hv with | cons _ u _ c' h1 h2=>exact .cons _ _ _ _ (jD L h1) (uD hh L k h2)
  | false::k,v::l,c,hv=>by cases hv with | cons _ u _ c' h1 h2=>exact .cons _ _ _ _ (RC hh L _ h1) (uD hh L k h2)
  | [],v::l,c,hv=>by cases hv with | cons _ u _ c' h1 h2=>exact .cons _ _ _ _ (RC hh L _ h1) (uD hh L [] h2)
def vF:List Nat→Bool
  | []=>true
  | k::l=>bif sc l k then false else vF l
def ow(g:Nat→Option aD)(nid:Nat) :List Nat→Bool
  | []=>true
  | b::l=>(match g b with | some _=>Nat.blt b nid||Nat.ble (nid+rt) b | none=>false)&&ow g nid l
theorem Ea:∀ {l:List Nat} {i b:Nat},l[i]? = some b→sc l b=true
  | [],i,b,h=>by simp at h
  | k::l,0,b,h=>by simp at h;subst h;simp [sc,nv]
  | k::l,i+1,b,h=>by
    simp only [sc]
    cases Nat.beq k b with
    | true=>rfl
    | false=>simp only [cond_false];exact Ea (i:=i) (by simpa using h)
theorem tu:∀ {l:List Nat},vF l=true→∀ {i j b:Nat},l[i]? = some b→l[j]? = some b→i=j
  | [],_,i,j,b,h1,_=>by simp at h1
  | k::l,hn,i,j,b,h1,h2=>by
    simp only [vF] at hn
    cases e:sc l k with
    | true=>rw [e] at hn;cases hn
    | false =>
      rw [e] at hn;simp only [cond_false] at hn
      cases i with
      | zero =>
        cases j with
        | zero=>rfl
        | succ j=>simp at h1 h2;subst h1;rw [Ea h2] at e;cases e
      | succ i =>
        cases j with
        | zero=>simp at h1 h2;subst h2;rw [Ea h1] at e;cases e
        | succ j=>have:=tu hn (i:=i) (j:=j) (b:=b) (by simpa using h1) (by simpa using h2);omega
theorem vG{g:Nat→Option aD}{nid:Nat} :∀ {l:List Nat},ow g nid l=true→∀ b,b∈l→(∃ d,g b=some d)∧(b<nid∨nid+rt≤b)
  | [],_,b,hb=>by cases hb
  | k::l,h,b,hb=>by
    simp only [ow,Bool.and_eq_true] at h
    rcases List.mem_cons.1 hb with rfl | q
    · have:=h.1
      cases e:g b with
      | none=>rw [e] at this;cases this
      | some d =>
        rw [e] at this
        simp only [Bool.or_eq_true] at this
        refine ⟨⟨d,rfl⟩,this.imp (fun q=>by simpa [Nat.blt_eq] using q) (fun q=>Nat.le_of_ble_eq_true q)⟩
    · exact vG h.2 b q
def AR(e:Operand→AV)(f:Operand)(args:Array Operand) :Option (FuncId×List AV) :=
  match e f with
  | .fn (.func fid) first caps=>some (fid,first++args.toList.map e++caps)
  | _=>none
def Lz(C:uv)(run:eX)(g:Nat→Option aD)(nid:Nat)(p:eF)(fid:FuncId)(vals:List AV) :Option OpR :=
  let bs:=mI g iE (iO (ov (C.mode fid).mask vals)) []
  let la:=ki (jB bs 0) g (C.mode fid).mask vals
  bif vF bs&&ow g nid bs then
    match run fid (sb (jB bs 0) g bs) la.1 p with
    | some (r,obs,p') =>
      bif Nat.ble r.own.length (bs.length+rt) then
        some { v:=mH (fE bs nid) r.v,sets:=kh (fE bs nid) 0 r.own,reads:=bs++la.2,obs,path:=p' }
      else none
    | none=>none
  else none
def Yd(C:uv)(run:eX)(e:Operand→AV)(g:Nat→Option aD)(nid:Nat)(p:eF)(op:Op) :Option OpR :=
  match tp C.wrap C.P e op with
  | some (v,obs)=>some { v,sets:=[],reads:=[],obs,path:=p }
  | none =>
    match op with
    | .load t x=>(Dn C.P g t (e x)).map fun r=>{ v:=r.1,sets:=[],reads:=r.2.2,obs:=r.2.1,path:=p }
    | .convert t d x=>(acn C.P g t d (e x)).map fun r=>{ v:=.str r.1,sets:=[],reads:=r.2.2,obs:=r.2.1,path:=p }
    | .slice t x lo hi none=>(Hj C.P g t (e x) (lo.map e) (hi.map e)).map fun r=>{ v:=r.1,sets:=[],reads:=r.2.2,obs:=r.2.1,path:=p }
    | .store t x v=>(D2 C.P g t (e x) (e v)).map fun r=>{ v:=.any,sets:=[(r.1,some r.2.1)],reads:=[r.1],obs:=r.2.2,path:=p }
    | .lookup t x k cok=>(xF (RG C.P t (e x) (e k) cok) p).map fun r=>{ v:=r.1.v,sets:=[],reads:=[],obs:=r.1.obs,path:=r.2 }
    | .alloc t=>(Rr C.P nid t).map fun r=>{ v:=r.1,sets:=[(nid,some r.2)],reads:=[],obs:=[],path:=p }
    | .box t x=>(afE C.P nid t (e x)).map fun r=>{ v:=r.1,sets:=[(nid,some r.2)],reads:=[],obs:=[],path:=p }
    | .makeSlice t l c=>(adH C.P nid t (e l) (e c)).map fun r=>{ v:=r.1,sets:=[(nid,some r.2.1)],reads:=[],obs:=r.2.2,path:=p }
    | .build t parts=>(X5 C.P t (parts.toList.map fun x=>(x.1,e x.2))).map fun v=>{ v,sets:=[],reads:=[],obs:=[],path:=p }
    | .buildSlice t len parts=>(AL C.P nid t len (parts.toList.map fun x=>(x.1,e x.2))).map fun r=>{ v:=r.1,sets:=[(nid,some r.2)],reads:=[],obs:=[],path:=p }
    | .call { callee:=.builtin .append,args,argTypes } =>
      match args.toList,argTypes.toList with
      | [s,x],[t,t']=>bif Nat.beq t t' then
          match Cd C.P g nid t (e s) (e x) with
          | some (alts,rs)=>(xF alts p).map fun r=>{ v:=r.1.v,sets:=r.1.sets,reads:=rs,obs:=r.1.obs,path:=r.2 }
          | none=>none
        else match Ce C.P g nid t t' (e s) (e x) with
          | some (alts,rs)=>(xF alts p).map fun r=>{ v:=r.1.v,sets:=r.1.sets,reads:=rs,obs:=r.1.obs,path:=r.2 }
          | none=>none
      | _,_=>none
    | .call { callee:=.builtin .copy,args,argTypes } =>
      match args.toList,argTypes.toList with
      | [s,x],[t,_]=>(Qa C.P g t (e s) (e x)).map fun r=>{ v:=.int .i64 (r.1:Int),sets:=[(r.2.1,some r.2.2.1)],reads:=r.2.2.2.2,obs:=r.2.2.2.1,path:=p }
      | _,_=>none
    | .call { callee:=.value f,args,.. } =>
      match AR e f args with
      | some (fid,l) =>
        match C.ext fid with
        | some k=>(xF (afI k l) p).map fun r=>{ v:=r.1.v,sets:=[],reads:=[],obs:=r.1.obs,path:=r.2 }
        | none=>Lz C run g nid p fid l
      | none=>none
    | _=>none
def vH(p:eF)(r:Option (AV×List Bool)) :Option OpR:=match r with | some (v,obs)=>some { v,sets:=[],reads:=[],obs,path:=p } | none=>none
def ag9(P:Program)(g:Nat→Option aD)(p:eF)(t:TypeId)(v:AV) :Option OpR:=(Dn P g t v).map fun r=>{ v:=r.1,sets:=[],reads:=r.2.2,obs:=r.2.1,path:=p }
def afK(P:Program)(g:Nat→Option aD)(p:eF)(t:TypeId)(x v:AV) :Option OpR:=(D2 P g t x v).map fun r=>{ v:=.any,sets:=[(r.1,some r.2.1)],reads:=[r.1],obs:=r.2.2,path:=p }
def afL(P:Program)(nid:Nat)(p:eF)(t:TypeId) :Option OpR:=(Rr P nid t).map fun r=>{ v:=r.1,sets:=[(nid,some r.2)],reads:=[],obs:=[],path:=p }
def ahQ(P:Program)(nid:Nat)(p:eF)(t:TypeId)(x:AV) :Option OpR:=(afE P nid t x).map fun r=>{ v:=r.1,sets:=[(nid,some r.2)],reads:=[],obs:=[],path:=p }
def ahR(C:uv)(run:eX)(e:Operand→AV)(g:Nat→Option aD)(nid:Nat)(p:eF)(f:Operand)(args:Array Operand) :Option OpR :=
  match AR e f args with
  | some (fid,l) =>
    match C.ext fid with
    | some k=>(xF (afI k l) p).map fun r=>{ v:=r.1.v,sets:=[],reads:=[],obs:=r.1.obs,path:=r.2 }
    | none=>Lz C run g nid p fid l
  | none=>none
def aha(C:uv)(run:eX)(e:Operand→AV)(g:Nat→Option aD)(nid:Nat)(p:eF)(c:Call) :Option OpR :=
  match c.callee with
  | .value f=>ahR C run e g nid p f c.args
  | _=>Yd C run e g nid p (.call c)
def opF(C:uv)(run:eX)(e:Operand→AV)(g:Nat→Option aD)(nid:Nat)(p:eF)(op:Op) :Option OpR :=
  match op with
  | .move x=>some { v:=e x,sets:=[],reads:=[],obs:=[],path:=p }
  | .assign x=>some { v:=e x,sets:=[],reads:=[],obs:=[],path:=p }
  | .binOp op t x y _=>vH p (adz C.wrap C.P op t (e x) (e y))
  | .unOp op _ x=>vH p (unA op (e x))
  | .load t x=>ag9 C.P g p t (e x)
  | .store t x v=>afK C.P g p t (e x) (e v)
  | .fieldAddr s x f=>vH p (zC (xu C.P s (e x) f))
  | .field t x f=>vH p (zC (Rj C.P t (e x) f))
  | .indexAddr t x ix=>vH p (xv C.P t (e x) (e ix))
  | .alloc t=>afL C.P nid p t
  | .box t x=>ahQ C.P nid p t (e x)
  | .call c=>aha C run e g nid p c
  | op=>Yd C run e g nid p op
theorem adT(C:uv)(run:eX)(e:Operand→AV)(g:Nat→Option aD)(nid:Nat)(p:eF)(op:Op) :opF C run e g nid p op=Yd C run e g nid p op:=by
  cases op with
  | binOp op t x y _=>simp only [opF,Yd,tp,vH]
  | unOp op t x=>simp only [opF,Yd,tp,vH]
  | fieldAddr s x f=>simp only [opF,Yd,tp,vH]
  | field s x f=>simp only [opF,Yd,tp,vH]
  | indexAddr s x f=>simp only [opF,Yd,tp,vH]
  | call c =>
    obtain ⟨callee,args,ats⟩:=c
    cases callee<;>rfl
  | _=>rfl
theorem Um{x:Nat}(h:isNaN x=true) :FloatKind.f64.format.sqrt x=none:=by
  obtain ⟨s,t,e⟩:=tn h
  simp [Ieee.Format.sqrt,e,Ieee.Datum.root]
theorem LA{ρ:ac}{w:World}{k1 k2 k3:IntKind}{x y z:Int}{c:Array Value}(hl:cV ρ w [.int k1 x,.int k2 y,.int k3 z] c.toList) :c = #[.int k1 x,.int k2 y,.int k3 z]:=by
  have h:c.toList=[.int k1 x,.int k2 y,.int k3 z]:=by
    generalize c.toList=l at hl
    cases hl with | cons _ u1 _ _ h1 t1 =>
    cases t1 with | cons _ u2 _ _ h2 t2 =>
    cases t2 with | cons _ u3 _ _ h3 t3 =>
    cases t3;cases h1;cases h2;cases h3;rfl
  rw [←c.toArray_toList,h]
theorem Qd{P:Program}{w:World}(name:String){k1 k2 k3:IntKind}{x y z:Int}(hz:z.toNat≤1) :(Extern.MathBitsCarry.three name #[.int k1 x,.int k2 y,.int k3 z]).run P w=.ok (x.toNat,y.toNat,z.toNat) w:=by
  have e:Extern.MathBitsCarry.three name #[.int k1 x,.int k2 y,.int k3 z]=(do
      if z.toNat > 1 then unsupported (.noEntry ("extern/math/bits." ++ name ++ ": a carry that is neither 0 nor 1"))
      pure (x.toNat,y.toNat,z.toNat):Sem (Nat×Nat×Nat)):=rfl
  rw [e,if_neg (by omega)]
  rfl
theorem Ye{P:Program}{ρ:ac}{w:World}{k:J3}{l:List AV}{c:Array Value}{r:sK}(hl:cV ρ w l c.toList)(h:r∈afI k l)(ho:aB r.obs) :jl P ρ w (AQ k c) r.v:=by
  have one:∀ {a:AV},cV ρ w [a] c.toList→∃ u,c = #[u]∧VR ρ w a u:=by
    intro a h
    generalize hc:c.toList=l at h
    cases h with | cons _ u _ _ h1 h2=>cases h2;exact ⟨u,by rw [←hc],h1⟩
  unfold afI at h
  split at h
  · simp only [List.mem_singleton] at h;subst h
    obtain ⟨u,rfl,hu⟩:=one hl
    cases hu with | flt _ _ y hf =>
    rename_i ex x
    have es:AQ .sqrt #[.float .f64 y]=(match FloatKind.f64.format.sqrt y with
      | some r=>pure (.float .f64 r)
      | none=>do pure (.float .f64 (←choose (.nanBits .f64 y y)))):=rfl
    rw [es]
    have e:FloatKind.f64.format.sqrt y=FloatKind.f64.format.sqrt x:=by
      rcases hf with rfl | ⟨_,h2,h3⟩
      · rfl
      · rw [Um h2,Um h3]
    cases hr:FloatKind.f64.format.sqrt y with
    | some r=>exact ⟨.float .f64 r,w.drawn,rfl,.flt _ _ _ (.inl (by rw [e] at hr;simp [adw,hr]))⟩
    | none=>exact ⟨_,w.drawn+1,rfl,.flt _ _ _ (.inr ⟨rfl,by rw [e] at hr;simp [adw,hr,xq],aaQ y y _⟩)⟩
  · simp only [List.mem_singleton] at h;subst h
    obtain ⟨u,rfl,hu⟩:=one hl
    cases hu with | flt _ _ y hf =>
    rcases hf with rfl | ⟨h1,_⟩
    · exact ⟨_,w.drawn,rfl,.int _ _⟩
    · cases h1
  · simp only [List.mem_cons,List.not_mem_nil,or_false] at h
    obtain ⟨u,rfl,hu⟩:=one hl
    cases hu with | flt _ _ y hf =>
    rcases h with rfl | rfl
    · rcases hf with rfl | ⟨_,h2,_⟩
      · exact ⟨_,w.drawn,rfl,.int _ _⟩
      · have:=ho.1;rw [h2] at this;cases this
    · have hy:isNaN y=true:=by
        rcases hf with rfl | ⟨_,_,h3⟩
        · exact ho.1
        · exact h3
      exact ⟨_,w.drawn,rfl,.nan _ hy⟩
  · simp only [List.mem_singleton] at h;subst h
    obtain ⟨u,rfl,hu⟩:=one hl
    cases hu
    exact ⟨_,w.drawn,rfl,.flt _ _ _ (.inl rfl)⟩
  · simp only [List.mem_singleton] at h;subst h
    have hz:=ho.1
    replace hz:=of_decide_eq_true hz
    cases LA hl
    refine ⟨_,w.drawn,?_,.tup _ #[_,_] (.cons _ _ _ _ (.int _ _) (.cons _ _ _ _ (.int _ _) .nil))⟩
    simp only [AQ, Sem.run_bind, Qd "Add64" hz, Result.andThen_ok]
    rfl
  · simp only [List.mem_singleton] at h;subst h
    have hz:=ho.1
    replace hz:=of_decide_eq_true hz
    cases LA hl
    refine ⟨_,w.drawn,?_,.tup _ #[_,_] (.cons _ _ _ _ (.int _ _) (.cons _ _ _ _ (.int _ _) .nil))⟩
    simp only [AQ, Sem.run_bind, Qd "Sub64" hz, Result.andThen_ok]
    rename_i x _ y _ z
    have e:(bif Nat.blt x.toNat (y.toNat+z.toNat) then (1:Int) else 0)=Int.ofNat (if x.toNat<y.toNat+z.toNat then 1 else 0):=by
      by_cases q:x.toNat<y.toNat+z.toNat
      · rw [if_pos q,show Nat.blt x.toNat (y.toNat+z.toNat)=true by rw [Nat.blt_eq];exact q];rfl
      · rw [if_neg q]
        have:Nat.blt x.toNat (y.toNat+z.toNat)=false:=by
          cases h:Nat.blt x.toNat (y.toNat+z.toNat) with
          | false=>rfl
          | true=>rw [Nat.blt_eq] at h;exact absurd h q
        rw [this];rfl
    rw [e]
    rfl
  · simp only [List.mem_singleton] at h;subst h
    rename_i s b
    obtain ⟨u,rfl⟩:∃ u,c=u:=⟨c,rfl⟩
    have hc:c = #[.string s,.int .u8 b]:=by
      have h:c.toList=[.string s,.int .u8 b]:=by
        generalize c.toList=l at hl
        cases hl with | cons _ u1 _ _ h1 t1 =>
        cases t1 with | cons _ u2 _ _ h2 t2 =>
        cases t2;cases h1;cases h2;rfl
      rw [←c.toArray_toList,h]
    subst hc
    refine ⟨.int .i64 (ag7 s b),w.drawn,?_,.int _ _⟩
    have e:AQ .idxb #[.string s,.int .u8 b]=(match (List.range s.size).find? fun i=>s[i]! == b.toNat.toUInt8 with
      | some i=>pure (goInt i)
      | none=>pure (goInt (-1))):=rfl
    rw [e]
    unfold ag7
    cases (List.range s.size).find? fun i=>s[i]! == b.toNat.toUInt8<;>rfl
  · simp only [List.mem_singleton] at h;subst h
    rename_i s b
    have hc:c = #[.string s,.int .u8 b]:=by
      have h:c.toList=[.string s,.int .u8 b]:=by
        generalize c.toList=l at hl
        cases hl with | cons _ u1 _ _ h1 t1 =>
        cases t1 with | cons _ u2 _ _ h2 t2 =>
        cases t2;cases h1;cases h2;rfl
      rw [←c.toArray_toList,h]
    subst hc
    refine ⟨.int .i64 (ag8 s b),w.drawn,?_,.int _ _⟩
    have e:AQ .cntb #[.string s,.int .u8 b]=(do
      let b' ← Extern.Bytes.bytesOf (.string s)
      let c ← Extern.Bytes.asByte (.int .u8 b)
      pure (goInt (b'.foldl (fun n x=>if x==c then n+1 else n) (0:Nat)))):=rfl
    rw [e]
    simp [Extern.Bytes.bytesOf,Extern.Bytes.asByte,Sem.run_bind,Sem.run_pure,goInt,ag8]
  · simp at h
theorem acq{C:uv}(hC:C.Ok){run:eX}(hrun:Ly C.P run){e:Operand→AV}{h:bN}{nid:Nat}{p:eF}{o:Oper}{r:OpR}(hr:Yd C run e (be h) nid p o.op=some r)(ho:aB r.obs) 
    {ρ:ac} {w:World} {n:Nat} (hh:HR ρ w h n) (hid:∀ x,nid≤x→x<nid+rt→¬ ρ.ok x) (hn0:nid+rt≤n) {a:Act} (hops:∀ x,VR ρ w (e x) (a.eval x)) {next:Act→World→Prop} {Q:Exit→Act→World→Prop}
    (hK:∀ ρ' w' u,kI ρ ρ' w→iq ρ.live w w'→HR ρ' w' (cS r.sets h) n→VR ρ' w' r.v u→(∀ b,ρ'.ok b→ρ.ok b∨(nid≤b∧b<nid+rt))→next (a.put o.dst u) w'):o.wp C.P a w next Q:=by
  have hS:0<rt:=by decide
  have hb : ¬ ρ.ok nid:=hid nid (Nat.le_refl _) (by omega)
  have hn:nid<n:=by omega
  have one:∀ {b:Nat},b=nid→nid≤b∧b<nid+rt:=fun e=>by omega
  have plain:∀ {v:AV},(∃ u k,(execOp a.eval o).run C.P w=.ok (.value u) { w with drawn:=k }∧VR ρ w v u)→r.v=v→r.sets=[]→o.wp C.P a w next Q:=by
    intro v ⟨u,k,h1,h2⟩ hv hs
    unfold Oper.wp
    rw [h1]
    have E:=kI.refl ρ w
    have W:=iq.drawn ρ.live w k
    exact hK ρ _ u E W (by rw [hs];exact hh.drawn k) (by rw [hv];exact h2.mono E W) (fun b q=>.inl q)
  have made:∀ {s:Sem Value} {v:AV} {h':bN},(execOp a.eval o).run C.P w=(do pure (Next.value (←s)):Sem Next).run C.P w→zD C.P ρ w h n nid s v h'→r.v=v→cS r.sets h=h'→o.wp C.P a w next Q:=by
    intro s v h' he ⟨u,w',ρ',h1,h2,h3,h4,h5,h6⟩ hv hs
    unfold Oper.wp
    rw [he,cX h1]
    exact hK ρ' w' u h2 h3 (by rw [hs];exact h4) (by rw [hv];exact h5) (fun b q=>(h6 b q).imp id one)
  unfold Yd at hr
  split at hr
  · rename_i v obs hp
    simp only [Option.some.injEq] at hr;subst hr
    exact plain (Rn hops hp ho) rfl rfl
  · rename_i hpo
    clear hpo
    generalize hop:o.op=op at hr
    split at hr
    · rename_i t x
      simp only [Option.map_eq_some_iff] at hr
      obtain ⟨⟨v,obs,rs⟩,hl,rfl⟩:=hr
      obtain ⟨u,k,h1,h2⟩:=T4 (P:=C.P) hh (hops x) hl ho
      exact plain ⟨u,k,by simp only [execOp,hop];exact cX h1,h2⟩ rfl rfl
    · rename_i t d x
      simp only [Option.map_eq_some_iff] at hr
      obtain ⟨⟨z,obs,rs⟩,hc,rfl⟩:=hr
      exact plain ⟨.string z,w.drawn,by simp only [execOp,hop];exact cX (Yc hh (hops x) hc ho),.str _⟩ rfl rfl
    · rename_i t x lo hi
      simp only [Option.map_eq_some_iff] at hr
      obtain ⟨⟨v,obs,rs⟩,hc,rfl⟩:=hr
      obtain ⟨u,k,q1,q2⟩:=RE (P:=C.P) hh hops (hops x) hc ho
      exact plain ⟨u,k,by simp only [execOp,hop];exact cX q1,q2⟩ rfl rfl
    · rename_i t x v
      simp only [Option.map_eq_some_iff] at hr
      obtain ⟨⟨b,d,obs⟩,hl,rfl⟩:=hr
      obtain ⟨w',h1,h2,h3⟩:=Ro (P:=C.P) hh (hops x) (hops v) hl ho
      unfold Oper.wp
      have:(execOp a.eval o).run C.P w=.ok .skip w':=by
        simp only [execOp,hop];rw [Sem.run_bind,h1];rfl
      rw [this]
      exact hK ρ w' undef (kI.refl _ _) h3 h2 (.any _) (fun b q=>.inl q)
    · rename_i t x k cok
      simp only [Option.map_eq_some_iff] at hr
      obtain ⟨⟨a,_⟩,hl,rfl⟩:=hr
      obtain ⟨u,kk,q1,q2⟩:=Ou (P:=C.P) (hops x) (hops k) (uC hl) ho
      exact plain ⟨u,kk,by simp only [execOp,hop];exact cX q1,q2⟩ rfl rfl
    · rename_i t
      simp only [Option.map_eq_some_iff] at hr
      obtain ⟨⟨v,d⟩,hl,rfl⟩:=hr
      exact made (by simp only [execOp,hop]) (Rs hh hb hn hl true) rfl rfl
    · rename_i t x
      simp only [Option.map_eq_some_iff] at hr
      obtain ⟨⟨v,d⟩,hl,rfl⟩:=hr
      exact made (by simp only [execOp,hop]) (X3 hh hb hn (hops x) hl) rfl rfl
    · rename_i t l c
      simp only [Option.map_eq_some_iff] at hr
      obtain ⟨⟨v,d,obs⟩,hl,rfl⟩:=hr
      exact made (by simp only [execOp,hop]) (T6 hh hb hn (hops l) (hops c) hl ho) rfl rfl
    · rename_i t parts
      simp only [Option.map_eq_some_iff] at hr
      obtain ⟨v,hl,rfl⟩:=hr
      have h1:(parts.toList.map fun x=>(x.1,e x.2)).map Prod.fst=(parts.map fun (x:Nat×Operand)=>(x.1,a.eval x.2)).toList.map Prod.fst:=by simp
      have h2:cV ρ w ((parts.toList.map fun x=>(x.1,e x.2)).map Prod.snd) ((parts.map fun (x:Nat×Operand)=>(x.1,a.eval x.2)).toList.map Prod.snd):=by
        have:=cV.map hops (parts.toList.map Prod.snd)
        simpa [Function.comp_def] using this
      obtain ⟨u,k,q1,q2⟩:=Rx (P:=C.P) h1 h2 hl
      exact plain ⟨u,k,by simp only [execOp,hop];exact cX q1,q2⟩ rfl rfl
    · rename_i t len parts
      simp only [Option.map_eq_some_iff] at hr
      obtain ⟨⟨v,d⟩,hl,rfl⟩:=hr
      have h1:(parts.toList.map fun x=>(x.1,e x.2)).map Prod.fst=(parts.map fun (x:Nat×Operand)=>(x.1,a.eval x.2)).toList.map Prod.fst:=by simp
      have h2:cV ρ w ((parts.toList.map fun x=>(x.1,e x.2)).map Prod.snd) ((parts.map fun (x:Nat×Operand)=>(x.1,a.eval x.2)).toList.map Prod.snd):=by
        have:=cV.map hops (parts.toList.map Prod.snd)
        simpa [Function.comp_def] using this
      exact made (by simp only [execOp,hop]) (Fu hh hb hn h1 h2 hl) rfl rfl
    · rename_i args argTypes
      split at hr
      case h_2=>cases hr
      rename_i s x t t' e1 e2
      cases ht:Nat.beq t t' with
      | false =>
        rw [ht] at hr
        simp only [cond_false] at hr
        split at hr
        case h_2=>cases hr
        rename_i alts rs ha
        simp only [Option.map_eq_some_iff] at hr
        obtain ⟨⟨alt,p'⟩,hp,rfl⟩:=hr
        have ea:args = #[s,x]:=by rw [←e1]
        have et:argTypes = #[t,t']:=by rw [←e2]
        subst ea;subst et
        have hm:=Oq hh hb hn (hops s) (hops x) ha (uC hp) ho o.type
        refine made (s:=Builtin.append_ #[t,t'] o.type #[a.eval s,a.eval x]) ?_ hm rfl rfl
        simp only [execOp,hop]
        rw [iG a.eval .append #[s,x] #[t,t'] o.type _ rfl]
        simp [invoke,builtin]
      | true =>
      rw [ht] at hr
      have:=Nat.eq_of_beq_eq_true ht
      subst this
      simp only [cond_true] at hr
      split at hr
      case h_2=>cases hr
      rename_i alts rs ha
      simp only [Option.map_eq_some_iff] at hr
      obtain ⟨⟨alt,p'⟩,hp,rfl⟩:=hr
      have ea:args = #[s,x]:=by rw [←e1]
      have et:argTypes = #[t,t]:=by rw [←e2]
      subst ea;subst et
      have hm:=Oo hh hb hn (hops s) (hops x) ha (uC hp) ho o.type
      refine made (s:=Builtin.append_ #[t,t] o.type #[a.eval s,a.eval x]) ?_ hm rfl rfl
      simp only [execOp,hop]
      rw [iG a.eval .append #[s,x] #[t,t] o.type _ rfl]
      simp [invoke,builtin]
    · rename_i args argTypes
      split at hr
      case h_2=>cases hr
      rename_i s x t t' e1 e2
      simp only [Option.map_eq_some_iff] at hr
      obtain ⟨⟨k,b,d,obs,rs⟩,hc,rfl⟩:=hr
      have ea:args = #[s,x]:=by rw [←e1]
      have et:argTypes = #[t,t']:=by rw [←e2]
      subst ea;subst et
      obtain ⟨w',h1,h2,h3⟩:=Uk (P:=C.P) (T:=o.type) (t':=t') hh (hops s) (hops x) hc ho
      refine made (s:=Builtin.copy_ #[t,t'] o.type #[a.eval s,a.eval x]) ?_ ⟨_,w',ρ,h1,kI.refl _ _,h3,h2,.int _ _,fun b q=>.inl q⟩ rfl rfl
      simp only [execOp,hop]
      rw [iG a.eval .copy #[s,x] #[t,t'] o.type _ rfl]
      simp [invoke,builtin]
    · rename_i f args ats
      split at hr
      case h_2=>cases hr
      rename_i fid l hca
      unfold AR at hca
      split at hca
      case h_2=>cases hca
      rename_i fid' first caps hef
      simp only [Option.some.injEq,Prod.mk.injEq] at hca
      obtain ⟨rfl,rfl⟩:=hca
      have hf:=hops f
      rw [hef] at hf
      generalize hgf:a.eval f=gf at hf
      cases hf with | fn _ _ _ c1 c2 v1 v2 =>
      have hargs:cV ρ w (first++args.toList.map e++caps) (c1++args.map a.eval++c2).toList:=by
        simp only [Array.toList_append,Array.toList_map]
        exact cV.append v2 (cV.append (cV.map hops args.toList) v1)
      have hex:∀ w0,(execOp a.eval o).run C.P w0=(callFunc fid' (c1++args.map a.eval++c2)).run C.P w0:=by
        intro w0
        simp only [execOp,hop,resolve,hgf,Deferred.ofValue]
        rfl
      split at hr
      · rename_i k hk
        simp only [Option.map_eq_some_iff] at hr
        obtain ⟨⟨a,_⟩,hl,rfl⟩:=hr
        obtain ⟨u,kk,q1,q2⟩:=Ye (P:=C.P) hargs (uC hl) ho
        refine plain ⟨u,kk,?_,q2⟩ rfl rfl
        rw [hex,hC.ext fid' k _ w hk]
        exact cX q1
      · unfold Lz at hr
        simp only at hr
        generalize hbs:mI (be h) iE (iO (ov (C.mode fid').mask (first++args.toList.map e++caps))) []=bs at hr
        cases hlen:(vF bs&&ow (be h) nid bs) with
        | false=>rw [hlen] at hr;cases hr
        | true =>
        rw [hlen] at hr
        simp only [cond_true] at hr
        rw [Bool.and_eq_true] at hlen
        split at hr
        case h_2=>cases hr
        rename_i r' obs p' hl
        cases hle:Nat.ble r'.own.length (bs.length+rt) with
        | false=>rw [hle] at hr;cases hr
        | true =>
        rw [hle] at hr
        simp only [cond_true,Option.some.injEq] at hr;subst hr
        have hLs:Ui h bs:=⟨fun q1 q2=>tu hlen.1 q1 q2,fun b q=>(vG hlen.2 b q).1⟩
        have L:=aa2 hh hLs
        have hcall:=hrun fid' _ _ p r' obs p' hl ho
        obtain ⟨⟨fn,hfn,hbody⟩,hcalls⟩:=hcall (ρ.lend bs) w _ (Yb hh hLs) (uD hh L _ hargs)
        unfold Oper.wp
        rw [hex,hC.enter fid' fn _ w hfn hbody]
        simp only [Oper.upon]
        have hl2:(c1++args.map a.eval++c2).toList.toArray=c1++args.map a.eval++c2:=by simp
        rw [hl2] at hcalls
        refine hcalls.mono ?_
        rintro e' w' ⟨u,rfl,W,ρ',E,hbk,H,hv⟩
        rw [qR] at hbk
        obtain ⟨q1,q2,q3,q4,q5⟩:=adN hh hLs hid (fun b q=>(vG hlen.2 b q).2) hn0 (Nat.le_of_ble_eq_true hle) W E hbk H hv
        exact hK _ w' u q1 q2 q3 q4 q5
    · cases hr
def FW(ro:Option Nat) :Fence:={ Fence.wide with round:=ro }
theorem ahS(ro:Option Nat)(f:FuncId) :(FW ro).fn f:=trivial
theorem KR{ro:Option Nat}{n:Nat} :(FW ro).depth.isSome=true→1≤n:=fun h=>by simp [FW,Fence.wide] at h
theorem Yf{ro:Option Nat}{n:Nat}{P:Program}{f:FuncId}{args:Array Value}{w:World}{R:Ending→World→Prop}(h:Calls P f args w R) :CallsIn (FW ro) n P f args w R :=
  callsIn_wide.2 h
theorem RJ{P:Program}{o:Oper}{a:Act}{w:World}{next:Act→World→Prop}{Q:Exit→Act→World→Prop}{ro:Option Nat}{n:Nat}(hd:∀ c,o.op ≠ .defer c)(h:o.wp P a w next Q) :o.wpIn (FW ro) n P a w next Q:=by
  refine ⟨fun _ _=>trivial,?_⟩
  have e:(FW ro).round=ro:=rfl
  rw [e,Oper.semAt_eq ro a.eval o hd]
  unfold Oper.wp at h
  generalize (execOp a.eval o).run P w=r at h ⊢
  cases r with
  | ok x w' =>
    cases x with
    | value v=>exact h
    | skip=>exact h
    | defer d=>exact h
    | enter f args=>exact ⟨KR,Yf h⟩
    | row row args =>
      refine ⟨KR,fun c cs _=>?_⟩
      obtain ⟨v,w2,h1,h2⟩:=h c cs
      exact ⟨v,w2,h1,stepsIn_wide.2 h2⟩
    | _=>exact h.elim
  | halt x w'=>cases x<;>exact h
structure tw (w w':World):Prop where
  os:w'.os=w.os
  tape:w'.tape=w.tape
  output:w'.output=w.output
  size:w'.heap.size=w.heap.size
  same:∀ b:Nat,w'.heap[b]? = w.heap[b]?∨((∃ o,w.heap[b]? = some o∧((∃ r,o=Obj.loop r)∨∃ r,o=Obj.deferred r))∧∃ o,w'.heap[b]? = some o∧((∃ r,o=Obj.loop r)∨∃ r,o=Obj.deferred r))
theorem tw.cells{w w':World}(h:tw w w'){b:Nat}{c:Array Value}{t:TypeId}{z:Nat×Nat}(hb:w.heap[b]? = some (.cells c t z)) :w'.heap[b]? = some (.cells c t z):=by
  rcases h.same b with q | ⟨⟨o,h1,h2⟩,_⟩
  · rw [q];exact hb
  · rw [hb] at h1;cases h1
    rcases h2 with ⟨r,h2⟩ | ⟨r,h2⟩<;>cases h2
theorem tw.map{w w':World}(h:tw w w'){b:Nat}{es:Array MapEntry}{cl:Nat}(hb:w.heap[b]? = some (.map es cl)) :w'.heap[b]? = some (.map es cl):=by
  rcases h.same b with q | ⟨⟨o,h1,h2⟩,_⟩
  · rw [q];exact hb
  · rw [hb] at h1;cases h1
    rcases h2 with ⟨r,h2⟩ | ⟨r,h2⟩<;>cases h2
theorem tw.cell{w w':World}(h:tw w w'){a:Addr}{u:Value}(hu:w.cell? a=some u) :w'.cell? a=some u:=by
  have key:w'.heap[a.block]? = w.heap[a.block]?:=by
    rcases h.same a.block with q | ⟨⟨o,h1,h2⟩,_⟩
    · exact q
    · exfalso
      unfold World.cell? at hu
      rw [h1] at hu
      rcases h2 with ⟨r,rfl⟩ | ⟨r,rfl⟩<;>simp at hu
  rw [vA key];exact hu
theorem tw.put{w:World}{b:Nat}{o o':Obj}(h:w.heap[b]? = some o)(ho:(∃ r,o=Obj.loop r)∨∃ r,o=Obj.deferred r)(ho':(∃ r,o'=Obj.loop r)∨∃ r,o'=Obj.deferred r) :tw w (w.putObj b o'):=by
  refine ⟨rfl,rfl,rfl,by simp,fun c=>?_⟩
  by_cases e:c=b
  · subst e
    exact .inr ⟨⟨o,h,ho⟩,o',World.putObj_heap_same (Array.getElem?_eq_some_iff.1 h).1,ho'⟩
  · exact .inl (World.putObj_heap_other e)
theorem tw.wle{M:Nat→Prop}{w w':World}(h:tw w w')(hM:∀ b,b<w.heap.size→¬ M b→w'.heap[b]? = w.heap[b]?) :iq M w w' :=
  ⟨h.os,h.tape,h.output,Nat.le_of_eq h.size.symm,hM,fun b c t z hc=>⟨c,h.cells hc,rfl⟩⟩
theorem VR.soft{ρ:ac}{w w':World}(W:tw w w'){v:AV}{u:Value}(h:VR ρ w v u) :VR ρ w' v u:=by
  induction h using VR.rec (motive_2:=fun l c _=>cV ρ w' l c) with
  | int k n=>exact .int k n
  | bool kn b=>exact .bool kn b
  | flt ex x y h=>exact .flt ex x y h
  | str s=>exact .str s
  | nptr=>exact .nptr
  | ptr b k i j hb=>exact .ptr b k i j hb
  | iptr bw d k i j bl o u ha hb hc hv hr hk hg ih=>exact .iptr bw d k i j bl o u ha (by rw [W.size];exact hb) (fun x v hx=>W.cell (hc x v hx)) ih hr hk hg
  | nsl=>exact .nsl
  | esl a=>exact .esl a
  | zsl a c=>exact .zsl a c
  | nan n h=>exact .nan n h
  | sl b k es i len cap cap' hb hcap hl c t hh hs=>exact .sl b k es i len cap cap' hb hcap hl c t (W.cells hh) hs
  | slEnd b k es i a=>exact .slEnd b k es i a
  | imm bw d k es i len cap bl o u ha hb hc hv hl hr hk hg ih=>exact .imm bw d k es i len cap bl o u ha (by rw [W.size];exact hb) (fun x v hx=>W.cell (hc x v hx)) ih hl hr hk hg
  | immEnd bw d k es i cap a hr hk hg=>exact .immEnd bw d k es i cap a hr hk hg
  | fn f l1 l2 c1 c2 h1 h2 i1 i2=>exact .fn f l1 l2 c1 c2 i1 i2
  | nfn=>exact .nfn
  | gmap ks vs bl es cl u ha hb hh hin hex hv hl hk ih=>exact .gmap ks vs bl es cl u ha (by rw [W.size];exact hb) (W.map hh) hin hex ih hl hk
  | gvar c bl t fr ha hb hh=>exact .gvar c bl t fr ha (by rw [W.size];exact hb) (W.cells hh)
  | agg l c h ih=>exact .agg l c ih
  | tup l c h ih=>exact .tup l c ih
  | iface t v u h ih=>exact .iface t v u ih
  | niface=>exact .niface
  | yld b L h=>exact .yld b L h
  | any u=>exact .any u
  | nil=>exact cV.nil
  | cons v u l c h t i1 i2=>exact cV.cons v u l c i1 i2
theorem cV.soft{ρ:ac}{w w':World}(W:tw w w') :∀ {l:List AV} {c:List Value},cV ρ w l c→cV ρ w' l c
  | _,_,.nil=>.nil
  | _,_,.cons v u l c h t=>.cons v u l c (h.soft W) (cV.soft W t)
theorem HR.soft{ρ:ac}{w w':World}{h:bN}{n:Nat}(W:tw w w')(hh:HR ρ w h n) :HR ρ w' h n :=
  ⟨fun b d e=>(hh.cell b d e).imp (fun ⟨q1,q2,q3,c,t,q4,q5⟩=>⟨q1,q2,q3,c,t,W.cells q4,fun x v hx=>by obtain ⟨u,k1,k2⟩:=q5 x v hx;exact ⟨u,k1,k2.soft W⟩⟩) id,hh.inj,hh.fresh,
   fun bl hl=>by rw [W.size];exact hh.liveLt bl hl,fun j bl hl=>by rw [W.size];exact hh.outLt j bl hl,hh.lt,fun x hx=>(hh.rom x hx).soft W⟩
mutual
def AV.noYld:AV→Bool
  | .yld _=>false
  | .fn _ l1 l2=>ox l1&&ox l2
  | .agg l | .tup l=>ox l
  | .iface _ v=>v.noYld
  | _=>true
def ox:List AV→Bool
  | []=>true
  | v::l=>v.noYld&&ox l
end
mutual
theorem dY:∀ (v:AV),v.foreign=true→v.noYld=true
  | .fn _ l1 l2,h=>by simp only [AV.foreign,AV.noYld,Bool.and_eq_true] at h ⊢;exact ⟨ld l1 h.1,ld l2 h.2⟩
  | .agg l,h=>by simp only [AV.foreign,AV.noYld] at h ⊢;exact ld l h
  | .tup l,h=>by simp only [AV.foreign,AV.noYld] at h ⊢;exact ld l h
  | .iface _ v,h=>by simp only [AV.foreign,AV.noYld] at h ⊢;exact dY v h
  | .yld _,h=>by simp [AV.foreign] at h
  | .int ..,_ | .bool ..,_ | .flt ..,_ | .str _,_ | .nptr,_ | .ptr ..,_ | .iptr ..,_ | .nsl,_ | .esl,_ | .zsl _,_ | .nan,_ | .sl ..,_ | .imm ..,_ | .nfn,_ | .gmap ..,_ | .gvar _,_ | .niface,_ | .any,_=>rfl
theorem ld:∀ (l:List AV),bR l=true→ox l=true
  | [],_=>rfl
  | v::l,h=>by simp only [bR,ox,Bool.and_eq_true] at h ⊢;exact ⟨dY v h.1,ld l h.2⟩
end
theorem LB:∀ {l:List AV},ox l=true→∀ (x:Nat) (v:AV),l[x]? = some v→v.noYld=true
  | [],_,x,v,h=>by simp at h
  | a::l,ha,0,v,h=>by simp at h;subst h;simp only [ox,Bool.and_eq_true] at ha;exact ha.1
  | a::l,ha,x+1,v,h=>by simp only [ox,Bool.and_eq_true] at ha;exact LB ha.2 x v (by simpa using h)
def ac.pinned(ρ:ac)(x:Nat×Option (Nat×Nat)) :ac:={ ρ with pin:=x }
theorem VR.pinned{ρ:ac}{w:World}(x:Nat×Option (Nat×Nat)){v:AV}{u:Value}(h:VR ρ w v u) :v.noYld=true→VR (ρ.pinned x) w v u:=by
  induction h using VR.rec (motive_2:=fun l c _=>ox l=true→cV (ρ.pinned x) w l c) with
  | int k n=>exact fun _=>.int k n
  | bool kn b=>exact fun _=>.bool kn b
  | flt ex x y h=>exact fun _=>.flt ex x y h
  | str s=>exact fun _=>.str s
  | nptr=>exact fun _=>.nptr
  | ptr b k i j hb=>exact fun _=>VR.ptr (ρ:=ρ.pinned x) b k i j hb
  | iptr bw d k i j bl o u ha hb hc hv hr hk hg ih=>exact fun _=>.iptr bw d k i j bl o u ha hb hc (fun x v hx=>ih x v hx (dY v (aU hr hg x v hx))) hr hk hg
  | nsl=>exact fun _=>.nsl
  | esl a=>exact fun _=>.esl a
  | zsl a c=>exact fun _=>.zsl a c
  | nan n h=>exact fun _=>.nan n h
  | sl b k es i len cap cap' hb hcap hl c t hh hs=>exact fun _=>VR.sl (ρ:=ρ.pinned x) b k es i len cap cap' hb hcap hl c t hh hs
  | slEnd b k es i a=>exact fun _=>.slEnd b k es i a
  | imm bw d k es i len cap bl o u ha hb hc hv hl hr hk hg ih=>exact fun _=>.imm bw d k es i len cap bl o u ha hb hc (fun x v hx=>ih x v hx (dY v (aU hr hg x v hx))) hl hr hk hg
  | immEnd bw d k es i cap a hr hk hg=>exact fun _=>.immEnd bw d k es i cap a hr hk hg
  | fn f l1 l2 c1 c2 h1 h2 i1 i2=>intro hk;simp only [AV.noYld,Bool.and_eq_true] at hk;exact .fn f l1 l2 c1 c2 (i1 hk.1) (i2 hk.2)
  | nfn=>exact fun _=>.nfn
  | gmap ks vs bl es cl u ha hb hh hin hex hv hl hk ih=>exact fun _=>.gmap ks vs bl es cl u ha hb hh hin hex (fun x v hx=>ih x v hx (dY v (gS (nX hk x v hx)))) hl hk
  | gvar c bl t fr ha hb hh=>exact fun _=>.gvar c bl t fr ha hb hh
  | agg l c h ih=>intro hk;exact .agg l c (ih hk)
  | tup l c h ih=>intro hk;exact .tup l c (ih hk)
  | iface t v u h ih=>intro hk;exact .iface t v u (ih hk)
  | niface=>exact fun _=>.niface
  | yld b L h=>intro hk;simp [AV.noYld] at hk
  | any u=>exact fun _=>.any u
  | nil=>exact cV.nil
  | cons v u l c h t i1 i2=>rename_i hk;simp only [ox,Bool.and_eq_true] at hk;exact cV.cons v u l c (i1 hk.1) (i2 hk.2)
theorem cV.pinned{ρ:ac}{w:World}(x:Nat×Option (Nat×Nat)) :∀ {l:List AV} {c:List Value},cV ρ w l c→ox l=true→cV (ρ.pinned x) w l c
  | _,_,.nil,_=>.nil
  | _,_,.cons v u l c h t,hk=>by simp only [ox,Bool.and_eq_true] at hk;exact .cons v u l c (h.pinned x hk.1) (cV.pinned x t hk.2)
def Yg:aD→Bool
  | .vs l=>ox l
  | _=>true
def sd:bN→Bool
  | []=>true
  | x::l=>Yg x.2&&sd l
theorem LC:∀ {h:bN} {b:Nat} {d:aD},sd h=true→be h b=some d→Yg d=true
  | [],b,d,_,h=>by simp [fb,dA] at h
  | (a1,a2)::l,b,d,hc,h=>by
    simp only [sd,Bool.and_eq_true] at hc
    simp only [fb,dA] at h
    cases e:Nat.beq a1 b with
    | true=>rw [e] at h;simp only [cond_true,Option.some.injEq] at h;rw [←h];exact hc.1
    | false=>rw [e] at h;exact LC hc.2 h
theorem Ov{d:aD}(hr:d.recKept)(hk:Yg d=true)(x:Nat)(v:AV)(hx:d.cell? x=some v) :v.noYld=true:=by
  cases d with
  | vs l=>exact LB hk x v hx
  | fl xs=>exact dY v (aU (d:=.fl xs) hr rfl x v hx)
  | ns k xs=>exact dY v (aU (d:=.ns k xs) hr rfl x v hx)
  | bs xs=>exact dY v (aU (d:=.bs xs) hr rfl x v hx)
  | ss xs=>exact dY v (aU (d:=.ss xs) hr rfl x v hx)
  | rows k m get=>exact dY v (aU (d:=.rows k m get) hr rfl x v hx)
  | cols m cs=>exact dY v (aU (d:=.cols m cs) hr rfl x v hx)
theorem HR.pinned{ρ:ac}{w:World}{h:bN}{n:Nat}(x:Nat×Option (Nat×Nat))(hh:HR ρ w h n)(hc:sd h=true) :HR (ρ.pinned x) w h n :=
  ⟨fun b d e=>(hh.cell b d e).imp (fun ⟨q1,q2,q3,c,t,q4,q5⟩=>⟨q1,q2,q3,c,t,q4,fun y v hx=>by
      obtain ⟨u,k1,k2⟩:=q5 y v hx
      exact ⟨u,k1,k2.pinned x (Ov q3 (LC hc e) y v hx)⟩⟩) id,hh.inj,hh.fresh,hh.liveLt,hh.outLt,hh.lt,
   fun y hy=>(hh.rom y hy).pinned x (dY _ (gS (Rom.kept y hy)))⟩
theorem VR.noPin{ρ:ac}{w:World}(hp:ρ.pin.2=none)(x:Nat×Option (Nat×Nat)){v:AV}{u:Value}(h:VR ρ w v u) :VR (ρ.pinned x) w v u:=by
  induction h using VR.rec (motive_2:=fun l c _=>cV (ρ.pinned x) w l c) with
  | int k n=>exact .int k n
  | bool kn b=>exact .bool kn b
  | flt ex x y h=>exact .flt ex x y h
  | str s=>exact .str s
  | nptr=>exact .nptr
  | ptr b k i j hb=>exact VR.ptr (ρ:=ρ.pinned x) b k i j hb
  | iptr bw d k i j bl o u ha hb hc hv hr hk hg ih=>exact .iptr bw d k i j bl o u ha hb hc ih hr hk hg
  | nsl=>exact .nsl
  | esl a=>exact .esl a
  | zsl a c=>exact .zsl a c
  | nan n h=>exact .nan n h
  | sl b k es i len cap cap' hb hcap hl c t hh hs=>exact VR.sl (ρ:=ρ.pinned x) b k es i len cap cap' hb hcap hl c t hh hs
  | slEnd b k es i a=>exact .slEnd b k es i a
  | imm bw d k es i len cap bl o u ha hb hc hv hl hr hk hg ih=>exact .imm bw d k es i len cap bl o u ha hb hc ih hl hr hk hg
  | immEnd bw d k es i cap a hr hk hg=>exact .immEnd bw d k es i cap a hr hk hg
  | fn f l1 l2 c1 c2 h1 h2 i1 i2=>exact .fn f l1 l2 c1 c2 i1 i2
  | nfn=>exact .nfn
  | gmap ks vs bl es cl u ha hb hh hin hex hv hl hk ih=>exact .gmap ks vs bl es cl u ha hb hh hin hex ih hl hk
  | gvar c bl t fr ha hb hh=>exact .gvar c bl t fr ha hb hh
  | agg l c h ih=>exact .agg l c ih
  | tup l c h ih=>exact .tup l c ih
  | iface t v u h ih=>exact .iface t v u ih
  | niface=>exact .niface
  | yld b L h=>rw [hp] at h;cases h
  | any u=>exact .any u
  | nil=>exact cV.nil
  | cons v u l c h t i1 i2=>exact cV.cons v u l c i1 i2
theorem cV.noPin{ρ:ac}{w:World}(hp:ρ.pin.2=none)(x:Nat×Option (Nat×Nat)) :∀ {l:List AV} {c:List Value},cV ρ w l c→cV (ρ.pinned x) w l c
  | _,_,.nil=>.nil
  | _,_,.cons v u l c h t=>.cons v u l c (h.noPin hp x) (cV.noPin hp x t)
theorem HR.noPin{ρ:ac}{w:World}{h:bN}{n:Nat}(hp:ρ.pin.2=none)(x:Nat×Option (Nat×Nat))(hh:HR ρ w h n) :HR (ρ.pinned x) w h n :=
  ⟨fun b d e=>(hh.cell b d e).imp (fun ⟨q1,q2,q3,c,t,q4,q5⟩=>⟨q1,q2,q3,c,t,q4,fun y v hx=>by obtain ⟨u,k1,k2⟩:=q5 y v hx;exact ⟨u,k1,k2.noPin hp x⟩⟩) id,hh.inj,hh.fresh,hh.liveLt,hh.outLt,hh.lt,
   fun y hy=>(hh.rom y hy).noPin hp x⟩
theorem ke.shut{ρ:ac}{w:World} :∀ {ds:List Deferred},ke ρ w ds→∀ {D:Nat},(∀ e∈ds,e ≠ { target:=.collected D,args:=#[] })→∀ {o:Obj},ke ρ (w.putObj D o) ds
  | [],h,D,_,o=>by simpa [ke] using h
  | d::ds,⟨⟨E,h1,hb,h2,h3,h4,h5⟩,h⟩,D,hn,o=>by
    have hne:E≠D:=fun e=>hn d (by simp) (by rw [h1,e])
    exact ⟨⟨E,h1,hb,by simpa using h2,h3,(World.putObj_heap_other hne).trans h4,h5⟩,ke.shut h fun e he=>hn e (by simp [he])⟩
theorem AS{P:Program}{fn:Func}{tmps:Array Value}{R:Ending→World→Prop}{ro:Option Nat}{n:Nat}{ρ:ac} :∀ (ds:List Deferred) {w:World},ke ρ w ds →
    (∀ w',tw w w'→(∀ b,b<ρ.pin.1→w'.heap[b]? = w.heap[b]?)→(∀ b,ρ.live b→w'.heap[b]? = w.heap[b]?)→∃ v,(results fn tmps).run P w'=.ok v w'∧R (.returned v) w')→LeavesInM (FW ro) n P fn tmps R ds .returning w
  | [],w,hm,h=>by
    obtain ⟨v,h1,h2⟩:=h w ⟨rfl,rfl,rfl,rfl,fun _=>.inl rfl⟩ (fun _ _=>rfl) (fun _ _=>rfl)
    exact ⟨v,h1,h2⟩
  | d::ds,w,⟨⟨D,h1,hb,h2,h3,h4,h5⟩,hm⟩,h=>by
    have S:=tw.put h4 (.inr ⟨_,rfl⟩) (o':=.deferred none) (.inr ⟨_,rfl⟩)
    refine ⟨by simp,.inl ⟨D,w.putObj D (.deferred none),by rw [h1],run_takeDeferred h4,AS ds (hm.shut h5) fun w' S' hb' hl'=>h w' ?_ (fun b q=>?_) (fun b q=>?_)⟩⟩
    · refine ⟨S'.os,S'.tape,S'.output,S'.size.trans S.size,fun b=>?_⟩
      rcases S'.same b with q | ⟨⟨o,q1,q2⟩,q3⟩
      · rcases S.same b with r | ⟨r1,r2⟩
        · exact .inl (q.trans r)
        · rw [←q] at r2;exact .inr ⟨r1,r2⟩
      · rcases S.same b with r | ⟨r1,r2⟩
        · rw [r] at q1;exact .inr ⟨⟨o,q1,q2⟩,q3⟩
        · exact .inr ⟨r1,q3⟩
    · rw [hb' b q];exact World.putObj_heap_other (by omega)
    · rw [hl' b q];exact World.putObj_heap_other (fun e=>h3 (e ▸ q))
structure qS where
  v:AV
  sets:List (Nat×Option aD)
  reads:List Nat
def Cf(ops:Array Oper)(j:Nat) :Option Nat:=(ops[j]?).bind (·.dst)
def xG(ops:Array Oper)(o:Oper)(T:List AV) :Option Bool :=
  match o.guard with
  | none=>some true
  | some (j,want) =>
    match Cf ops j with
    | none=>some false
    | some d =>
      match afD T d with
      | some (.bool true b)=>some (b==want)
      | some (.tup _) | none=>some false
      | _=>none
def RK(ops:Array Oper)(i:Nat) :Bool:=ops.toList.any fun o=>match o.guard with | some (j,_)=>Nat.beq j i | none=>false
def KS(v:AV)(p:eF) :Option (Bool×List Bool×eF) :=
  match v,p with
  | .bool true b,p=>some (b,[],p)
  | .bool false b,none=>some (b,[],none)
  | .bool false b,some (k::r)=>some (Nat.beq k 1,[b==Nat.beq k 1],some r)
  | _,_=>none
theorem Eb{ρ:ac}{w:World}{v:AV}{u:Value}{p p':eF}{b:Bool}{obs:List Bool}(hv:VR ρ w v u)(h:KS v p=some (b,obs,p'))(ho:aB obs) :u=.bool b:=by
  unfold KS at h
  split at h
  · simp only [Option.some.injEq,Prod.mk.injEq] at h;obtain ⟨rfl,rfl,rfl⟩:=h;cases hv;rfl
  · simp only [Option.some.injEq,Prod.mk.injEq] at h;obtain ⟨rfl,rfl,rfl⟩:=h;cases hv;rfl
  · simp only [Option.some.injEq,Prod.mk.injEq] at h;obtain ⟨rfl,rfl,rfl⟩:=h;cases hv
    have:=ho.1
    simp only [beq_iff_eq] at this
    rw [this]
  · cases h
def ru(ops:Array Oper)(i:Nat)(v:AV)(p:eF) :Option (AV×List Bool×eF) :=
  bif RK ops i then (KS v p).map fun r=>(.bool true r.1,r.2.1,r.2.2) else some (v,[],p)
def FG(C:uv)(run:eX)(ops:Array Oper)(n0 i:Nat)(o:Oper)(T:List AV)(h:bN)(p:eF) :Option (qS×List Bool×eF) :=
  match xG ops o T with
  | none=>none
  | some false=>some ({ v:=.tup [],sets:=[],reads:=[] },[],p)
  | some true =>
    match opF C run (XN T) (be h) (n0+i*rt) p o.op with
    | none=>none
    | some r =>
      match ru ops i r.v r.path with
      | none=>none
      | some (v,obs,p')=>some ({ v,sets:=r.sets,reads:=r.reads },r.obs++obs,p')
def Ec(T:List AV)(d:Option Nat)(v:AV) :List AV :=
  match d with
  | some d=>acd T d v
  | none=>T
theorem RL{ρ:ac}{w:World}{T:List AV}{a:Act}{v:AV}{u:Value}(h:cV ρ w T a.tmps.toList)(hv:VR ρ w v u)(d:Option Nat) :cV ρ w (Ec T d v) (a.put d u).tmps.toList:=by
  cases d with
  | none=>exact h
  | some d=>simp only [Ec,B8,Act.put,Array.toList_setIfInBounds];exact h.set hv d
theorem xH{ρ:ac}{w:World}{ops:Array Oper}{o:Oper}{T:List AV}{a:Act}(h:cV ρ w T a.tmps.toList){b:Bool}(hw:xG ops o T=some b) :Region.wanted o (yielded ops a.tmps)=b:=by
  unfold xG at hw
  simp only [Rd] at hw
  unfold Region.wanted
  split at hw
  · rename_i hg;cases hw;simp [hg]
  · rename_i j want hg
    simp only [hg]
    unfold Cf at hw
    split at hw
    · rename_i hs;cases hw;simp [yielded,hs]
    · rename_i d hs
      split at hw
      · rename_i b' hT
        cases hw
        obtain ⟨u,h1,h2⟩:=h.get d _ hT
        rw [Array.getElem?_toList] at h1
        cases h2
        simp only [yielded,hs,Option.bind_some,h1]
        cases b'<;>cases want<;>rfl
      · rename_i l hT
        cases hw
        obtain ⟨u,h1,h2⟩:=h.get d _ hT
        rw [Array.getElem?_toList] at h1
        cases h2
        simp [yielded,hs,h1]
      · rename_i hT
        cases hw
        have : a.tmps[d]? = none := by
          have hl:=h.length
          rw [Array.getElem?_eq_none]
          have : T.length ≤ d := by rcases Nat.lt_or_ge d T.length with q | q; · rw [List.getElem?_eq_getElem q] at hT; cases hT
                                    · exact q
          simp at hl;omega
        simp [yielded,hs,this]
      · cases hw
theorem HR.congr{ρ:ac}{w:World}{h h':bN}{n:Nat}(hh:HR ρ w h n)(e:∀ b,be h' b=be h b) :HR ρ w h' n :=
  ⟨fun b d q=>hh.cell b d (by rw [←e];exact q),fun b c d f q r=>hh.inj b c d f (by rw [←e];exact q) (by rw [←e];exact r),hh.fresh,hh.liveLt,hh.outLt,hh.lt,hh.rom⟩
theorem acr{C:uv}{run:eX}{e:Operand→AV}{g:Nat→Option aD}{nid:Nat}{p:eF}{c:Call} :Yd C run e g nid p (.defer c)=none:=rfl
theorem Jd{C:uv}(hC:C.Ok){run:eX}(hrun:Ly C.P run){ops:Array Oper}{n0 i:Nat}{o:Oper}(hi:ops[i]? = some o){T:List AV}{h:bN}{p p':eF}{r:qS}{obs:List Bool} 
    (hr:FG C run ops n0 i o T h p=some (r,obs,p')) (ho:aB obs) {ρ:ac} {w:World} {n:Nat} (hh:HR ρ w h n) (hid:∀ x,n0+i*rt≤x→x<n0+i*rt+rt→¬ ρ.ok x) (hn:n0+i*rt+rt≤n) {a:Act} (hT:cV ρ w T a.tmps.toList)
    {ro:Option Nat} {nn:Nat} {K:Act→World→Prop} {Q:Exit→Act→World→Prop}
    (hK:∀ ρ' w' a',kI ρ ρ' w→iq ρ.live w w'→HR ρ' w' (cS r.sets h) n→a'.defers=a.defers→cV ρ' w' (Ec T o.dst r.v) a'.tmps.toList→(∀ b,ρ'.ok b→ρ.ok b∨(n0+i*rt≤b∧b<n0+i*rt+rt))→K a' w'):wpOpIn (FW ro) nn C.P ops Q i K a w:=by
  have dput:∀ u,(a.put o.dst u).defers=a.defers:=by intro u;cases hdst:o.dst<;>simp [Act.put]
  unfold FG at hr
  simp only [adT] at hr
  unfold wpOpIn
  simp only [hi]
  split at hr
  · cases hr
  · rename_i hw
    simp only [Option.some.injEq,Prod.mk.injEq] at hr;obtain ⟨rfl,rfl,rfl⟩:=hr
    rw [xH hT hw]
    simp only [Bool.false_eq_true,if_false]
    exact ⟨fun _ _=>trivial,hK ρ w _ (kI.refl _ _) (iq.refl _ _) hh (dput _) (RL hT (.tup _ _ .nil) o.dst) (fun b q=>.inl q)⟩
  · rename_i hw
    rw [xH hT hw]
    simp only [if_true]
    split at hr
    · cases hr
    · rename_i r' hop
      split at hr
      · cases hr
      · rename_i v obs' p'' hg
        simp only [Option.some.injEq,Prod.mk.injEq] at hr;obtain ⟨rfl,rfl,rfl⟩:=hr
        rw [bh] at ho
        refine RJ (fun c e=>by rw [e,acr] at hop;cases hop) (acq hC hrun hop ho.1 hh hid hn (fun x=>AH hh.rom hT x) ?_)
        intro ρ' w' u E W hh' hv hok
        refine hK ρ' w' _ E W hh' (dput _) (RL (hT.mono E W) ?_ o.dst) hok
        unfold ru at hg
        cases hgd:RK ops i with
        | false=>rw [hgd] at hg;simp only [cond_false,Option.some.injEq,Prod.mk.injEq] at hg;rw [←hg.1];exact hv
        | true =>
          rw [hgd] at hg
          simp only [cond_true,Option.map_eq_some_iff,Prod.mk.injEq] at hg
          obtain ⟨⟨b,ob,pp⟩,hd',rfl,rfl,rfl⟩:=hg
          rw [Eb hv hd' ho.2]
          exact .bool _ _
structure YI where
  b:Nat
  saved:List AV
  ps:Array Tmp
  assign:Code
  body:Code
def ac.wm(ρ:ac)(y:Option YI)(b:Nat) :Prop:=ρ.live b∨(y.isSome=true∧∃ k,ρ.pin.2=some (b,k))
theorem afM{ρ:ac}{b:Nat} :ρ.wm none b↔ρ.live b:=by simp [ac.wm]
theorem aa5{ρ ρ':ac}{w:World}{y:Option YI}(E:kI ρ ρ' w){b:Nat}(hb:b<w.heap.size)(h:ρ'.wm y b) :ρ.wm y b :=
  h.imp (E.new b hb) fun ⟨q,k,r⟩=>⟨q,k,by rw [←E.pin];exact r⟩
structure KT (y:Option YI) (ρ:ac) (w:World) (ρ':ac) (w':World):Prop where
  ext:kI ρ ρ' w
  wle:iq (ρ.wm y) w w'
  vr:∀ v u,VR ρ w v u→VR ρ' w' v u
  marks:∀ ds,ke ρ w ds→ke ρ' w' ds
theorem KT.of{y:Option YI}{ρ ρ':ac}{w w':World}(E:kI ρ ρ' w)(W:iq ρ.live w w') :KT y ρ w ρ' w' :=
  ⟨E,W.mono fun _ _ q=>.inl q,fun v u h=>h.mono E W,fun ds h=>h.mono E W⟩
theorem KT.refl(y:Option YI)(ρ:ac)(w:World) :KT y ρ w ρ w:=.of (kI.refl _ _) (iq.refl _ _)
theorem KT.trans{y:Option YI}{ρ ρ1 ρ2:ac}{w w1 w2:World}(h:KT y ρ w ρ1 w1)(k:KT y ρ1 w1 ρ2 w2) :KT y ρ w ρ2 w2 :=
  ⟨h.ext.trans k.ext h.wle.size,h.wle.trans k.wle (fun _ hx q=>aa5 h.ext hx q),fun v u q=>k.vr v u (h.vr v u q),fun ds q=>k.marks ds (h.marks ds q)⟩
theorem KT.live{ρ ρ':ac}{w w':World}(h:KT none ρ w ρ' w') :iq ρ.live w w':=h.wle.mono fun _ _ q=>afM.1 q
theorem cV.stp{ρ ρ':ac}{w w':World}(h:∀ v u,VR ρ w v u→VR ρ' w' v u) :∀ {l:List AV} {c:List Value},cV ρ w l c→cV ρ' w' l c
  | _,_,.nil=>.nil
  | _,_,.cons v u l c a t=>.cons v u l c (h v u a) (cV.stp h t)
theorem ke.soft{ρ:ac}{w:World}{L:Nat}{r:Loop}(hL:w.heap[L]? = some (.loop r)){o:Obj} :∀ {ds:List Deferred},ke ρ w ds→ke ρ (w.putObj L o) ds
  | [],h=>by simpa [ke] using h
  | d::ds,⟨⟨D,h1,hb,h2,h3,h4,h5⟩,h⟩=>⟨⟨D,h1,hb,by simpa using h2,h3,(World.putObj_heap_other (fun e=>by rw [e,hL] at h4;cases h4)).trans h4,h5⟩,ke.soft hL h⟩
def Un(ρ:ac)(w:World)(L:Nat)(y:YI)(s:LoopState)(pe:Option Code) :Prop :=
  ∃ rec:Loop,w.heap[L]? = some (.loop rec)∧rec.state=s∧rec.pending=pe∧rec.params=y.ps∧rec.assign=y.assign∧rec.body=y.body∧cV ρ w y.saved rec.tmps.toList
def jc:Option aD→Option (LoopState×Option Code)
  | some (.vs [])=>some (.ready,none)
  | some (.fl [])=>some (.done,some .ret)
  | some (.rows id 0 _)=>some (.done,some (.exit id))
  | _=>none
def mJ(y:Option YI)(ρ:ac)(w:World)(h:bN)(m:Nat) :Prop :=
  match y with
  | none=>True
  | some y=>¬ ρ.ok y.b∧y.b<m∧∃ L,ρ.pin.2=some (L,y.b)∧¬ ρ.live L∧∃ s pe,jc (be h y.b)=some (s,pe)∧Un ρ w L y s pe
theorem Un.mono{ρ ρ':ac}{w w':World}{L:Nat}{y:YI}{s:LoopState}{pe:Option Code}(h:Un ρ w L y s pe)(E:kI ρ ρ' w)(W:iq ρ.live w w')(hL : ¬ ρ.live L) :Un ρ' w' L y s pe:=by
  obtain ⟨rec,h1,h2,h3,h4,h5,h6,h7⟩:=h
  exact ⟨rec,(W.same L (Array.getElem?_eq_some_iff.1 h1).1 hL).trans h1,h2,h3,h4,h5,h6,h7.mono E W⟩
theorem mJ.mono{y:Option YI}{ρ ρ':ac}{w w':World}{h h':bN}{m:Nat}(hp:mJ y ρ w h m)(E:kI ρ ρ' w)(W:iq ρ.live w w')(hb:∀ yi,y=some yi→ρ'.ok yi.b→ρ.ok yi.b∨m≤yi.b)(hg:∀ yi,y=some yi→be h' yi.b=be h yi.b) :mJ y ρ' w' h' m:=by
  cases y with
  | none=>trivial
  | some y =>
    obtain ⟨h1,h2,L,h3,h4,s,pe,h5,h6⟩:=hp
    have hlt:L<w.heap.size:=by obtain ⟨rec,q,_⟩:=h6;exact (Array.getElem?_eq_some_iff.1 q).1
    refine ⟨fun q=>(hb y rfl q).elim h1 (by omega),h2,L,by rw [E.pin];exact h3,fun q=>h4 (E.new L hlt q),s,pe,by rw [hg y rfl];exact h5,h6.mono E W h4⟩
theorem mJ.le{y:Option YI}{ρ:ac}{w:World}{h:bN}{m m':Nat}(hp:mJ y ρ w h m)(hm:m≤m') :mJ y ρ w h m':=by
  cases y with
  | none=>trivial
  | some y=>obtain ⟨h1,h2,h3⟩:=hp;exact ⟨h1,Nat.lt_of_lt_of_le h2 hm,h3⟩
abbrev acs:=List AV→bN→Nat→eF→Option (AV×bN×Nat×List Bool×eF)
def Yh(P:Program)(y:Option YI)(yr:acs) :Prop :=
  ∀ args h nx p v h' nx' obs p',yr args h nx p=some (v,h',nx',obs,p')→aB obs→∃ yi,y=some yi∧∀ (ρ:ac) (w:World) (us:Array Value) (m:Nat),HR ρ w h nx→ρ.pin.1≤w.heap.size→mJ y ρ w h m→m≤nx→cV ρ w args us.toList →
    ∀ (L:Nat),ρ.pin.2=some (L,yi.b)→∃ rec:Loop,w.heap[L]? = some (.loop rec)∧us.size=rec.params.size∧∀ (ro:Option Nat) (nn:Nat) (R:Ending→World→Prop),
      (∀ ρ' w' u,KT y ρ w ρ' w'→HR ρ' w' h' nx'→mJ y ρ' w' h' m→VR ρ' w' v u→(∀ b,ρ'.ok b→ρ.ok b∨nx≤b)→nx≤nx'→R (.returned u) w') →
      RoundIn (FW ro) nn P L rec.fn ((rec.params.zip us).foldl (fun tmps (t,a)=>tmps.setIfInBounds t a) rec.tmps) rec.assign rec.body w R
def aa6(ops:Array Oper)(o:Oper)(T:List AV) :Option (List AV) :=
  match o.op with
  | .call { callee:=.value f,args,.. } =>
    match XN T f with
    | .yld _=>match xG ops o T with
      | some true=>some (args.toList.map (XN T))
      | _=>none
    | _=>none
  | _=>none
def tx(y:Option YI)(s:List (Nat×Option aD)) :Bool :=
  match y with
  | none=>true
  | some y=>!(sc (s.map Prod.fst) y.b)
theorem FH{y:Option YI}{s:List (Nat×Option aD)}(h:tx y s=true)(hp:bN) :∀ yi,y=some yi→be (cS s hp) yi.b=be hp yi.b:=by
  intro yi e
  subst e
  simp only [tx,Bool.not_eq_true'] at h
  have key:∀ (s:List (Nat×Option aD)) (hp:bN),sc (s.map Prod.fst) yi.b=false→be (cS s hp) yi.b=be hp yi.b:=by
    intro s
    induction s with
    | nil=>intro hp _;rfl
    | cons x s ih =>
      intro hp h
      obtain ⟨c,d⟩:=x
      simp only [List.map_cons,sc] at h
      cases e:Nat.beq c yi.b with
      | true=>rw [e] at h;cases h
      | false =>
        rw [e] at h
        simp only [cond_false] at h
        have hne : ¬ c=yi.b:=fun q=>by rw [q,nv] at e;cases e
        cases d with
        | some d=>simp only [cS];rw [ih _ h,cR,if_neg hne]
        | none=>simp only [cS];rw [ih _ h,nU,if_neg hne]
  exact key s hp h
def Hl(C:uv)(run:eX)(y:Option YI)(yr:acs)(ops:Array Oper)(n0:Nat) :Nat→List Oper→List AV→bN→Nat→eF→Option (List AV×bN×Nat×List Bool×eF)
  | _,[],T,h,nx,p=>some (T,h,nx,[],p)
  | i,o::l,T,h,nx,p =>
    match aa6 ops o T with
    | some args =>
      match yr args h nx p with
      | none=>none
      | some (v,h1,nx1,obs1,p1) =>
        match ru ops i v p1 with
        | none=>none
        | some (v,obs2,p2) =>
          match Hl C run y yr ops n0 (i+1) l (Ec T o.dst v) h1 nx1 p2 with
          | none=>none
          | some (T',h',nx',obs',p'')=>some (T',h',nx',obs1++obs2++obs',p'')
    | none =>
      match FG C run ops n0 i o T h p with
      | none=>none
      | some (r,obs,p') =>
        bif tx y r.sets then
          match Hl C run y yr ops n0 (i+1) l (Ec T o.dst r.v) (cS r.sets h) nx p' with
          | none=>none
          | some (T',h',nx',obs',p'')=>some (T',h',nx',obs++obs',p'')
        else none
structure LD (ρ:ac) (w:World) (n:Nat) (st:aC) (ρ':ac) (a':Act) (w':World):Prop where
  ext:kI ρ ρ' w
  wle:iq ρ.live w w'
  sr:SR ρ' st a' w'
  le:n≤st.next
  back:∀ b,ρ'.ok b→ρ.ok b∨n≤b
theorem LF{ρ:ac}{w:World}{ops:Array Oper}{i:Nat}{v v':AV}{u:Value}{p p':eF}{obs:List Bool}(hv:VR ρ w v u)(hg:ru ops i v p=some (v',obs,p'))(ho:aB obs) :VR ρ w v' u:=by
  unfold ru at hg
  cases hgd:RK ops i with
  | false=>rw [hgd] at hg;simp only [cond_false,Option.some.injEq,Prod.mk.injEq] at hg;rw [←hg.1];exact hv
  | true =>
    rw [hgd] at hg
    simp only [cond_true,Option.map_eq_some_iff,Prod.mk.injEq] at hg
    obtain ⟨⟨b,ob,pp⟩,hd',rfl,rfl,rfl⟩:=hg
    rw [Eb hv hd' ho]
    exact .bool _ _
theorem xI{C:uv}(hC:C.Ok){run:eX}(hrun:Ly C.P run){y:Option YI}{yr:acs}(hyr:Yh C.P y yr){ops:Array Oper}{n0:Nat}{ro:Option Nat}{nn:Nat}{Q:Exit→Act→World→Prop} :∀ (l:List Oper) (i:Nat) {T T':List AV} {h h':bN} {nx nx':Nat} {p p':eF} {obs:List Bool},
    (∀ j,l[j]? = ops[i+j]?)→Hl C run y yr ops n0 i l T h nx p=some (T',h',nx',obs,p')→aB obs→∀ {ρ:ac} {w:World},HR ρ w h nx→n0+ops.size*rt≤nx→mJ y ρ w h n0→ρ.pin.1≤w.heap.size→(∀ b,ρ.ok b→b<n0+i*rt∨n0+ops.size*rt≤b)→∀ {a:Act},cV ρ w T a.tmps.toList →
    (∀ ρ' w' a',KT y ρ w ρ' w'→HR ρ' w' h' nx'→nx≤nx'→mJ y ρ' w' h' n0→a'.defers=a.defers→cV ρ' w' T' a'.tmps.toList→(∀ b,ρ'.ok b→ρ.ok b∨n0≤b)→Q .normal a' w')→wpOpsIn (FW ro) nn C.P ops Q (List.range' i l.length) a w
  | [],i,T,T',h,h',nx,nx',p,p',obs,hl,hr,ho,ρ,w,hh,hnx,hpin,hpn,hok,a,hT,hQ=>by
    simp only [Hl,Option.some.injEq,Prod.mk.injEq] at hr;obtain ⟨rfl,rfl,rfl,rfl,rfl⟩:=hr
    simp only [List.length_nil,List.range'_zero,wpOpsIn]
    exact hQ ρ w a (KT.refl _ _ _) hh (Nat.le_refl _) hpin rfl hT (fun b q=>.inl q)
  | o::l,i,T,T',h,h',nx,nx',p,p',obs,hl,hr,ho,ρ,w,hh,hnx,hpin,hpn,hok,a,hT,hQ=>by
    have hi:ops[i]? = some o:=by have:=hl 0;simpa using this.symm
    have hlt:i<ops.size:=(Array.getElem?_eq_some_iff.1 hi).1
    simp only [List.length_cons,List.range'_succ]
    rw [wpOpsIn_cons]
    have hS:i*rt+rt≤ops.size*rt:=by rw [←Nat.succ_mul];exact Nat.mul_le_mul_right _ hlt
    have hi1:(i+1)*rt=i*rt+rt:=Nat.succ_mul _ _
    have hl':∀ j,l[j]? = ops[i+1+j]?:=fun j=>by have:=hl (j+1);rw [show i+1+j=i+(j+1) from by omega];simpa using this
    simp only [Hl] at hr
    split at hr
    · rename_i args hya
      split at hr
      case h_1=>cases hr
      rename_i v h1 nx1 obs1 p1 hy1
      split at hr
      case h_1=>cases hr
      rename_i v2 obs2 p2 hg
      split at hr
      case h_1=>cases hr
      rename_i T2 h2 nx2 obs3 p3 h3
      simp only [Option.some.injEq,Prod.mk.injEq] at hr;obtain ⟨rfl,rfl,rfl,rfl,rfl⟩:=hr
      rw [bh,bh] at ho
      unfold aa6 at hya
      split at hya
      case h_2=>cases hya
      rename_i f avs ats hop
      split at hya
      case h_2=>cases hya
      rename_i b hef
      split at hya
      case h_2=>cases hya
      rename_i hw
      simp only [Option.some.injEq] at hya;subst hya
      have hf:=AH hh.rom hT f
      rw [hef] at hf
      generalize hgf:a.eval f=gf at hf
      cases hf with | yld _ L hL =>
      obtain ⟨yi,rfl,hyr1⟩:=hyr _ _ _ _ _ _ _ _ _ hy1 ho.1.1
      have hb:b=yi.b:=by
        obtain ⟨_,_,L',q,_⟩:=hpin
        rw [hL] at q;cases q;rfl
      subst hb
      obtain ⟨rec,hrec,hsz,hround⟩:=hyr1 ρ w (avs.map a.eval) n0 hh hpn hpin (by omega) (by rw [Array.toList_map];exact cV.map (fun x=>AH hh.rom hT x) avs.toList) L hL
      unfold wpOpIn
      simp only [hi]
      rw [xH hT hw]
      simp only [if_true]
      refine ⟨fun _ _=>trivial,?_⟩
      have hex:(o.semAt (FW ro).round a.eval).run C.P w=.ok (.round L rec.fn ((rec.params.zip (avs.map a.eval)).foldl (fun tmps (t,a)=>tmps.setIfInBounds t a) rec.tmps) rec.assign rec.body) w:=by
        rw [Oper.semAt_eq _ _ _ (fun c e=>by rw [hop] at e;cases e)]
        have:=run_yield (P:=C.P) (args:=avs.map a.eval) hrec hsz
        simp only [execOp,hop,resolve,hgf,Deferred.ofValue]
        simpa [invoke,Sem.run_bind,Result.andThen] using this
      rw [hex]
      refine ⟨KR,hround ro _ _ fun ρ' w' u S hh' hpin' hv hok' hle=>?_⟩
      refine xI hC hrun hyr l (i+1) hl' h3 ho.2 hh' (by omega) hpin' (by rw [S.ext.pin];exact Nat.le_trans hpn S.wle.size) (fun b q=>?_) (RL (cV.stp S.vr hT) (LF hv hg ho.1.2) o.dst) ?_
      · rcases hok' b q with q | q
        · rcases hok b q with q | q
          · exact .inl (by omega)
          · exact .inr q
        · exact .inr (by omega)
      · intro ρ'' w'' a'' S' hh'' hle' hpin'' hd'' hT'' hb''
        refine hQ ρ'' w'' a'' (S.trans S') hh'' (by omega) hpin'' (hd''.trans (by cases hdst:o.dst<;>simp [Act.put])) hT'' (fun b q=>?_)
        rcases hb'' b q with q | q
        · rcases hok' b q with q | q
          · exact .inl q
          · exact .inr (by omega)
        · exact .inr q
    · split at hr
      case h_1=>cases hr
      rename_i r obs1 p1 h1
      cases hkp:tx y r.sets with
      | false=>rw [hkp] at hr;cases hr
      | true =>
      rw [hkp] at hr
      simp only [cond_true] at hr
      split at hr
      case h_1=>cases hr
      rename_i T2 h2 nx2 obs2 p2 h3
      simp only [Option.some.injEq,Prod.mk.injEq] at hr;obtain ⟨rfl,rfl,rfl,rfl,rfl⟩:=hr
      rw [bh] at ho
      refine Jd hC hrun hi h1 ho.1 hh (fun x h1 h2 q=>by have:=hok _ q;omega) (by omega) hT ?_
      intro ρ' w' a' E W hh' hd' hT' hok'
      have S:=KT.of (y:=y) E W
      refine xI hC hrun hyr l (i+1) hl' h3 ho.2 hh' hnx (hpin.mono E W (fun yi e q=>?_) (FH hkp h)) (by rw [E.pin];exact Nat.le_trans hpn W.size) (fun b q=>?_) hT' ?_
      · rcases hok' _ q with q | q
        · exact .inl q
        · exact .inr (by omega)
      · rcases hok' b q with q | q
        · rcases hok b q with q | q
          · exact .inl (by omega)
          · exact .inr q
        · exact .inl (by omega)
      intro ρ'' w'' a'' S' hh'' hle' hpin'' hd'' hT'' hb''
      exact hQ ρ'' w'' a'' (S.trans S') hh'' hle' hpin'' (hd''.trans hd') hT'' (fun b q=>by
        rcases hb'' b q with q | q
        · rcases hok' b q with q | q
          · exact .inl q
          · exact .inr (by omega)
        · exact .inr q)
theorem Cg{e e':Operand→AV}{l:List Operand}(h:∀ x∈l,e x=e' x) :l.map e=l.map e':=List.map_congr_left h
theorem RM{wr:Bool}{P:Program}{e e':Operand→AV}{op:Op}(h:∀ x∈op.operands,e x=e' x) :tp wr P e op=tp wr P e' op:=by
  unfold tp
  split
  all_goals simp only [Op.operands,Call.operands] at h
  case h_1=>rw [h _ (by simp)]
  case h_2=>rw [h _ (by simp)]
  case h_3=>rw [h _ (by simp),h _ (by simp),h _ (by simp)]
  case h_4=>rw [h _ (by simp)]
  case h_5=>rw [h _ (by simp),h _ (by simp)]
  case h_6=>rw [h _ (by simp)]
  case h_7=>rw [h _ (by simp)]
  case h_8=>rw [h _ (by simp)]
  case h_9 =>
    rename_i fn first caps
    rw [Cg (l:=first.toList) (fun x hx=>h x (by simp at hx;simp [hx])),Cg (l:=caps.toList) (fun x hx=>h x (by simp at hx;simp [hx]))]
  case h_10 =>
    rename_i t x lo hi
    rw [h x (by simp)]
    cases lo<;>cases hi<;>simp only [Option.map_none,Option.map_some]<;>first | rfl | (rw [h _ (by simp),h _ (by simp)]) | (rw [h _ (by simp)])
  case h_11 =>
    rename_i t x lo hi mx
    rw [h x (by simp),h mx (by simp)]
    cases lo<;>cases hi<;>simp only [Option.map_none,Option.map_some]<;>first | rfl | (rw [h _ (by simp),h _ (by simp)]) | (rw [h _ (by simp)])
  case h_12=>rw [h _ (by simp)]
  case h_13=>rw [h _ (by simp)]
  case h_14=>rw [h _ (by simp),h _ (by simp)]
  case h_15=>rw [h _ (by simp),h _ (by simp)]
  case h_16=>rw [h _ (by simp)]
  case h_17 =>
    rename_i xs ts
    split
    · rename_i x t hx ht
      have:xs = #[x]:=by rw [←hx]
      subst this
      rw [h x (by simp)]
    · rfl
  case h_18 =>
    rename_i xs ts
    split
    · rename_i x l hx
      have:xs=(x::l).toArray:=by rw [←hx]
      subst this
      rw [h x (by simp),Cg (l:=l) (fun y hy=>h y (by simp [hy]))]
    · rfl
  case h_19 =>
    rename_i xs ts
    split
    · rename_i x l hx
      have:xs=(x::l).toArray:=by rw [←hx]
      subst this
      rw [h x (by simp),Cg (l:=l) (fun y hy=>h y (by simp [hy]))]
    · rfl
  case h_20=>rfl
theorem Uo{P:Program}{g g':Nat→Option aD}{t:TypeId}{x:AV}{r:AV×List Bool×List Nat}(h:Dn P g t x=some r)(hg:∀ b∈r.2.2,g' b=g b) :Dn P g' t x=some r:=by
  unfold Dn at h ⊢
  simp only at h ⊢
  split at h
  · rename_i b w i j
    split at h
    · rename_i d hd
      simp only [Option.map_eq_some_iff] at h
      obtain ⟨r',h1,rfl⟩:=h
      have:g' b=some d:=by rw [hg b (by simp)];exact hd
      simp only [this,h1];rfl
    · cases h
  · exact h
  · cases h
theorem RN{P:Program}{g g':Nat→Option aD}{t:TypeId}{x v:AV}{r:Nat×aD×List Bool}(h:D2 P g t x v=some r)(hg:g' r.1=g r.1) :D2 P g' t x v=some r:=by
  unfold D2 at h ⊢
  split at h
  · rename_i b w i j l inf h1 h2
    split at h
    · rename_i d hd
      cases e:Nat.beq l.length inf.size with
      | false=>rw [e] at h;cases h
      | true =>
        rw [e] at h
        simp only [cond_true,Option.map_eq_some_iff] at h
        obtain ⟨r',h3,rfl⟩:=h
        have:g' b=some d:=by rw [hg];exact hd
        simp only [h1,this,e,cond_true,h3];rfl
    · cases h
  · cases h
theorem Ed{g g':Nat→Option aD}{x:AV}{r:Nat×Nat×aD×List Bool×List Nat}(h:Ud g x=some r)(hg:∀ b∈r.2.2.2.2,g' b=g b) :Ud g' x=some r:=by
  unfold Ud at h ⊢
  split at h
  · rename_i b w es i len cap
    split at h
    · rename_i d hd
      simp only [Option.map_eq_some_iff] at h
      obtain ⟨r',h1,rfl⟩:=h
      have:g' b=some d:=by rw [hg b (by simp)];exact hd
      simp only [this,h1];rfl
    · cases h
  · exact h
  · cases h
theorem vI{P:Program}{g g':Nat→Option aD}{nid:Nat}{e:TypeId}{inf:TypeInfo}{s:AV}{m es':Nat}{nb:aD}{obs:List Bool}{rs:List Nat}{r:List sK×List Nat}(h:xz P g nid e inf s m es' nb obs rs=some r)(hg:∀ b∈r.2,g' b=g b) :
    xz P g' nid e inf s m es' nb obs rs=some r∧∀ b∈rs,b∈r.2:=by
  unfold xz at h ⊢
  split at h
  · refine ⟨h,?_⟩
    cases hes:Nat.beq es' inf.size with
    | false=>rw [hes] at h;cases h
    | true =>
      rw [hes] at h
      simp only [cond_true,Option.some.injEq] at h;subst h
      exact fun b hb=>hb
  · refine ⟨h,?_⟩
    cases hes:Nat.beq es' inf.size with
    | false=>rw [hes] at h;cases h
    | true =>
      rw [hes] at h
      simp only [cond_true,Option.some.injEq] at h;subst h
      exact fun b hb=>hb
  · rename_i b w es len cap
    split at h
    case h_2=>cases h
    rename_i d hd
    cases hes:(Nat.beq es inf.size&&Nat.beq es' es) with
    | false=>rw [hes] at h;cases h
    | true =>
    rw [hes] at h
    simp only [cond_true] at h
    split at h
    case h_2=>cases h
    rename_i old obs' hsub
    simp only [Option.map_eq_some_iff] at h
    obtain ⟨d',happ,rfl⟩:=h
    have h2:g' b=some d:=by rw [hg b (by simp)];exact hd
    refine ⟨?_,fun b hb=>by simp [hb]⟩
    simp only [h2,cond_true,hsub,happ,hes];rfl
  · cases h
theorem Ow{P:Program}{g g':Nat→Option aD}{nid:Nat}{t t':TypeId}{s x:AV}{r:List sK×List Nat}(h:Ce P g nid t t' s x=some r)(hg:∀ b∈r.2,g' b=g b) :Ce P g' nid t t' s x=some r:=by
  unfold Ce at h ⊢
  split at h
  case h_2=>cases h
  rename_i e y ht ht'
  split at h
  case h_2=>cases h
  rename_i inf he hi
  split at h
  case h_2=>cases h
  rename_i z hz
  cases hzs:(Nat.beq z.cells.size inf.size&&Nat.beq inf.size 1) with
  | false=>rw [hzs] at h;cases h
  | true =>
  rw [hzs] at h
  simp only [cond_true] at h ⊢
  exact (vI h hg).1
theorem Ox{P:Program}{g g':Nat→Option aD}{nid:Nat}{t:TypeId}{s x:AV}{r:List sK×List Nat}(h:Cd P g nid t s x=some r)(hg:∀ b∈r.2,g' b=g b) :Cd P g' nid t s x=some r:=by
  unfold Cd at h ⊢
  split at h
  case h_2=>cases h
  rename_i e ht
  split at h
  case h_2=>cases h
  rename_i inf hi
  split at h
  case h_2=>cases h
  rename_i z hz
  cases hzs:Nat.beq z.cells.size inf.size with
  | false=>rw [hzs] at h;cases h
  | true =>
  rw [hzs] at h
  simp only [cond_true] at h ⊢
  split at h
  · exact h
  · exact h
  · exact h
  · exact h
  · split at h
    case h_2=>cases h
    rename_i m es nb obs rs hs
    have q:∀ b∈rs,b∈r.2:=(vI (g':=g) h (fun _ _=>rfl)).2
    have:=Ed (g':=g') hs (fun b hb=>hg b (q b hb))
    simp only [this]
    exact (vI h hg).1
mutual
theorem xJ {σ:Nat→Option Nat} {g g':Nat→Option aD}:∀ (n:Nat) (v:AV),(∀ b∈(Hh σ g n v).2,g' b=g b)→Hh σ g' n v=Hh σ g n v
  | 0,_,_=>rfl
  | n + 1, v, h => by
    cases v<;>simp only [Hh] at h ⊢
    · rename_i b w i j
      cases hs:σ b with
      | some c=>rfl
      | none =>
      rw [hs] at h
      simp only at h ⊢
      have hb:g' b=g b:=by
        cases q:g b with
        | none=>rw [q] at h;have:=h b (by simp);rw [this,q]
        | some d=>rw [q] at h;have:=h b (by simp);rw [this,q]
      rw [hb]
      cases q:g b with
      | none=>rfl
      | some d =>
        rw [q] at h
        have:=LG (σ:=σ) (g:=g) (g':=g') n d (fun b' hb'=>h b' (by simp only [List.mem_cons];exact .inr hb'))
        simp only [this]
    · rename_i b w es i len cap
      cases hs:σ b with
      | some c=>rfl
      | none =>
      rw [hs] at h
      simp only at h ⊢
      have hb:g' b=g b:=by
        cases q:g b with
        | none=>rw [q] at h;have:=h b (by simp);rw [this,q]
        | some d=>rw [q] at h;have:=h b (by simp);rw [this,q]
      rw [hb]
      cases q:g b with
      | none=>rfl
      | some d =>
        rw [q] at h
        have:=LG (σ:=σ) (g:=g) (g':=g') n d (fun b' hb'=>h b' (by simp only [List.mem_cons];exact .inr hb'))
        simp only [this]
    · rename_i f l1 l2
      rw [qd n l1 (fun b hb=>h b (by simp [hb])),qd n l2 (fun b hb=>h b (by simp [hb]))]
    · rename_i l;rw [qd n l h]
    · rename_i l;rw [qd n l h]
    · rename_i t v;rw [xJ n v h]
theorem qd {σ:Nat→Option Nat} {g g':Nat→Option aD}:∀ (n:Nat) (l:List AV),(∀ b∈(Fy σ g n l).2,g' b=g b)→Fy σ g' n l=Fy σ g n l
  | 0,_,_=>rfl
  | n+1,[],_=>rfl
  | n+1,v::l,h=>by
    simp only [Fy] at h ⊢
    rw [xJ n v (fun b hb=>h b (by simp [hb])),qd n l (fun b hb=>h b (by simp [hb]))]
theorem LG {σ:Nat→Option Nat} {g g':Nat→Option aD}:∀ (n:Nat) (d:aD),(∀ b∈(D6 σ g n d).2,g' b=g b)→D6 σ g' n d=D6 σ g n d
  | 0,_,_=>rfl
  | n+1,d,h=>by
    cases d<;>simp only [D6] at h ⊢
    rename_i l;rw [qd n l h]
end
theorem oy{σ:Nat→Option Nat}{g g':Nat→Option aD} :∀ (m:List Bool) (l:List AV),(∀ b∈(ki σ g m l).2,g' b=g b)→ki σ g' m l=ki σ g m l
  | m,[],_=>by cases m<;>rfl
  | true::m,v::l,h=>by
    simp only [ki] at h ⊢
    rw [oy m l h]
  | false::m,v::l,h=>by
    simp only [ki] at h ⊢
    rw [xJ _ v (fun b hb=>h b (by simp [hb])),oy m l (fun b hb=>h b (by simp [hb]))]
  | [],v::l,h=>by
    simp only [ki] at h ⊢
    rw [xJ _ v (fun b hb=>h b (by simp [hb])),oy [] l (fun b hb=>h b (by simp [hb]))]
theorem Hm{g:Nat→Option aD} :∀ (n:Nat) (t acc:List Nat),∀ b∈acc,b∈mI g n t acc
  | 0,t,acc,b,h=>h
  | n+1,[],acc,b,h=>h
  | n+1,x::t,acc,b,h=>by
    simp only [mI]
    split
    · exact Hm n _ _ b h
    · exact Hm n _ _ b (by simp [h])
theorem AT{g g':Nat→Option aD} :∀ (n:Nat) (t acc:List Nat),(∀ b∈mI g n t acc,g' b=g b)→mI g' n t acc=mI g n t acc
  | 0,t,acc,_=>rfl
  | n+1,[],acc,_=>rfl
  | n+1,x::t,acc,h=>by
    simp only [mI] at h ⊢
    split
    · rename_i e;rw [e] at h;exact AT n _ _ h
    · rename_i e
      rw [e] at h
      simp only at h
      have hx:g' x=g x:=h x (Hm n _ _ x (by simp))
      rw [hx]
      exact AT n _ _ h
theorem FI{σ:Nat→Option Nat}{g g':Nat→Option aD} :∀ (l:List Nat),(∀ b∈l,g' b=g b)→sb σ g' l=sb σ g l
  | [],_=>rfl
  | b::l,h=>by simp only [sb];rw [h b (by simp),FI l (fun x hx=>h x (by simp [hx]))]
theorem AU{g g':Nat→Option aD}{nid:Nat} :∀ (l:List Nat),(∀ b∈l,g' b=g b)→ow g' nid l=ow g nid l
  | [],_=>rfl
  | b::l,h=>by simp only [ow];rw [h b (by simp),AU l (fun x hx=>h x (by simp [hx]))]
theorem Up{C:uv}{run:eX}{g g':Nat→Option aD}{nid:Nat}{p:eF}{fid:FuncId}{vals:List AV}{r:OpR}(h:Lz C run g nid p fid vals=some r)(hg:∀ b∈r.reads,g' b=g b) :Lz C run g' nid p fid vals=some r:=by
  have hreads:r.reads=mI g iE (iO (ov (C.mode fid).mask vals)) []++(ki (jB (mI g iE (iO (ov (C.mode fid).mask vals)) []) 0) g (C.mode fid).mask vals).2:=by
    unfold Lz at h
    simp only at h
    generalize (vF (mI g iE (iO (ov (C.mode fid).mask vals)) [])&&ow g nid (mI g iE (iO (ov (C.mode fid).mask vals)) []))=c at h
    cases c with
    | false=>cases h
    | true =>
      simp only [cond_true] at h
      split at h
      case h_2=>cases h
      rename_i r' obs p' hl
      cases hle:Nat.ble r'.own.length ((mI g iE (iO (ov (C.mode fid).mask vals)) []).length+rt) with
      | false=>rw [hle] at h;cases h
      | true=>rw [hle] at h;simp only [cond_true,Option.some.injEq] at h;rw [←h]
  rw [hreads] at hg
  have e1:=AT (g:=g) (g':=g') iE (iO (ov (C.mode fid).mask vals)) [] (fun b hb=>hg b (by simp [hb]))
  have e2:=oy (σ:=jB (mI g iE (iO (ov (C.mode fid).mask vals)) []) 0) (g:=g) (g':=g') (C.mode fid).mask vals (fun b hb=>hg b (by simp [hb]))
  have e3:=FI (σ:=jB (mI g iE (iO (ov (C.mode fid).mask vals)) []) 0) (g:=g) (g':=g') (mI g iE (iO (ov (C.mode fid).mask vals)) []) (fun b hb=>hg b (by simp [hb]))
  have e4:=AU (nid:=nid) (g:=g) (g':=g') (mI g iE (iO (ov (C.mode fid).mask vals)) []) (fun b hb=>hg b (by simp [hb]))
  unfold Lz at h ⊢
  simp only at h ⊢
  rw [e1,e2,e3,e4]
  exact h
theorem Uq{P:Program}{g g':Nat→Option aD}{t:TypeId}{s x:AV}{r:Nat×Nat×aD×List Bool×List Nat}(h:P9 P g t s x=some r)(hg:∀ b∈r.2.2.2.2,g' b=g b) :P9 P g' t s x=some r:=by
  unfold P9 at h ⊢
  split at h
  case h_2=>cases h
  rename_i e b w es i len cap ht
  split at h
  case h_2=>cases h
  rename_i inf blk m es' nb obs rs hi hb hsrc
  have hr:r.2.2.2.2=b::rs:=by
    cases h1:Nat.beq inf.size 1&&Nat.beq es' 1 with
    | false=>rw [h1] at h;cases h
    | true =>
      rw [h1] at h
      simp only [cond_true,Option.map_eq_some_iff] at h
      obtain ⟨_,_,rfl⟩:=h
      rfl
  have q1:g' b=some blk:=by rw [hg b (by rw [hr];simp)];exact hb
  have q2:=Ed hsrc (g':=g') (fun c hc=>hg c (by rw [hr];exact List.mem_cons_of_mem _ hc))
  rw [hi,q1,q2]
  exact h
theorem Ur{P:Program}{g g':Nat→Option aD}{t:TypeId}{s x:AV}{r:Nat×Nat×aD×List Bool×List Nat}(h:Qa P g t s x=some r)(hg:∀ b∈r.2.2.2.2,g' b=g b) :Qa P g' t s x=some r:=by
  unfold Qa at h ⊢
  cases hv:adO x with
  | false=>rw [hv] at h;exact Uq h hg
  | true =>
    rw [hv] at h
    simp only at h ⊢
    split at h
    case h_2=>cases h
    rename_i e b w es i len cap ht
    split at h
    case h_2=>cases h
    rename_i inf blk hi hb
    cases h
    have:=hg b (by simp)
    simp only [hi,this,hb]
theorem Yi{P:Program}{g g':Nat→Option aD}{s d:TypeId}{x:AV}{r:ByteArray×List Bool×List Nat}(h:acn P g s d x=some r)(hg:∀ b∈r.2.2,g' b=g b) :acn P g' s d x=some r:=by
  unfold acn at h ⊢
  split at h
  case h_2=>cases h
  rename_i e hs hd
  split at h
  case h_2=>cases h
  rename_i m es k ys obs rs he hsrc
  have hr:r.2.2=rs:=by
    cases h1:Nat.beq es 1&&cJ k .u8 with
    | false=>rw [h1] at h;cases h
    | true =>
      rw [h1] at h
      simp only [cond_true,Option.some.injEq] at h
      rw [←h]
  have q2:=Ed hsrc (g':=g') (fun c hc=>hg c (by rw [hr];exact hc))
  rw [he,q2]
  exact h
theorem act{C:uv}{run:eX}{e e':Operand→AV}{g g':Nat→Option aD}{nid:Nat}{p:eF}{op:Op}{r:OpR}(h:Yd C run e g nid p op=some r)(he:∀ x∈op.operands,e' x=e x)(hg:∀ b∈r.reads,g' b=g b) :
    Yd C run e' g' nid p op=some r:=by
  unfold Yd at h ⊢
  rw [RM he]
  split at h
  · exact h
  · rename_i hp
    clear hp
    split at h
    all_goals simp only [Op.operands,Call.operands] at he
    · rename_i t x
      simp only [Option.map_eq_some_iff] at h ⊢
      obtain ⟨r',h1,rfl⟩:=h
      exact ⟨r',by rw [he x (by simp)];exact Uo h1 hg,rfl⟩
    · rename_i t d x
      simp only [Option.map_eq_some_iff] at h ⊢
      obtain ⟨r',h1,rfl⟩:=h
      exact ⟨r',by rw [he x (by simp)];exact Yi h1 hg,rfl⟩
    · rename_i t x lo hi
      have h1:lo.map e'=lo.map e:=by
        cases lo with
        | none=>rfl
        | some y=>simp only [Option.map_some];rw [he y (by simp)]
      have h2:hi.map e'=hi.map e:=by
        cases hi with
        | none=>rfl
        | some y=>simp only [Option.map_some];rw [he y (by simp)]
      simp only [Option.map_eq_some_iff] at h ⊢
      obtain ⟨r',q,rfl⟩:=h
      exact ⟨r',by rw [he x (by simp),h1,h2];exact RF q hg,rfl⟩
    · rename_i t x v
      simp only [Option.map_eq_some_iff] at h ⊢
      obtain ⟨r',h1,rfl⟩:=h
      exact ⟨r',by rw [he x (by simp),he v (by simp)];exact RN h1 (hg _ (by simp)),rfl⟩
    · rename_i t x k cok;rw [he x (by simp),he k (by simp)];exact h
    · exact h
    · rename_i t x;rw [he x (by simp)];exact h
    · rename_i t l c;rw [he l (by simp),he c (by simp)];exact h
    · rename_i t parts
      have:(parts.toList.map fun x=>(x.1,e' x.2))=(parts.toList.map fun x=>(x.1,e x.2)):=List.map_congr_left fun x hx=>by rw [he x.2 (by simp;exact ⟨x.1,by simpa using hx⟩)]
      rw [this];exact h
    · rename_i t len parts
      have:(parts.toList.map fun x=>(x.1,e' x.2))=(parts.toList.map fun x=>(x.1,e x.2)):=List.map_congr_left fun x hx=>by rw [he x.2 (by simp;exact ⟨x.1,by simpa using hx⟩)]
      rw [this];exact h
    · rename_i args ats
      split at h
      case h_2=>cases h
      rename_i s x t t' e1 e2
      have ea:args = #[s,x]:=by rw [←e1]
      subst ea
      cases ht:Nat.beq t t' with
      | false =>
        rw [ht] at h
        simp only [cond_false] at h ⊢
        rw [he s (by simp),he x (by simp)]
        split at h
        case h_2=>cases h
        rename_i alts rs ha
        simp only [Option.map_eq_some_iff] at h ⊢
        obtain ⟨r',h1,rfl⟩:=h
        have:=Ow (g':=g') ha hg
        simp only [this,Option.map_eq_some_iff]
        exact ⟨r',h1,rfl⟩
      | true =>
      rw [ht] at h
      simp only [cond_true] at h ⊢
      rw [he s (by simp),he x (by simp)]
      split at h
      case h_2=>cases h
      rename_i alts rs ha
      simp only [Option.map_eq_some_iff] at h ⊢
      obtain ⟨r',h1,rfl⟩:=h
      have:=Ox (g':=g') ha hg
      simp only [this,Option.map_eq_some_iff]
      exact ⟨r',h1,rfl⟩
    · rename_i args ats
      split at h
      case h_2=>cases h
      rename_i s x t t' e1 e2
      have ea:args = #[s,x]:=by rw [←e1]
      subst ea
      rw [he s (by simp),he x (by simp)]
      simp only [Option.map_eq_some_iff] at h ⊢
      obtain ⟨r',h1,rfl⟩:=h
      exact ⟨r',Ur h1 hg,rfl⟩
    · rename_i f args ats
      have hf:e' f=e f:=he f (by simp)
      have hargs:args.toList.map e'=args.toList.map e:=List.map_congr_left fun x hx=>he x (by simp at hx;simp [hx])
      split at h
      case h_2=>cases h
      rename_i fid l hca
      have:AR e' f args=some (fid,l):=by
        unfold AR at hca ⊢
        rw [hf,hargs];exact hca
      simp only [this]
      split at h
      · exact h
      · exact Up h hg
    · cases h
def Yj(l:List Operand) :List Nat:=l.filterMap fun | .tmp t=>some t | _=>none
def mS(ops:Array Oper)(o:Oper) :List Nat :=
  (match o.dst with | some d=>[d] | none=>[])++(Yj o.op.operands.toList++(match o.guard with | some (j,_)=>(match Cf ops j with | some d=>[d] | none=>[]) | none=>[]))
def jE(s:List (Nat×Option aD)) :List Nat:=s.map Prod.fst
def qT(ms:List Nat)(o:Oper) :Nat:=o.after.toList.foldl (fun m e=>bif Region.binds .any e then m ||| (2^e.on ||| ms.getD e.on 0) else m) 0
def Yk(x:Nat) :List Nat→Bool
  | []=>false
  | y::l=>Nat.beq x y||Yk x l
def Ee:List Nat→List Nat→Bool
  | [],_=>true
  | x::l,m=>!Yk x m&&Ee l m
theorem LH{x:Nat} :∀ {l:List Nat},Yk x l=true↔x∈l
  | []=>by simp [Yk]
  | y::l=>by simp [Yk,LH (l:=l)]
theorem Ch{l m:List Nat}(h:Ee l m=true) :∀ x,x∈l→x∈m→False:=by
  induction l with
  | nil=>intro x hx;cases hx
  | cons y l ih =>
    simp only [Ee,Bool.and_eq_true,Bool.not_eq_true'] at h
    intro x hx hm
    rcases List.mem_cons.1 hx with rfl | hx
    · have:=LH.2 hm;rw [this] at h;cases h.1
    · exact ih h.2 x hx hm
def oz(ops:Array Oper)(o:Oper)(r:qS)(o':Oper)(r':qS) :Bool :=
  Ee o.dst.toList (mS ops o')&&(Ee o'.dst.toList (mS ops o)&&(Ee (jE r.sets) (r'.reads++jE r'.sets)&&Ee (jE r'.sets) (r.reads++jE r.sets)))
def oA(ops:Array Oper)(mask:Nat)(o':Oper)(r':qS) :Nat→List (Oper×qS)→Bool
  | _,[]=>true
  | i,x::l=>(mask.testBit i||oz ops x.1 x.2 o' r')&&oA ops mask o' r' (i+1) l
def Ef(ops:Array Oper) :List (Oper×qS)→List Nat→List (Oper×qS)→Bool
  | _,_,[]=>true
  | pre,ms,x::l =>
    x.1.after.toList.all (fun e=>!Region.binds .any e||Nat.blt e.on pre.length) &&
    (oA ops (qT ms x.1) x.1 x.2 0 pre&&Ef ops (pre++[x]) (ms++[qT ms x.1]) l)
def oi(L:Nat→Bool) :Nat→List (Oper×qS)→List AV×bN→List AV×bN
  | _,[],s=>s
  | i,x::l,s=>oi L (i+1) l (bif L i then (Ec s.1 x.1.dst x.2.v,cS x.2.sets s.2) else s)
theorem FJ(T:List AV)(d:Option Nat)(v:AV)(t:Nat) :(Ec T d v)[t]? = if d=some t then (T[t]?).map (fun _=>v) else T[t]?:=by
  cases d with
  | none=>simp [Ec]
  | some d =>
    simp only [Ec,B8,Option.some.injEq]
    rw [List.getElem?_set]
    by_cases h:d=t
    · subst h
      simp only [if_true]
      by_cases hl:d<T.length
      · simp [hl]
      · simp [hl]
    · simp [h]
theorem qU{h h':bN}{b:Nat} :∀ (s:List (Nat×Option aD)) {h h':bN},be h b=be h' b→be (cS s h) b=be (cS s h') b
  | [],_,_,e=>e
  | (c,some d)::s,h,h',e=>by
    simp only [cS]
    exact qU (h:=h) (h':=h') s (by rw [cR,cR,e])
  | (c,none)::s,h,h',e=>by
    simp only [cS]
    exact qU (h:=h) (h':=h') s (by rw [nU,nU,e])
theorem qV{b:Nat} :∀ (s:List (Nat×Option aD)) {h:bN},b ∉ jE s→be (cS s h) b=be h b
  | [],_,_=>rfl
  | (c,some d)::s,h,hb=>by
    simp only [jE,List.map_cons,List.mem_cons,not_or] at hb
    simp only [cS]
    rw [qV s hb.2,cR,if_neg (fun e=>hb.1 e.symm)]
  | (c,none)::s,h,hb=>by
    simp only [jE,List.map_cons,List.mem_cons,not_or] at hb
    simp only [cS]
    rw [qV s hb.2,nU,if_neg (fun e=>hb.1 e.symm)]
theorem RO{L L':Nat→Bool}{t:Nat} :∀ (l:List (Oper×qS)) (i:Nat) {s s':List AV×bN},(∀ k x,l[k]? = some x→x.1.dst=some t→L (i+k)=L' (i+k))→s.1[t]? = s'.1[t]?→(oi L i l s).1[t]? = (oi L' i l s').1[t]?
  | [],_,_,_,_,e=>e
  | x::l,i,s,s',h,e=>by
    simp only [oi]
    refine RO l (i+1) (fun k y hy hd=>by have:=h (k+1) y (by simpa using hy) hd;rw [show i+1+k=i+(k+1) from by omega];exact this) ?_
    by_cases hd:x.1.dst=some t
    · have:=h 0 x (by simp) hd
      simp only [Nat.add_zero] at this
      rw [this]
      cases L' i with
      | true=>simp only [cond_true,FJ,hd,if_true,e]
      | false=>exact e
    · cases L i<;>cases L' i<;>simp only [cond_true,cond_false,FJ,if_neg hd,e]
theorem RP{L L':Nat→Bool}{b:Nat} :∀ (l:List (Oper×qS)) (i:Nat) {s s':List AV×bN},(∀ k x,l[k]? = some x→b∈jE x.2.sets→L (i+k)=L' (i+k))→be s.2 b=be s'.2 b→be (oi L i l s).2 b=be (oi L' i l s').2 b
  | [],_,_,_,_,e=>e
  | x::l,i,s,s',h,e=>by
    simp only [oi]
    refine RP l (i+1) (fun k y hy hd=>by have:=h (k+1) y (by simpa using hy) hd;rw [show i+1+k=i+(k+1) from by omega];exact this) ?_
    by_cases hd:b∈jE x.2.sets
    · have:=h 0 x (by simp) hd
      simp only [Nat.add_zero] at this
      rw [this]
      cases L' i with
      | true=>simp only [cond_true];exact qU (h:=s.2) (h':=s'.2) _ e
      | false=>exact e
    · cases L i<;>cases L' i<;>simp only [cond_true,cond_false,qV _ hd,e]
def de:List (Oper×qS)→List AV×bN→List AV×bN
  | [],s=>s
  | x::l,s=>de l (Ec s.1 x.1.dst x.2.v,cS x.2.sets s.2)
theorem LI(l m:List (Oper×qS))(s:List AV×bN) :de (l++m) s=de m (de l s):=by
  induction l generalizing s with
  | nil=>rfl
  | cons x l ih=>simp only [List.cons_append,de,ih]
theorem KU:∀ (l:List (Oper×qS)) (i j:Nat) (s:List AV×bN),oi (fun k=>decide (k<i+j)) i l s=de (l.take j) s
  | [],i,j,s=>by simp [oi,de]
  | x::l,i,0,s=>by
    have:∀ (l:List (Oper×qS)) (i':Nat),i≤i'→∀ s,oi (fun k=>decide (k<i+0)) i' l s=s:=by
      intro l
      induction l with
      | nil=>intro _ _ s;rfl
      | cons y l ih =>
        intro i' hi s
        simp only [oi]
        have:decide (i'<i+0)=false:=by simp;omega
        rw [this];exact ih (i'+1) (by omega) s
    simp only [List.take_zero,de]
    exact this _ i (Nat.le_refl _) s
  | x::l,i,j+1,s=>by
    simp only [oi,List.take_succ_cons,de]
    have h1:decide (i<i+(j+1))=true:=by simp
    rw [h1]
    simp only [cond_true]
    have:=KU l (i+1) j (Ec s.1 x.1.dst x.2.v,cS x.2.sets s.2)
    rw [show i+1+j=i+(j+1) from by omega] at this
    exact this
structure adU (ops:Array Oper) (l:List (Oper×qS)) (ms:List Nat):Prop where
  edge:∀ (j:Nat) (x:Oper×qS),l[j]? = some x→∀ e∈x.1.after,Region.binds .any e=true→e.on<j
  mask:∀ (j:Nat) (x:Oper×qS),l[j]? = some x→∃ m:Nat,ms[j]? = some m∧∀ i:Nat,m.testBit i=true→∃ e∈x.1.after,Region.binds .any e=true∧(e.on=i∨∃ m':Nat,ms[e.on]? = some m'∧m'.testBit i=true)
  pair:∀ (i j:Nat) (x y:Oper×qS),l[i]? = some x→l[j]? = some y→i<j→(∃ m:Nat,ms[j]? = some m∧m.testBit i=true)∨oz ops x.1 x.2 y.1 y.2=true
theorem LJ(ms:List Nat) :∀ (es:List Edge) (m0 i:Nat),(es.foldl (fun m e=>bif Region.binds .any e then m ||| (2^e.on ||| ms.getD e.on 0) else m) m0).testBit i=true →
    m0.testBit i=true∨∃ e∈es,Region.binds .any e=true∧(e.on=i∨(ms.getD e.on 0).testBit i=true)
  | [],m0,i,h=>.inl h
  | e::es,m0,i,h=>by
    simp only [List.foldl_cons] at h
    rcases LJ ms es _ i h with h | ⟨e',h1,h2,h3⟩
    · cases hb:Region.binds .any e with
      | false=>rw [hb] at h;exact .inl h
      | true =>
        rw [hb] at h
        simp only [cond_true,Nat.testBit_or,Bool.or_eq_true,Nat.testBit_two_pow,decide_eq_true_eq] at h
        rcases h with h | h | h
        · exact .inl h
        · exact .inr ⟨e,by simp,hb,.inl h⟩
        · exact .inr ⟨e,by simp,hb,.inr h⟩
    · exact .inr ⟨e',by simp [h1],h2,h3⟩
theorem Du{ops:Array Oper}{mask:Nat}{o':Oper}{r':qS} :∀ {l:List (Oper×qS)} {i:Nat},oA ops mask o' r' i l=true→∀ k x,l[k]? = some x→mask.testBit (i+k)=true∨oz ops x.1 x.2 o' r'=true
  | [],_,_,k,x,h=>by simp at h
  | y::l,i,h,0,x,hx=>by
    simp only [oA,Bool.and_eq_true,Bool.or_eq_true] at h
    simp at hx;subst hx;simpa using h.1
  | y::l,i,h,k+1,x,hx=>by
    simp only [oA,Bool.and_eq_true,Bool.or_eq_true] at h
    have:=Du h.2 k x (by simpa using hx)
    rw [show i+1+k=i+(k+1) from by omega] at this;exact this
theorem Je{ops:Array Oper} :∀ (l pre:List (Oper×qS)) (ms:List Nat),ms.length=pre.length→Ef ops pre ms l=true→adU ops pre ms→∃ ms',adU ops (pre++l) ms'
  | [],pre,ms,_,_,D=>⟨ms,by simpa using D⟩
  | x::l,pre,ms,hl,h,D=>by
    simp only [Ef,Bool.and_eq_true] at h
    obtain ⟨h1,h2,h3⟩:=h
    have:=Je l (pre++[x]) (ms++[qT ms x.1]) (by simp [hl]) h3 ?_
    · simpa using this
    have old:∀ (j:Nat) (y:Oper×qS),(pre++[x])[j]? = some y→(j<pre.length∧pre[j]? = some y)∨(j=pre.length∧y=x):=by
      intro j y hy
      rw [List.getElem?_append] at hy
      split at hy
      · rename_i q;exact .inl ⟨q,hy⟩
      · rename_i q
        have:j-pre.length=0:=by
          rcases Nat.eq_zero_or_pos (j-pre.length) with r | r
          · exact r
          · rw [List.getElem?_eq_none (by simp;omega)] at hy;cases hy
        rw [this] at hy;simp at hy;exact .inr ⟨by omega,hy.symm⟩
    have msl:∀ (j m:Nat),ms[j]? = some m→(ms++[qT ms x.1])[j]? = some m:=by
      intro j m hm
      rw [List.getElem?_append_left (List.getElem?_eq_some_iff.1 hm).1];exact hm
    have msn:(ms++[qT ms x.1])[pre.length]? = some (qT ms x.1):=by
      rw [←hl,List.getElem?_append_right (Nat.le_refl _)];simp
    have hedge:∀ e∈x.1.after,Region.binds .any e=true→e.on<pre.length:=by
      intro e he hb
      have:=List.all_eq_true.1 h1 e (by simpa using he)
      rw [hb] at this
      simpa [Nat.blt_eq] using this
    refine ⟨fun j y hy=>?_,fun j y hy=>?_,fun i j a b ha hb hij=>?_⟩
    · rcases old j y hy with ⟨q,hy⟩ | ⟨rfl,rfl⟩
      · exact D.edge j y hy
      · exact hedge
    · rcases old j y hy with ⟨q,hy⟩ | ⟨rfl,rfl⟩
      · obtain ⟨m,k1,k2⟩:=D.mask j y hy
        refine ⟨m,msl j m k1,fun i hi=>?_⟩
        obtain ⟨e,e1,e2,e3⟩:=k2 i hi
        exact ⟨e,e1,e2,e3.imp id fun ⟨m',q1,q2⟩=>⟨m',msl _ m' q1,q2⟩⟩
      · refine ⟨_,msn,fun i hi=>?_⟩
        rcases LJ ms y.1.after.toList 0 i hi with q | ⟨e,e1,e2,e3⟩
        · simp at q
        · refine ⟨e,by simpa using e1,e2,e3.imp id fun q=>?_⟩
          rw [List.getD_eq_getElem?_getD] at q
          cases hm:ms[e.on]? with
          | none=>rw [hm] at q;simp at q
          | some m'=>rw [hm] at q;exact ⟨m',msl _ m' hm,q⟩
    · rcases old j b hb with ⟨q,hb⟩ | ⟨rfl,rfl⟩
      · rcases old i a ha with ⟨q',ha⟩ | ⟨rfl,rfl⟩
        · exact (D.pair i j a b ha hb hij).imp (fun ⟨m,k1,k2⟩=>⟨m,msl j m k1,k2⟩) id
        · omega
      · rcases old i a ha with ⟨q',ha⟩ | ⟨rfl,rfl⟩
        · have:=Du h2 i a ha
          rw [Nat.zero_add] at this
          exact this.imp (fun k=>⟨_,msn,k⟩) id
        · omega
def LK(m i:Nat) :Bool:=Nat.beq (Nat.land (Nat.shiftRight m i) 1) 1
theorem Ci(m i:Nat) :LK m i=m.testBit i:=by
  have h:Nat.land (Nat.shiftRight m i) 1=(m >>> i)%2:=Nat.and_one_is_mod _
  unfold LK
  rw [h,Nat.testBit_eq_decide_div_mod_eq,Nat.shiftRight_eq_div_pow]
  cases hq:Nat.beq (m/2^i%2) 1 with
  | true=>have:=Nat.eq_of_beq_eq_true hq;simp [this]
  | false => have : ¬ m / 2 ^ i % 2 = 1 := fun e => by rw [e] at hq; cases hq
             simp [this]
def Eg:List Nat→Nat
  | []=>0
  | t::l=>Nat.lor (Nat.shiftLeft 1 t) (Eg l)
theorem LL:∀ {l:List Nat} {t:Nat},t∈l→LK (Eg l) t=true
  | s::l,t,h=>by
    rw [Ci]
    show ((1 <<< s) ||| Eg l).testBit t=true
    rw [Nat.testBit_or,Bool.or_eq_true]
    rcases List.mem_cons.1 h with rfl | h
    · left;rw [Nat.one_shiftLeft,Nat.testBit_two_pow];simp
    · right;rw [←Ci];exact LL h
def aa7(d:Option Nat)(m:Nat) :Bool:=match d with | none=>true | some d=>!LK m d
theorem LM{d:Option Nat}{l:List Nat}(h:aa7 d (Eg l)=true) :Ee d.toList l=true:=by
  cases d with
  | none=>rfl
  | some d =>
    simp only [aa7,Bool.not_eq_true'] at h
    simp only [Option.toList,Ee,Bool.and_true,Bool.not_eq_true']
    cases hm:Yk d l with
    | false=>rfl
    | true=>rw [LL (LH.1 hm)] at h;cases h
def AW(r r':qS) :Bool:=Ee (jE r.sets) (r'.reads++jE r'.sets)&&Ee (jE r'.sets) (r.reads++jE r.sets)
def KV(mask:Nat)(d':Option Nat)(m':Nat) :Nat→List (Option Nat×Nat)→Bool
  | _,[]=>true
  | i,x::l=>(LK mask i||(aa7 x.1 m'&&aa7 d' x.2))&&KV mask d' m' (i+1) l
def RQ(ops:Array Oper)(o:Oper) :Option Nat×Nat:=(o.dst,Eg (mS ops o))
def RR(ops:Array Oper) :List Oper→List Nat→List Oper→Bool
  | _,_,[]=>true
  | pre,ms,o::l=>o.after.toList.all (fun e=>!Region.binds .any e||Nat.blt e.on pre.length)&&(KV (qT ms o) o.dst (Eg (mS ops o)) 0 (pre.map (RQ ops))&&RR ops (pre++[o]) (ms++[qT ms o]) l)
def LN:List Oper→List Nat→List Nat
  | [],_=>[]
  | o::l,ms=>qT ms o::LN l (ms++[qT ms o])
def LO(mask:Nat)(r':qS) :Nat→List qS→Bool
  | _,[]=>true
  | i,r::l=>(LK mask i||AW r r')&&LO mask r' (i+1) l
def Hn(r:qS) :Bool:=match r.sets,r.reads with | [],[]=>true | _,_=>false
def KW:List qS→Bool
  | []=>true
  | r::l=>match r.sets with | []=>KW l | _=>false
def Us:List qS→List Nat→List qS→Bool
  | _,_,[]=>true
  | pre,m::ms,r::l=>(Hn r||LO m r 0 pre)&&Us (pre++[r]) ms l
  | _,[],_=>false
def FK(ops:Array Oper)(rs:List qS) :Bool :=
  RR ops [] [] ops.toList&&(KW rs||Us [] (LN ops.toList []) rs)
theorem Ut:∀ (l:List Nat),Ee l []=true
  | []=>rfl
  | x::l=>by simp [Ee,Yk,Ut l]
theorem Ho{r r':qS}(h:Hn r'=true) :AW r r'=true:=by
  unfold Hn at h
  split at h
  · rename_i h1 h2;simp [AW,h1,h2,jE,Ee,Ut]
  · cases h
theorem Jf:∀ {l:List qS},KW l=true→∀ r∈l,r.sets=[]
  | x::l,h,r,hr=>by
    simp only [KW] at h
    split at h
    · rename_i hx
      rcases List.mem_cons.1 hr with rfl | hr
      · exact hx
      · exact Jf h r hr
    · cases h
theorem LP{r r':qS}(h:r.sets=[])(h':r'.sets=[]) :AW r r'=true:=by simp [AW,h,h',jE,Ee]
theorem Jg{ops:Array Oper}{mask:Nat}{o':Oper}{r':qS} :∀ {l:List Oper} {rs:List qS} {i:Nat},KV mask o'.dst (Eg (mS ops o')) i (l.map (RQ ops))=true→(∀ k r,rs[k]? = some r→LK mask (i+k)=true∨AW r r'=true)→oA ops mask o' r' i (l.zip rs)=true
  | [],_,_,_,_=>by simp [oA]
  | _::_,[],_,_,_=>by simp [oA]
  | o::l,r::rs,i,h,hd=>by
    simp only [List.map_cons,KV,Bool.and_eq_true,Bool.or_eq_true,RQ] at h
    simp only [List.zip_cons_cons,oA,Bool.and_eq_true,Bool.or_eq_true]
    refine ⟨?_,Jg h.2 fun k r hk=>?_⟩
    · have:=hd 0 r rfl
      rw [Nat.add_zero] at this
      rcases this with q | q
      · left;rw [←Ci];exact q
      · rcases h.1 with q' | q'
        · left;rw [←Ci];exact q'
        · right
          simp only [AW,Bool.and_eq_true] at q
          simp only [oz,Bool.and_eq_true]
          exact ⟨LM q'.1,LM q'.2,q.1,q.2⟩
    · have:=hd (k+1) r (by simpa using hk)
      rwa [show i+(k+1)=i+1+k from by omega] at this
theorem LQ{mask:Nat}{r':qS} :∀ {l:List qS} {i:Nat},LO mask r' i l=true→∀ k r,l[k]? = some r→LK mask (i+k)=true∨AW r r'=true
  | [],_,_,k,r,h=>by simp at h
  | x::l,i,h,0,r,hr=>by
    simp only [LO,Bool.and_eq_true,Bool.or_eq_true] at h
    simp at hr;subst hr;simpa using h.1
  | x::l,i,h,k+1,r,hr=>by
    simp only [LO,Bool.and_eq_true,Bool.or_eq_true] at h
    have:=LQ h.2 k r (by simpa using hr)
    rwa [show i+1+k=i+(k+1) from by omega] at this
theorem Qe{ops:Array Oper} :∀ (l pre:List Oper) (rs prs:List qS) (ms:List Nat),pre.length=prs.length→l.length=rs.length→RR ops pre ms l=true →
    ((∀ r∈prs++rs,r.sets=[])∨Us prs (LN l ms) rs=true)→Ef ops (pre.zip prs) ms (l.zip rs)=true
  | [],_,_,_,_,_,_,_,_=>by simp [Ef]
  | _::_,_,[],_,_,_,h,_,_=>by simp at h
  | o::l,pre,r::rs,prs,ms,hp,hl,hs,hd=>by
    simp only [RR,Bool.and_eq_true] at hs
    obtain ⟨h1,h2,h3⟩:=hs
    simp only [List.zip_cons_cons,Ef,Bool.and_eq_true]
    have hz:(pre.zip prs).length=pre.length:=by simp [hp]
    have hap:(pre.zip prs)++[(o,r)]=(pre++[o]).zip (prs++[r]):=by rw [List.zip_append hp];rfl
    refine ⟨by rw [hz];exact h1,Jg h2 fun k x hk=>?_,?_⟩
    · rcases hd with hd | hd
      · exact .inr (LP (hd x (by simp [List.mem_of_getElem? hk])) (hd r (by simp)))
      · simp only [LN,Us,Bool.and_eq_true,Bool.or_eq_true] at hd
        rcases hd.1 with q | q
        · exact .inr (Ho q)
        · exact LQ q k x hk
    · rw [hap]
      refine Qe l (pre++[o]) rs (prs++[r]) _ (by simp [hp]) (by simpa using hl) h3 ?_
      rcases hd with hd | hd
      · left;simpa using hd
      · right
        simp only [LN,Us,Bool.and_eq_true] at hd
        exact hd.2
theorem Uu{ops:Array Oper}{rs:List qS}(hl:rs.length=ops.toList.length)(h:FK ops rs=true) :Ef ops [] [] (ops.toList.zip rs)=true:=by
  simp only [FK,Bool.and_eq_true,Bool.or_eq_true] at h
  exact Qe ops.toList [] rs [] [] rfl hl.symm h.1 (h.2.imp (fun q=>by simpa using Jf q) id)
theorem Yl{l:List Operand}{t:Nat}(h:Operand.tmp t∈l) :t∈Yj l:=by
  simp only [Yj,List.mem_filterMap];exact ⟨_,h,rfl⟩
theorem Uv{C:uv}{run:eX}{ops:Array Oper}{n0 i:Nat}{o:Oper}{T T':List AV}{h h':bN}{p p':eF}{r:qS}{obs:List Bool}(hr:FG C run ops n0 i o T h p=some (r,obs,p')) 
    (hT:∀ t∈mS ops o,T'[t]? = T[t]?) (hh:∀ b∈r.reads,be h' b=be h b):FG C run ops n0 i o T' h' p=some (r,obs,p'):=by
  have hw:xG ops o T'=xG ops o T:=by
    unfold xG
    simp only [Rd]
    cases hg:o.guard with
    | none=>rfl
    | some x =>
      obtain ⟨j,want⟩:=x
      simp only
      cases hs:Cf ops j with
      | none=>rfl
      | some d=>simp only;rw [hT d (by simp [mS,hg,hs])]
  unfold FG at hr ⊢
  simp only [adT] at hr ⊢
  rw [hw]
  split at hr
  · cases hr
  · exact hr
  · split at hr
    · cases hr
    · rename_i r' hop
      have:Yd C run (XN T') (be h') (n0+i*rt) p o.op=some r':=by
        refine act hop (fun x hx=>?_) (fun b hb=>?_)
        · cases x with
          | tmp t=>simp only [XN,Rc];rw [hT t (by simp only [mS,List.mem_append];exact .inr (.inl (Yl (by simpa using hx))))]
          | _=>rfl
        · apply hh
          split at hr
          · cases hr
          · simp only [Option.some.injEq,Prod.mk.injEq] at hr;rw [←hr.1];exact hb
      simp only [this]
      exact hr
def LR(C:uv)(run:eX)(ops:Array Oper)(n0:Nat) :Nat→List Oper→List AV→bN→eF→Option (List qS×List AV×bN×List Bool×eF)
  | _,[],T,h,p=>some ([],T,h,[],p)
  | i,o::l,T,h,p =>
    match FG C run ops n0 i o T h p with
    | none=>none
    | some (r,obs,p') =>
      match LR C run ops n0 (i+1) l (Ec T o.dst r.v) (cS r.sets h) p' with
      | none=>none
      | some (rs,T',h',obs',p'')=>some (r::rs,T',h',obs++obs',p'')
theorem Jh{C:uv}{run:eX}{ops:Array Oper}{n0:Nat} :∀ (l:List Oper) (i:Nat) {T T':List AV} {h h':bN} {p p':eF} {obs:List Bool} {rs:List qS},LR C run ops n0 i l T h p=some (rs,T',h',obs,p')→aB obs →
    rs.length=l.length∧de (l.zip rs) (T,h)=(T',h')∧∀ (j:Nat) (o:Oper),l[j]? = some o→∃ r obs' q q',rs[j]? = some r∧aB obs' ∧
      FG C run ops n0 (i+j) o (de ((l.zip rs).take j) (T,h)).1 (de ((l.zip rs).take j) (T,h)).2 q=some (r,obs',q')
  | [],i,T,T',h,h',p,p',obs,rs,hr,_=>by
    simp only [LR,Option.some.injEq,Prod.mk.injEq] at hr;obtain ⟨rfl,rfl,rfl,rfl,rfl⟩:=hr
    exact ⟨rfl,rfl,fun j o h=>by simp at h⟩
  | o::l,i,T,T',h,h',p,p',obs,rs,hr,ho=>by
    simp only [LR] at hr
    split at hr
    case h_1=>cases hr
    rename_i r obs1 p1 h1
    split at hr
    case h_1=>cases hr
    rename_i rs2 T2 h2 obs2 p2 h3
    simp only [Option.some.injEq,Prod.mk.injEq] at hr;obtain ⟨rfl,rfl,rfl,rfl,rfl⟩:=hr
    rw [bh] at ho
    obtain ⟨a1,a2,a3⟩:=Jh l (i+1) h3 ho.2
    refine ⟨by simp [a1],by simpa [de] using a2,fun j o' hj=>?_⟩
    cases j with
    | zero=>simp at hj;subst hj;exact ⟨r,obs1,p,p1,by simp,ho.1,by simpa [de] using h1⟩
    | succ j =>
      obtain ⟨r',ob,q,q',b1,b2,b3⟩:=a3 j o' (by simpa using hj)
      refine ⟨r',ob,q,q',by simpa using b1,b2,?_⟩
      rw [show i+(j+1)=i+1+j from by omega]
      simpa [de] using b3
theorem Qf{p q:Nat→Bool} :∀ {l:List Nat} {j:Nat},j∈l→p j=true→q j=false→(∀ i,q i=true→p i=true)→l.countP q<l.countP p
  | [],_,h,_,_,_=>by cases h
  | x::l,j,h,hp,hq,hi=>by
    have mono:∀ l:List Nat,l.countP q≤l.countP p:=fun l=>List.countP_mono_left fun x _=>hi x
    simp only [List.countP_cons]
    rcases List.mem_cons.1 h with rfl | h
    · rw [hp,hq];have:=mono l;simp;omega
    · have:=Qf h hp hq hi
      by_cases hx:q x=true
      · rw [hx,hi x hx];omega
      · have hq':q x=false:=by simpa using hx
        rw [hq'];simp only [Bool.false_eq_true,if_false];split<;>omega
theorem afN{i j y:Nat}(h1:i*rt≤y)(h2:y<i*rt+rt)(h3:j*rt≤y)(h4:y<j*rt+rt) :i=j:=by
  have hS:0<rt:=by decide
  have a:y/rt=i:=by rw [Nat.div_eq_iff hS];omega
  have b:y/rt=j:=by rw [Nat.div_eq_iff hS];omega
  omega
theorem adV{C:uv}(hC:C.Ok){run:eX}(hrun:Ly C.P run){ops:Array Oper}{n0:Nat}{T0:List AV}{h0:bN}{rs:List qS}{ms:List Nat}(D:adU ops (ops.toList.zip rs) ms)(hlen:rs.length=ops.size) 
    (each:∀ (j:Nat) (o:Oper),ops.toList[j]? = some o→∃ r obs' q q',rs[j]? = some r∧aB obs' ∧
      FG C run ops n0 j o (de ((ops.toList.zip rs).take j) (T0,h0)).1 (de ((ops.toList.zip rs).take j) (T0,h0)).2 q=some (r,obs',q'))
    {ro:Option Nat} {nn:Nat} {Q:Exit→Act→World→Prop}:∀ (fuel:Nat) (listed:Array Bool),listed.size=ops.size→(∀ (j:Nat) (o:Oper),ops[j]? = some o→listed.getD j false=true→∀ e∈o.after,Region.binds .any e=true→listed.getD e.on false=true) →
      (List.range ops.size).countP (fun i=>!listed.getD i false)≤fuel→∀ {ρ:ac} {w:World} {a:Act},HR ρ w (oi (fun i=>listed.getD i false) 0 (ops.toList.zip rs) (T0,h0)).2 (n0+ops.size*rt) →
      (∀ b,ρ.ok b→b<n0∨∃ i,listed.getD i false=true∧n0+i*rt≤b∧b<n0+i*rt+rt)→cV ρ w (oi (fun i=>listed.getD i false) 0 (ops.toList.zip rs) (T0,h0)).1 a.tmps.toList →
      (∀ ρ' w' a',kI ρ ρ' w→iq ρ.live w w'→HR ρ' w' (de (ops.toList.zip rs) (T0,h0)).2 (n0+ops.size*rt)→a'.defers=a.defers→cV ρ' w' (de (ops.toList.zip rs) (T0,h0)).1 a'.tmps.toList→(∀ b,ρ'.ok b→ρ.ok b∨n0≤b)→Q .normal a' w') →
      wpAnyIn (FW ro) nn C.P .any ops Q fuel listed a w:=by
  have hzl:(ops.toList.zip rs).length=ops.size:=by simp [hlen]
  have zget:∀ (j:Nat) (o:Oper) (r:qS),ops[j]? = some o→rs[j]? = some r→(ops.toList.zip rs)[j]? = some (o,r):=by
    intro j o r h1 h2
    rw [List.getElem?_zip_eq_some];exact ⟨by simpa using h1,h2⟩
  have zinv:∀ (j:Nat) (x:Oper×qS),(ops.toList.zip rs)[j]? = some x→ops[j]? = some x.1∧rs[j]? = some x.2:=by
    intro j x hx
    have:=List.getElem?_zip_eq_some.1 (show (ops.toList.zip rs)[j]? = some (x.1,x.2) from hx)
    exact ⟨by simpa using this.1,this.2⟩

  have allL:∀ (listed:Array Bool),listed.size=ops.size→(∀ i,i<ops.size→listed.getD i false=true)→oi (fun i=>listed.getD i false) 0 (ops.toList.zip rs) (T0,h0)=de (ops.toList.zip rs) (T0,h0):=by
    intro listed hs hall
    have:∀ (l:List (Oper×qS)) (i:Nat) (s:List AV×bN),i+l.length≤ops.size→oi (fun i=>listed.getD i false) i l s=de l s:=by
      intro l
      induction l with
      | nil=>intro _ _ _;rfl
      | cons x l ih =>
        intro i s hi
        simp only [List.length_cons] at hi
        simp only [oi,de]
        rw [hall i (by omega)]
        exact ih (i+1) _ (by omega)
    exact this _ 0 _ (by rw [hzl];omega)

  have down:∀ (listed:Array Bool),(∀ (j:Nat) (o:Oper),ops[j]? = some o→listed.getD j false=true→∀ e∈o.after,Region.binds .any e=true→listed.getD e.on false=true) →
      ∀ (j:Nat) (o:Oper),ops[j]? = some o→(∀ e∈o.after,Region.binds .any e=true→listed.getD e.on false=true)→∀ (i m:Nat),ms[j]? = some m→m.testBit i=true→listed.getD i false=true:=by
    intro listed hcl j
    induction j using Nat.strongRecOn with
    | _ j ih =>
      intro o ho hpre i m hm hbit
      have hlt:j<ops.size:=(Array.getElem?_eq_some_iff.1 ho).1
      obtain ⟨r,hr⟩:∃ r,rs[j]? = some r:=⟨rs[j]'(by omega),List.getElem?_eq_getElem (by omega)⟩
      have hz:=zget j o r ho hr
      obtain ⟨m',k1,k2⟩:=D.mask j _ hz
      rw [hm] at k1;cases k1
      obtain ⟨e,e1,e2,e3⟩:=k2 i hbit
      have hL:=hpre e e1 e2
      rcases e3 with rfl | ⟨m'',q1,q2⟩
      · exact hL
      · have hej:=D.edge j _ hz e e1 e2
        have hon:e.on<ops.size:=by omega
        exact ih e.on hej _ (Array.getElem?_eq_getElem hon) (hcl e.on _ (Array.getElem?_eq_getElem hon) hL) i m'' q1 q2
  intro fuel
  induction fuel with
  | zero =>
    intro listed hs hcl hcnt ρ w a hh hok hT hQ
    have hall:∀ i,i<ops.size→listed.getD i false=true:=by
      intro i hi
      have h0:=List.countP_eq_zero.1 (Nat.le_zero.1 hcnt) i (List.mem_range.2 hi)
      simpa using h0
    simp only [wpAnyIn]
    refine ⟨?_,?_⟩
    · cases hr:Region.ready .any ops listed with
      | nil=>rfl
      | cons x xs =>
        have hx:x∈Region.ready .any ops listed:=by rw [hr];simp
        obtain ⟨k1,o,k2,_⟩:=mem_ready.1 hx
        have hlt:x<ops.size:=(Array.getElem?_eq_some_iff.1 k2).1
        have:=hall x hlt
        rw [Array.getD_eq_getD_getElem?,Array.getElem?_eq_getElem (by omega)] at this k1
        simp only [Option.getD_some] at this k1
        rw [this] at k1;cases k1
    · rw [allL listed hs hall] at hh hT
      exact hQ ρ w a (kI.refl _ _) (iq.refl _ _) hh rfl hT (fun b q=>.inl q)
  | succ fuel ih =>
    intro listed hs hcl hcnt ρ w a hh hok hT hQ
    simp only [wpAnyIn]
    have sameD:∀ j,j<ops.size→listed.getD j true=listed.getD j false:=by
      intro j hj
      rw [Array.getD_eq_getD_getElem?,Array.getD_eq_getD_getElem?,Array.getElem?_eq_getElem (by omega)];rfl
    refine ⟨fun hr=>?_,fun j hj=>?_⟩
    · have hall:∀ i,i<ops.size→listed.getD i false=true:=by
        intro i
        induction i using Nat.strongRecOn with
        | _ i ihi =>
          intro hi
          cases hl:listed.getD i false with
          | true=>rfl
          | false =>
            have ho:=Array.getElem?_eq_getElem hi
            obtain ⟨r,hrr⟩:∃ r,rs[i]? = some r:=⟨rs[i]'(by omega),List.getElem?_eq_getElem (by omega)⟩
            have hz:=zget i _ r ho hrr
            have:i∈Region.ready .any ops listed:=mem_ready.2 ⟨by rw [sameD i hi];exact hl,_,ho,fun e he hb=>ihi e.on (D.edge i _ hz e he hb) (by have:=D.edge i _ hz e he hb;omega)⟩
            rw [hr] at this;cases this
      rw [allL listed hs hall] at hh hT
      exact hQ ρ w a (kI.refl _ _) (iq.refl _ _) hh rfl hT (fun b q=>.inl q)
    · obtain ⟨k1,o,ho,hpre⟩:=mem_ready.1 hj
      have hlt:j<ops.size:=(Array.getElem?_eq_some_iff.1 ho).1
      rw [sameD j hlt] at k1
      obtain ⟨r,obs',q,q',hr,hob,hone⟩:=each j o (by simpa using ho)
      have hz:=zget j o r ho hr

      have agree:∀ (i:Nat) (x:Oper×qS),(ops.toList.zip rs)[i]? = some x→i≠j→oz ops x.1 x.2 o r=false→oz ops o r x.1 x.2=false→listed.getD i false=decide (i<j):=by
        intro i x hx hne n1 n2
        have hxi:=zinv i x hx
        rcases Nat.lt_or_gt_of_ne hne with hij | hij
        · rcases D.pair i j x (o,r) hx hz hij with ⟨m,hm,hb⟩ | hap
          · rw [down listed hcl j o ho hpre i m hm hb];simp [hij]
          · simp only at hap;rw [n1] at hap;cases hap
        · rcases D.pair j i (o,r) x hz hx hij with ⟨m,hm,hb⟩ | hap
          · have : ¬ i<j:=by omega
            simp only [this,decide_false]
            cases hl:listed.getD i false with
            | false=>rfl
            | true =>
              have:=down listed hcl i x.1 hxi.1 (hcl i x.1 hxi.1 hl) j m hm hb
              rw [k1] at this;cases this
          · simp only at hap;rw [n2] at hap;cases hap
      have napT:∀ (x:Oper×qS) (t:Nat),x.1.dst=some t→t∈mS ops o→oz ops x.1 x.2 o r=false∧oz ops o r x.1 x.2=false:=by
        intro x t hdst ht
        constructor
        · cases hap:oz ops x.1 x.2 o r with
          | false=>rfl
          | true=>simp only [oz,Bool.and_eq_true] at hap;exact (Ch hap.1 t (by simp [hdst]) ht).elim
        · cases hap:oz ops o r x.1 x.2 with
          | false=>rfl
          | true=>simp only [oz,Bool.and_eq_true] at hap;exact (Ch hap.2.1 t (by simp [hdst]) ht).elim
      have napH:∀ (x:Oper×qS) (b:Nat),b∈jE x.2.sets→b∈r.reads++jE r.sets→oz ops x.1 x.2 o r=false∧oz ops o r x.1 x.2=false:=by
        intro x b hx hb
        constructor
        · cases hap:oz ops x.1 x.2 o r with
          | false=>rfl
          | true=>simp only [oz,Bool.and_eq_true] at hap;exact (Ch hap.2.2.1 b hx hb).elim
        · cases hap:oz ops o r x.1 x.2 with
          | false=>rfl
          | true=>simp only [oz,Bool.and_eq_true] at hap;exact (Ch hap.2.2.2 b hx hb).elim
      have eqT:∀ t∈mS ops o,(oi (fun i=>listed.getD i false) 0 (ops.toList.zip rs) (T0,h0)).1[t]? = (de ((ops.toList.zip rs).take j) (T0,h0)).1[t]?:=by
        intro t ht
        have:=KU (ops.toList.zip rs) 0 j (T0,h0)
        rw [←this]
        refine RO _ 0 (fun k x hx hdst=>?_) rfl
        rw [Nat.zero_add,Nat.zero_add]
        by_cases hkj:k=j
        · subst hkj;rw [k1];simp
        · obtain ⟨n1,n2⟩:=napT x t hdst ht;exact agree k x hx hkj n1 n2
      have eqH:∀ b∈r.reads++jE r.sets,be (oi (fun i=>listed.getD i false) 0 (ops.toList.zip rs) (T0,h0)).2 b=be (de ((ops.toList.zip rs).take j) (T0,h0)).2 b:=by
        intro b hb
        have:=KU (ops.toList.zip rs) 0 j (T0,h0)
        rw [←this]
        refine RP _ 0 (fun k x hx eY=>?_) rfl
        rw [Nat.zero_add,Nat.zero_add]
        by_cases hkj:k=j
        · subst hkj;rw [k1];simp
        · obtain ⟨n1,n2⟩:=napH x b eY hb;exact agree k x hx hkj n1 n2
      have hloc:=Uv hone eqT (fun b hb=>eqH b (by simp [hb]))

      have L'eq:∀ i,(listed.setIfInBounds j true).getD i false=if i=j then true else listed.getD i false:=by
        intro i
        by_cases hij:i=j
        · subst hij;rw [if_pos rfl,Array.getD_eq_getD_getElem?];simp [hs,hlt]
        · rw [if_neg hij];exact getD_set_ne false (fun e=>hij e.symm)
      have step1:=KU (ops.toList.zip rs) 0 (j+1) (T0,h0)
      have hsplit:de ((ops.toList.zip rs).take (j+1)) (T0,h0)=(Ec (de ((ops.toList.zip rs).take j) (T0,h0)).1 o.dst r.v,cS r.sets (de ((ops.toList.zip rs).take j) (T0,h0)).2):=by
        have hjl:j<(ops.toList.zip rs).length:=by rw [hzl];exact hlt
        have:(ops.toList.zip rs).take (j+1)=(ops.toList.zip rs).take j++[(o,r)]:=by
          rw [List.take_succ_eq_append_getElem hjl]
          have:=List.getElem?_eq_getElem hjl
          rw [hz] at this
          rw [←Option.some.inj this]
        rw [this,LI];rfl
      have newT:∀ t:Nat,(Ec (oi (fun i=>listed.getD i false) 0 (ops.toList.zip rs) (T0,h0)).1 o.dst r.v)[t]? = (oi (fun i=>(listed.setIfInBounds j true).getD i false) 0 (ops.toList.zip rs) (T0,h0)).1[t]?:=by
        intro t
        rw [FJ]
        by_cases hdst:o.dst=some t
        · rw [if_pos hdst]
          have e1:=eqT t (by simp [mS,hdst])
          rw [e1]
          have e2:(oi (fun i=>(listed.setIfInBounds j true).getD i false) 0 (ops.toList.zip rs) (T0,h0)).1[t]? = (de ((ops.toList.zip rs).take (j+1)) (T0,h0)).1[t]?:=by
            rw [←step1]
            refine RO _ 0 (fun k x hx hd2=>?_) rfl
            rw [Nat.zero_add,Nat.zero_add,L'eq]
            by_cases hkj:k=j
            · subst hkj;simp
            · rw [if_neg hkj]
              obtain ⟨n1,n2⟩:=napT x t hd2 (by simp [mS,hdst])
              rw [agree k x hx hkj n1 n2]
              by_cases q:k<j<;>simp [q]<;>omega
          rw [e2,hsplit,FJ,if_pos hdst]
        · rw [if_neg hdst]
          refine RO _ 0 (fun k x hx hd2=>?_) rfl
          rw [Nat.zero_add,L'eq]
          by_cases hkj:k=j
          · subst hkj;rw [hz] at hx;cases hx;exact absurd hd2 hdst
          · rw [if_neg hkj]
      have newH:∀ b:Nat,be (oi (fun i=>(listed.setIfInBounds j true).getD i false) 0 (ops.toList.zip rs) (T0,h0)).2 b=be (cS r.sets (oi (fun i=>listed.getD i false) 0 (ops.toList.zip rs) (T0,h0)).2) b:=by
        intro b
        by_cases hb:b∈jE r.sets
        · rw [qU (h:=(oi (fun i=>listed.getD i false) 0 (ops.toList.zip rs) (T0,h0)).2) (h':=(de ((ops.toList.zip rs).take j) (T0,h0)).2) r.sets (eqH b (by simp [hb]))]
          have e2:be (oi (fun i=>(listed.setIfInBounds j true).getD i false) 0 (ops.toList.zip rs) (T0,h0)).2 b=be (de ((ops.toList.zip rs).take (j+1)) (T0,h0)).2 b:=by
            rw [←step1]
            refine RP _ 0 (fun k x hx hd2=>?_) rfl
            rw [Nat.zero_add,Nat.zero_add,L'eq]
            by_cases hkj:k=j
            · subst hkj;simp
            · rw [if_neg hkj]
              obtain ⟨n1,n2⟩:=napH x b hd2 (by simp [hb])
              rw [agree k x hx hkj n1 n2]
              by_cases q:k<j<;>simp [q]<;>omega
          rw [e2,hsplit]
        · rw [qV _ hb]
          refine RP _ 0 (fun k x hx hd2=>?_) rfl
          rw [Nat.zero_add,L'eq]
          by_cases hkj:k=j
          · subst hkj;rw [hz] at hx;cases hx;exact absurd hd2 hb
          · rw [if_neg hkj]
      have hS:j*rt+rt≤ops.size*rt:=by rw [←Nat.succ_mul];exact Nat.mul_le_mul_right _ hlt
      refine Jd hC hrun ho hloc hob hh (fun x h1 h2 hbad=>?_) (by omega) hT ?_
      · rcases hok _ hbad with q | ⟨i,q1,q2,q3⟩
        · omega
        · have:i=j:=afN (y:=x-n0) (by omega) (by omega) (by omega) (by omega)
          subst this;rw [k1] at q1;cases q1
      intro ρ' w' a' E W hh' hd' hT' hok'
      have hlist:Ec (oi (fun i=>listed.getD i false) 0 (ops.toList.zip rs) (T0,h0)).1 o.dst r.v=(oi (fun i=>(listed.setIfInBounds j true).getD i false) 0 (ops.toList.zip rs) (T0,h0)).1:=List.ext_getElem? newT
      rw [hlist] at hT'
      refine ih (listed.setIfInBounds j true) (by simpa using hs) (fun i x hx hl e he hb=>?_) ?_ (hh'.congr newH) (fun b hb=>?_) hT' ?_
      · rw [L'eq] at hl ⊢
        by_cases hij:i=j
        · subst hij
          rw [ho] at hx;cases hx
          split
          · rfl
          · exact hpre e he hb
        · rw [if_neg hij] at hl
          split
          · rfl
          · exact hcl i x hx hl e he hb
      · have:=Qf (l:=List.range ops.size) (j:=j) (p:=fun i=>!listed.getD i false) (q:=fun i=>!(listed.setIfInBounds j true).getD i false) (List.mem_range.2 hlt) (by simp only [k1];rfl) (by simp only [L'eq,if_true];rfl)
          (fun i hi=>by
            simp only [L'eq] at hi ⊢
            split at hi
            · cases hi
            · exact hi)
        omega
      · rcases hok' b hb with q | q
        · rcases hok b q with q | ⟨i,q1,q2⟩
          · exact .inl q
          · refine .inr ⟨i,?_,q2⟩
            rw [L'eq];split
            · rfl
            · exact q1
        · exact .inr ⟨j,by rw [L'eq,if_pos rfl],q⟩
      · intro ρ'' w'' a'' E' W' hh'' hd'' hT'' hb''
        exact hQ ρ'' w'' a'' (E.trans E' W.size) (W.trans W' (fun x hx q=>E.new x hx q)) hh'' (hd''.trans hd') hT'' (fun b q=>by
          rcases hb'' b q with q | q
          · rcases hok' b q with q | q
            · exact .inl q
            · exact .inr (by omega)
          · exact .inr q)
theorem vJ{d:aD}(h:d.kept=true) :d.foreign=true:=by
  cases d<;>first | rfl | exact gM h
mutual
def Qg (g:Nat→Option aD):Nat→AV→AV
  | 0,_=>.any
  | n+1,v =>
    match v with
    | .ptr b w i j=>match g b with
      | some d=>let d':=AX g n d;bif d'.kept then .iptr .free d' w i j else .any
      | none=>.any
    | .sl b w es i len _=>match g b with
      | some d=>let d':=AX g n d;bif d'.kept then .imm .free d' w es i len else .any
      | none=>.any
    | .fn f l1 l2=>.fn f (LS g n l1) (LS g n l2)
    | .agg l=>.agg (LS g n l)
    | .tup l=>.tup (LS g n l)
    | .iface t v=>.iface t (Qg g n v)
    | .yld _=>.any
    | v=>v
def LS (g:Nat→Option aD):Nat→List AV→List AV
  | 0,l=>l.map fun _=>.any
  | n+1,l =>
    match l with
    | []=>[]
    | v::l=>Qg g n v::LS g n l
def AX (g:Nat→Option aD):Nat→aD→aD
  | 0,_=>.vs []
  | n+1,d =>
    match d with
    | .vs l=>.vs (LS g n l)
    | d=>d
end
theorem LU(g:Nat→Option aD)(n:Nat)(d:aD)(h:d.recKept) :(AX g n d).recKept:=by
  cases n with
  | zero=>trivial
  | succ n=>cases d<;>first | exact h | trivial
structure acu (ρ τ:ac):Prop where
  out:τ.out=ρ.out
  live:∀ bl,τ.live bl→ρ.live bl
theorem acu.avoid{ρ τ:ac}(L:acu ρ τ){l:Lv}{bl:Nat}(h:ρ.avoid l bl) :τ.avoid l bl:=by
  refine xp (d:=0) (fun j _ q=>?_) h
  cases j with
  | zero=>exact L.live bl q
  | succ j=>simp only [Nat.add_zero,ac.own] at q ⊢;rw [L.out] at q;exact q
theorem ff{ρ τ:ac}(L:acu ρ τ){w:World}{v:AV}{u:Value}(h:VR ρ w v u) :v.foreign=true→VR τ w v u:=by
  induction h using VR.rec (motive_2:=fun l c _=>bR l=true→cV τ w l c) with
  | int k n=>exact fun _=>.int k n
  | bool kn b=>exact fun _=>.bool kn b
  | flt ex x y h=>exact fun _=>.flt ex x y h
  | str s=>exact fun _=>.str s
  | nptr=>exact fun _=>.nptr
  | ptr b k i j hb=>intro hk;simp [AV.foreign] at hk
  | iptr bw d k i j bl o u ha hb hc hv hr hk hg ih=>exact fun _=>.iptr bw d k i j bl o u (L.avoid ha) hb hc (fun x v hx=>ih x v hx (aU hr hg x v hx)) hr hk hg
  | nsl=>exact fun _=>.nsl
  | esl a=>exact fun _=>.esl a
  | zsl a c=>exact fun _=>.zsl a c
  | nan n h=>exact fun _=>.nan n h
  | sl b k es i len cap cap' hb hcap hl c t hh hs=>intro hk;simp [AV.foreign] at hk
  | slEnd b k es i a=>intro hk;simp [AV.foreign] at hk
  | imm bw d k es i len cap bl o u ha hb hc hv hl hr hk hg ih=>exact fun _=>.imm bw d k es i len cap bl o u (L.avoid ha) hb hc (fun x v hx=>ih x v hx (aU hr hg x v hx)) hl hr hk hg
  | immEnd bw d k es i cap a hr hk hg=>exact fun _=>.immEnd bw d k es i cap a hr hk hg
  | fn f l1 l2 c1 c2 h1 h2 i1 i2=>intro hk;simp only [AV.foreign,Bool.and_eq_true] at hk;exact .fn f l1 l2 c1 c2 (i1 hk.1) (i2 hk.2)
  | nfn=>exact fun _=>.nfn
  | gmap ks vs bl es cl u ha hb hh hin hex hv hl hk ih=>exact fun _=>.gmap ks vs bl es cl u (L.avoid ha) hb hh hin hex (fun x v hx=>ih x v hx (gS (nX hk x v hx))) hl hk
  | gvar c bl t fr ha hb hh=>exact fun _=>.gvar c bl t fr (L.avoid ha) hb hh
  | agg l c h ih=>intro hk;exact .agg l c (ih hk)
  | tup l c h ih=>intro hk;exact .tup l c (ih hk)
  | iface t v u h ih=>intro hk;exact .iface t v u (ih hk)
  | niface=>exact fun _=>.niface
  | yld b L h=>intro hk;simp [AV.foreign] at hk
  | any u=>exact fun _=>.any u
  | nil=>exact cV.nil
  | cons v u l c h t i1 i2=>rename_i hk;simp only [bR,Bool.and_eq_true] at hk;exact cV.cons v u l c (i1 hk.1) (i2 hk.2)
mutual
theorem RS {ρ τ:ac} (L:acu ρ τ) {w:World} {h:bN} {m:Nat} (hh:HR ρ w h m) (off:∀ b d,be h b=some d→ρ.ok b→¬ τ.live (ρ.at_ b)):∀ (n:Nat) {v:AV} {u:Value},VR ρ w v u→VR τ w (Qg (be h) n v) u
  | 0,v,u,hv=>.any u
  | n + 1, v, u, hv => by
    have free:∀ (b:Nat) (d:aD),be h b=some d→ρ.ok b→τ.avoid .free (ρ.at_ b):=by
      intro b d hd hok j _
      cases j with
      | zero=>exact off b d hd hok
      | succ j=>simp only [ac.own];rw [L.out];exact hh.fresh _ (hh.real hd hok).1 j
    have content:∀ (b:Nat) (d:aD),be h b=some d→ρ.ok b→∀ x v,(AX (be h) n d).cell? x=some v→w.cell? ⟨ρ.at_ b,0+x,none⟩=some ((w.cell? ⟨ρ.at_ b,x,none⟩).getD undef)∧VR τ w v ((w.cell? ⟨ρ.at_ b,x,none⟩).getD undef):=by
      intro b d hd hok x v hx
      obtain ⟨_,hrk,c,t,hc,hcv⟩:=hh.real hd hok
      obtain ⟨u,q1,q2⟩:=Uw L hh off n (ρ.at_ b) (fun x v hx=>by
        obtain ⟨u,k1,k2⟩:=hcv x v hx
        exact ⟨u,by simp [World.cell?,hc,k1],k2⟩) hrk x v hx
      rw [Nat.zero_add,q1];exact ⟨rfl,q2⟩
    cases v with
    | ptr b k i j =>
      simp only [Qg]
      split
      · rename_i d hd
        have hrk:=hh.rk hd
        cases hk:(AX (be h) n d).kept with
        | false=>exact .any _
        | true =>
          simp only [cond_true]
          cases hv with | ptr _ _ _ _ hb =>
          have:=VR.iptr (ρ:=τ) (w:=w) .free (AX (be h) n d) k i j (ρ.at_ b) 0 (fun x=>(w.cell? ⟨ρ.at_ b,x,none⟩).getD undef) (free b d hd hb) (hh.liveLt _ (hh.real hd hb).1)
            (fun x v hx=>(content b d hd hb x v hx).1) (fun x v hx=>(content b d hd hb x v hx).2) (LU _ _ _ hrk) (fun _=>hk) (vJ hk)
          simpa using this
      · exact .any _
    | sl b k es i len cap =>
      simp only [Qg]
      split
      · rename_i d hd
        have hrk:=hh.rk hd
        cases hk:(AX (be h) n d).kept with
        | false=>exact .any _
        | true =>
          simp only [cond_true]
          cases hv with
          | sl _ _ _ _ _ _ cap' hb hcap hl' c t hh' hs =>
            have:=VR.imm (ρ:=τ) (w:=w) .free (AX (be h) n d) k es i len cap' (ρ.at_ b) 0 (fun x=>(w.cell? ⟨ρ.at_ b,x,none⟩).getD undef) (free b d hd hb) (hh.liveLt _ (hh.real hd hb).1)
              (fun x v hx=>(content b d hd hb x v hx).1) (fun x v hx=>(content b d hd hb x v hx).2) (by omega) (LU _ _ _ hrk) (fun _=>hk) (vJ hk)
            simpa using this
          | slEnd=>exact .immEnd _ _ _ _ _ _ _ (LU _ _ _ hrk) (fun _=>hk) (vJ hk)
      · exact .any _
    | fn f l1 l2=>cases hv with | fn _ _ _ _ _ h1 h2=>exact .fn _ _ _ _ _ (tA L hh off n h1) (tA L hh off n h2)
    | agg l=>cases hv with | agg _ _ h1=>exact .agg _ _ (tA L hh off n h1)
    | tup l=>cases hv with | tup _ _ h1=>exact .tup _ _ (tA L hh off n h1)
    | iface t v=>cases hv with | iface _ _ _ h1=>exact .iface _ _ _ (RS L hh off n h1)
    | int=>exact ff L hv rfl
    | bool=>exact ff L hv rfl
    | flt=>exact ff L hv rfl
    | str=>exact ff L hv rfl
    | nptr=>exact ff L hv rfl
    | iptr=>exact ff L hv rfl
    | nsl=>exact ff L hv rfl
    | esl=>exact ff L hv rfl
    | zsl=>exact ff L hv rfl
    | nan=>exact ff L hv rfl
    | imm=>exact ff L hv rfl
    | nfn=>exact ff L hv rfl
    | gmap=>exact ff L hv rfl
    | gvar=>exact ff L hv rfl
    | niface=>exact ff L hv rfl
    | yld=>exact .any _
    | any=>exact .any _
theorem tA {ρ τ:ac} (L:acu ρ τ) {w:World} {h:bN} {m:Nat} (hh:HR ρ w h m) (off:∀ b d,be h b=some d→ρ.ok b→¬ τ.live (ρ.at_ b)):∀ (n:Nat) {l:List AV} {c:List Value},cV ρ w l c→cV τ w (LS (be h) n l) c
  | 0,[],c,hv=>by cases hv;exact .nil
  | 0,v::l,c,hv=>by
    cases hv with | cons _ u _ c' h1 h2 =>
    have:=tA L hh off 0 h2
    exact .cons _ _ _ _ (.any u) this
  | n+1,[],c,hv=>by cases hv;exact .nil
  | n+1,v::l,c,hv=>by
    cases hv with | cons _ u _ c' h1 h2=>exact .cons _ _ _ _ (RS L hh off n h1) (tA L hh off n h2)
theorem Uw {ρ τ:ac} (L:acu ρ τ) {w:World} {h:bN} {m:Nat} (hh:HR ρ w h m) (off:∀ b d,be h b=some d→ρ.ok b→¬ τ.live (ρ.at_ b)):∀ (n:Nat) (bl:Nat) {d:aD},(∀ x v,d.cell? x=some v→∃ u,w.cell? ⟨bl,x,none⟩=some u∧VR ρ w v u)→d.recKept →
    ∀ x v,(AX (be h) n d).cell? x=some v→∃ u,w.cell? ⟨bl,x,none⟩=some u∧VR τ w v u
  | 0,bl,d,hc,hr,x,v,hx=>by simp [AX,aD.cell?] at hx
  | n + 1, bl, d, hc, hr, x, v, hx => by
    cases d with
    | vs l =>
      simp only [AX,aD.cell?] at hx
      have hus:cV ρ w l ((List.range l.length).map fun x=>(w.cell? ⟨bl,x,none⟩).getD undef):=by
        refine tq (by simp) fun y v u q1 q2=>?_
        obtain ⟨u',k1,k2⟩:=hc y v q1
        have hlt:y<l.length:=(List.getElem?_eq_some_iff.1 q1).1
        rw [List.getElem?_map,List.getElem?_range hlt] at q2
        simp [k1] at q2;subst q2;exact k2
      have hr2:=tA L hh off n hus
      obtain ⟨u,q1,q2⟩:=hr2.get x v hx
      rw [List.getElem?_map] at q1
      have hlt:x<l.length:=by
        rcases Nat.lt_or_ge x l.length with q | q
        · exact q
        · rw [List.getElem?_eq_none (by simpa using q)] at q1;cases q1
      rw [List.getElem?_range hlt] at q1
      obtain ⟨u',k1,_⟩:=hc x (l[x]) (List.getElem?_eq_getElem hlt)
      simp [k1] at q1;subst q1
      exact ⟨u',k1,q2⟩
    | fl xs=>obtain ⟨u,q1,q2⟩:=hc x v hx;exact ⟨u,q1,ff L q2 (aU (d:=.fl xs) hr rfl x v hx)⟩
    | ns k xs=>obtain ⟨u,q1,q2⟩:=hc x v hx;exact ⟨u,q1,ff L q2 (aU (d:=.ns k xs) hr rfl x v hx)⟩
    | bs xs=>obtain ⟨u,q1,q2⟩:=hc x v hx;exact ⟨u,q1,ff L q2 (aU (d:=.bs xs) hr rfl x v hx)⟩
    | ss xs=>obtain ⟨u,q1,q2⟩:=hc x v hx;exact ⟨u,q1,ff L q2 (aU (d:=.ss xs) hr rfl x v hx)⟩
    | rows k m get=>obtain ⟨u,q1,q2⟩:=hc x v hx;exact ⟨u,q1,ff L q2 (aU (d:=.rows k m get) hr rfl x v hx)⟩
    | cols k cs=>obtain ⟨u,q1,q2⟩:=hc x v hx;exact ⟨u,q1,ff L q2 (aU (d:=.cols k cs) hr rfl x v hx)⟩
end
mutual
def Ux (σ:Nat→Option Nat):AV→AV
  | .ptr b w i j=>match σ b with | some c=>.ptr c w i j | none=>.any
  | .sl b w es i len cap=>match σ b with | some c=>.sl c w es i len cap | none=>.any
  | .fn f l1 l2=>.fn f (nmL σ l1) (nmL σ l2)
  | .agg l=>.agg (nmL σ l)
  | .tup l=>.tup (nmL σ l)
  | .iface t v=>.iface t (Ux σ v)
  | v=>v
def nmL (σ:Nat→Option Nat):List AV→List AV
  | []=>[]
  | v::l=>Ux σ v::nmL σ l
end
def ac.renamed(ρ:ac)(keep:List Nat) :ac :=
  { at_:=fun i=>ρ.at_ ((keep[i]?).getD 0),live:=ρ.live,out:=ρ.out,ok:=fun i=>∃ b,keep[i]? = some b∧ρ.ok b,pin:=ρ.pin }
mutual
theorem Qh {ρ:ac} {keep:List Nat} {w:World}:∀ (v:AV) {u:Value},VR ρ w v u→VR (ρ.renamed keep) w (Ux (jB keep 0) v) u
  | .ptr b k i j,u,h=>by
    simp only [Ux]
    split
    · rename_i c hc
      cases h with | ptr _ _ _ _ hb =>
      obtain ⟨_,hg⟩:=wJ hc
      rw [Nat.sub_zero] at hg
      have:(ρ.renamed keep).at_ c=ρ.at_ b:=by simp [ac.renamed,hg]
      rw [←this];exact .ptr _ _ _ _ ⟨b,hg,hb⟩
    · exact .any u
  | .sl b k es i len cap,u,h=>by
    simp only [Ux]
    split
    · rename_i c hc
      obtain ⟨_,hg⟩:=wJ hc
      rw [Nat.sub_zero] at hg
      have e:(ρ.renamed keep).at_ c=ρ.at_ b:=by simp [ac.renamed,hg]
      cases h with
      | sl _ _ _ _ _ _ cap' hb hcap hl ce t hh hs=>rw [←e] at hh ⊢;exact .sl _ _ _ _ _ _ _ ⟨b,hg,hb⟩ hcap hl ce t hh hs
      | slEnd=>exact .slEnd _ _ _ _ _
    · exact .any u
  | .fn f l1 l2,u,h=>by cases h with | fn _ _ _ _ _ h1 h2=>exact .fn _ _ _ _ _ (Hp l1 h1) (Hp l2 h2)
  | .agg l,u,h=>by cases h with | agg _ _ h1=>exact .agg _ _ (Hp l h1)
  | .tup l,u,h=>by cases h with | tup _ _ h1=>exact .tup _ _ (Hp l h1)
  | .iface t v,u,h=>by cases h with | iface _ _ _ h1=>exact .iface _ _ _ (Qh v h1)
  | .int ..,u,h=>fg h rfl
  | .bool ..,u,h=>fg h rfl
  | .flt ..,u,h=>fg h rfl
  | .str ..,u,h=>fg h rfl
  | .nptr,u,h=>fg h rfl
  | .iptr ..,u,h=>fg h rfl
  | .nsl,u,h=>fg h rfl
  | .esl,u,h=>fg h rfl
  | .zsl _,u,h=>fg h rfl
  | .nan,u,h=>fg h rfl
  | .imm ..,u,h=>fg h rfl
  | .nfn,u,h=>fg h rfl
  | .gmap ..,u,h=>fg h rfl
  | .gvar _,u,h=>fg h rfl
  | .niface,u,h=>fg h rfl
  | .yld _,u,h=>by cases h with | yld _ L h=>exact .yld _ L h
  | .any,u,h=>.any u
theorem Hp {ρ:ac} {keep:List Nat} {w:World}:∀ (l:List AV) {c:List Value},cV ρ w l c→cV (ρ.renamed keep) w (nmL (jB keep 0) l) c
  | [],c,h=>by cases h;exact .nil
  | v::l,c,h=>by cases h with | cons _ u _ c' h1 h2=>exact .cons _ _ _ _ (Qh v h1) (Hp l h2)
theorem fg {ρ:ac} {keep:List Nat} {w:World} {v:AV} {u:Value} (h:VR ρ w v u) (hf:v.foreign=true):VR (ρ.renamed keep) w v u :=
  ff (ρ:=ρ) (τ:=ρ.renamed keep) ⟨rfl,fun _ q=>q⟩ h hf
end
theorem ke.renamed{ρ:ac}{keep:List Nat}{w:World} :∀ {ds:List Deferred},ke ρ w ds→ke (ρ.renamed keep) w ds
  | [],h=>h
  | d::ds,⟨h1,h⟩=>⟨h1,ke.renamed h⟩
def reB(σ:Nat→Option Nat) :aD→aD
  | .vs l=>.vs (nmL σ l)
  | d=>d
theorem RT(σ:Nat→Option Nat) :∀ (l:List AV) (x:Nat),(nmL σ l)[x]? = (l[x]?).map (Ux σ)
  | [],x=>by simp [nmL]
  | v::l,0=>by simp [nmL]
  | v::l,x+1=>by simp [nmL,RT σ l x]
theorem adW{σ:Nat→Option Nat}{d:aD}(h:d.recKept) :(reB σ d).recKept:=by
  cases d<;>first | exact h | trivial
theorem Uy{σ:Nat→Option Nat}{d:aD}{x:Nat}{v:AV}(h:(reB σ d).cell? x=some v)(hr:d.recKept) :∃ v',d.cell? x=some v'∧(v=Ux σ v'∨(v=v'∧v.foreign=true)):=by
  cases d with
  | vs l =>
    simp only [reB,aD.cell?,RT,Option.map_eq_some_iff] at h
    obtain ⟨v',h1,rfl⟩:=h
    exact ⟨v',h1,.inl rfl⟩
  | fl xs=>exact ⟨v,h,.inr ⟨rfl,aU (d:=.fl xs) hr rfl x v h⟩⟩
  | ns k xs=>exact ⟨v,h,.inr ⟨rfl,aU (d:=.ns k xs) hr rfl x v h⟩⟩
  | bs xs=>exact ⟨v,h,.inr ⟨rfl,aU (d:=.bs xs) hr rfl x v h⟩⟩
  | ss xs=>exact ⟨v,h,.inr ⟨rfl,aU (d:=.ss xs) hr rfl x v h⟩⟩
  | rows k m get=>exact ⟨v,h,.inr ⟨rfl,aU (d:=.rows k m get) hr rfl x v h⟩⟩
  | cols m cs=>exact ⟨v,h,.inr ⟨rfl,aU (d:=.cols m cs) hr rfl x v h⟩⟩
def aa9(k:Nat)(R:List Nat) :List Nat:=List.range k++R.filter fun b=>Nat.ble k b
theorem acv{k i:Nat}{R:List Nat}(h:i<k) :(aa9 k R)[i]? = some i:=by
  unfold aa9
  rw [List.getElem?_append_left (by simpa using h),List.getElem?_range h]
def rv(σ:Nat→Option Nat)(h:bN) :List Nat→List (Option aD)
  | []=>[]
  | b::l=>(be h b).map (reB σ)::rv σ h l
theorem sM(σ:Nat→Option Nat)(h:bN) :∀ (l:List Nat) (i:Nat),(rv σ h l)[i]? = (l[i]?).map fun b=>(be h b).map (reB σ)
  | [],i=>by simp [rv]
  | b::l,0=>by simp [rv]
  | b::l,i+1=>by simp [rv,sM σ h l i]
theorem se(σ:Nat→Option Nat)(h:bN) :∀ (l:List Nat),(rv σ h l).length=l.length
  | []=>rfl
  | b::l=>by simp [rv,se σ h l]
def LV(k:Nat)(keep:Bool)(h:bN)(v:AV) :Option ir :=
  match keep,k with
  | true,0=>some ⟨Qg (be h) iE v,[]⟩
  | _,_ =>
    let L:=aa9 k (mI (be h) iE (List.range k++RI v) [])
    bif vF L then some ⟨Ux (jB L 0) v,rv (jB L 0) h L⟩ else none
theorem Uz{ρ ρ0:ac}{w0 w:World}{h:bN}{m:Nat}{lent:List aD}{keep:Bool}(hh:HR ρ w h m)(hN:iI ρ0 w0 lent)(E:kI ρ0 ρ w0)(hbk:∀ i,i<lent.length→ρ.ok i→ρ0.ok i)(W:w0.heap.size≤w.heap.size){v:AV}{u:Value}(hv:VR ρ w v u){r:ir} 
    (hr:LV lent.length keep h v=some r):r.Holds ρ0 w0 w lent.length u:=by
  unfold LV at hr
  split at hr
  · rename_i k hk
    cases hr
    have none_ok:∀ b,¬ ρ0.ok b:=fun b q=>by have:=hN.heap.lt b q;omega
    have none_live:∀ bl,¬ ρ0.live bl:=fun bl q=>by obtain ⟨i,h1,_⟩:=hN.only bl q;exact none_ok i h1
    refine ⟨ρ0,kI.refl _ _,fun i h=>by omega,⟨fun b d q=>?_,fun b c d e q=>?_,fun bl q=>(none_live bl q).elim,fun bl q=>(none_live bl q).elim,fun j bl q=>?_,fun b q=>(none_ok b q).elim,fun x hx=>ff (τ:=ρ0) ⟨E.out.symm,fun bl q=>(none_live bl q).elim⟩ (hh.rom x hx) (gS (Rom.kept x hx))⟩,?_⟩
    · simp [eR,fb,dA] at q
    · simp [eR,fb,dA] at q
    · exact Nat.lt_of_lt_of_le (hN.heap.outLt j bl q) W
    · exact RS (τ:=ρ0) ⟨E.out.symm,fun bl q=>(none_live bl q).elim⟩ hh (fun _ _ _ _ q=>none_live _ q) iE hv
  · simp only at hr
    generalize hL:aa9 lent.length (mI (be h) iE (List.range lent.length++RI v) [])=L at hr
    cases hn:vF L with
    | false=>rw [hn] at hr;cases hr
    | true =>
    rw [hn] at hr
    simp only [cond_true,Option.some.injEq] at hr;subst hr
    have idL:∀ {i:Nat},i<lent.length→L[i]? = some i:=fun q=>by rw [←hL];exact acv q
    have atL:∀ {i b:Nat},L[i]? = some b→(ρ.renamed L).at_ i=ρ.at_ b:=fun q=>by simp [ac.renamed,q]
    refine ⟨ρ.renamed L,⟨fun b q=>?_,fun b q=>?_,E.live,E.new,E.out,E.pin⟩,fun i hi q=>?_,⟨fun i d q=>?_,fun i j d e q1 q2 ok1 ok2 he=>?_,hh.fresh,hh.liveLt,hh.outLt,fun i q=>?_,fun x hx=>fg (hh.rom x hx) (gS (Rom.kept x hx))⟩,Qh v hv⟩
    · rw [atL (idL (hN.heap.lt b q))];exact E.at_ b q
    · exact ⟨b,idL (hN.heap.lt b q),E.ok b q⟩
    · obtain ⟨b,h1,h2⟩:=q
      rw [idL hi] at h1;cases h1
      exact hbk i hi h2
    · have q:=kC q
      simp only at q
      rw [sM,Option.map_eq_some_iff] at q
      obtain ⟨b,h1,h2⟩:=q
      rw [Option.map_eq_some_iff] at h2
      obtain ⟨d0,h3,rfl⟩:=h2
      rcases hh.cell b d0 h3 with ⟨k1,k2,hr,c,t,r1,r2⟩ | ⟨k1,k2,k3,k4⟩
      · refine .inl ⟨⟨b,h1,k1⟩,by rw [atL h1];exact k2,adW hr,c,t,by rw [atL h1];exact r1,fun x v hx=>?_⟩
        obtain ⟨v',s1,s2⟩:=Uy hx hr
        obtain ⟨u,t1,t2⟩:=r2 x v' s1
        refine ⟨u,t1,?_⟩
        rcases s2 with rfl | ⟨rfl,hf⟩
        · exact Qh v' t2
        · exact fg t2 hf
      · refine .inr ⟨?_,?_,adW k3,fun x=>?_⟩
        · rintro ⟨b',q1,q2⟩
          rw [h1] at q1;cases q1
          exact k1 q2
        · rw [se];exact (List.getElem?_eq_some_iff.1 h1).1
        · cases hc:(reB (jB L 0) d0).cell? x with
          | none=>rfl
          | some v=>obtain ⟨v',s1,_⟩:=Uy hc k3;rw [k4 x] at s1;cases s1
    · obtain ⟨b,r1,r2⟩:=ok1
      obtain ⟨c,r3,r4⟩:=ok2
      have q1:=kC q1
      have q2:=kC q2
      simp only at q1 q2
      rw [sM,r1] at q1
      rw [sM,r3] at q2
      simp only [Option.map_some,Option.some.injEq,Option.map_eq_some_iff] at q1 q2
      obtain ⟨d1,s1,_⟩:=q1
      obtain ⟨d2,s2,_⟩:=q2
      rw [atL r1,atL r3] at he
      have:=hh.inj b c d1 d2 s1 s2 r2 r4 he
      subst this
      exact tu hn r1 r3
    · obtain ⟨b,r1,_⟩:=q
      simp only [se]
      exact (List.getElem?_eq_some_iff.1 r1).1
inductive AE where
  | normal
  | ret
  | exit (id:Nat)
def AE.real:AE→Exit
  | .normal=>.normal
  | .ret=>.ret
  | .exit id=>.exit id
abbrev Res:=Option (AE×aC×List Bool×eF)
abbrev xK:=Code→aC→eF→Res
def gi:Code→Bool
  | .rangeFunc .. | .scope _=>false
  | .seq a b | .cond _ a b=>gi a&&gi b
  | .block _ a | .loop a=>gi a
  | _=>true
def AY(y:Option YI) :List qS→Bool
  | []=>true
  | r::l=>tx y r.sets&&AY y l
def Hq(C:uv)(run:eX)(y:Option YI)(yr:acs)(ops:Array Oper)(draw:Bool)(st:aC)(p:eF) :Res :=
  match draw with
  | false =>
    match Hl C run y yr ops st.next 0 ops.toList st.tmps st.heap (st.next+ops.size*rt) p with
    | some (T,h,nx,obs,p')=>some (.normal,⟨T,h,nx⟩,obs,p')
    | none=>none
  | true =>
    match LR C run ops st.next 0 ops.toList st.tmps st.heap p with
    | some (rs,T,h,obs,p')=>bif FK ops rs&&AY y rs then some (.normal,⟨T,h,st.next+ops.size*rt⟩,obs,p') else none
    | none=>none
def tB(T:List AV)(c:Operand)(b:Bool) :List AV :=
  match c with
  | .tmp t=>acd T t (.bool true b)
  | _=>T
def KX(body:aC→eF→Res) :Nat→aC→eF→Res
  | 0,_,_=>none
  | n+1,st,p =>
    match body st p with
    | some (.normal,st1,o1,p1) =>
      match KX body n st1 p1 with
      | some (e,wB,o2,p2)=>some (e,wB,o1++o2,p2)
      | none=>none
    | r=>r
abbrev mK:=Option YI→xK
def Eh:List AV→List Tmp→List AV→List AV
  | T,p::ps,v::vs=>Eh (acd T p v) ps vs
  | T,_,_=>T
def Cj:Option aD→Bool
  | some (.vs [])=>true
  | _=>false
def ahc(self:mK)(y:Option YI) :acs:=fun args h nx p =>
  match y with
  | none=>none
  | some yi =>
    bif Cj (be h yi.b)&&(Nat.beq args.length yi.ps.size&&(gi yi.assign&&gi yi.body)) then
      match self none yi.assign ⟨Eh yi.saved yi.ps.toList args,h,nx⟩ p with
      | some (.normal,st1,o1,p1) =>
        match self none yi.body st1 p1 with
        | some (e,wB,o2,p2) =>
          bif Cj (be wB.heap yi.b) then
            match e with
            | .normal=>some (.bool true true,wB.heap,wB.next,o1++o2,p2)
            | .ret=>some (.bool true false,eY wB.heap yi.b (.fl []),wB.next,o1++o2,p2)
            | .exit id=>some (.bool true false,eY wB.heap yi.b (.rows id 0 fun _ _=>.nptr),wB.next,o1++o2,p2)
          else none
        | none=>none
      | _=>none
    else none
def nZ:Option (LoopState×Option Code)→Option AE
  | some (.ready,none)=>some .normal
  | some (.done,some .ret)=>some .ret
  | some (.done,some (.exit id))=>some (.exit id)
  | _=>none
def LW(C : uv)(self : mK)(g : Operand)(ps : Array Tmp)(assign body : Code)(st : aC)(p : eF) : Res :=
  match XN st.tmps g with
  | .fn (.func gf) first caps =>
    match C.P.funcs[gf]? with
    | some fn =>
      match fn.body with
      | some c =>
        bif gi c&&fn.results.isEmpty then
          match self (some ⟨st.next,st.tmps,ps,assign,body⟩) c ⟨(first ++ .yld st.next::caps)++List.replicate (fn.ntmps-(first ++ .yld st.next::caps).length) (.tup []),eY st.heap st.next (.vs []),st.next+1⟩ p with
          | some (.exit _,_,_,_)=>none
          | some (_,st1,o1,p1) =>
            bif sd st1.heap then
              match nZ (jc (be st1.heap st.next)) with
              | some e=>some (e,⟨st.tmps,tl st1.heap st.next,st1.next⟩,o1,p1)
              | none=>none
            else none
          | none=>none
        else none
      | none=>none
    | none=>none
  | _=>none
def Hr(C:uv)(run:eX)(N:Nat)(selfY:mK)(y:Option YI)(c:Code)(st:aC)(p:eF) :Res :=
  let self:=selfY y
  match c with
  | .skip | .label _=>some (.normal,st,[],p)
  | .region _ ops draw=>Hq C run y (ahc selfY y) ops draw st p
  | .seq a b =>
    match self a st p with
    | some (.normal,st1,o1,p1) =>
      match self b st1 p1 with
      | some (e,wB,o2,p2)=>some (e,wB,o1++o2,p2)
      | none=>none
    | r=>r
  | .cond c a b =>
    match KS (XN st.tmps c) p with
    | some (x,o1,p1) =>
      match self (match x with | true=>a | false=>b) { st with tmps:=tB st.tmps c x } p1 with
      | some (e,wB,o2,p2)=>some (e,wB,o1++o2,p2)
      | none=>none
    | none=>none
  | .block id b =>
    match self b st p with
    | some (.exit id',st1,o1,p1)=>bif Nat.beq id' id then some (.normal,st1,o1,p1) else some (.exit id',st1,o1,p1)
    | r=>r
  | .loop b=>KX (self b) N st p
  | .exit id=>some (.exit id,st,[],p)
  | .ret=>some (.ret,st,[],p)
  | .scope b=>self b st p
  | .rangeFunc g ps assign body=>match y with
    | none=>LW C selfY g ps assign body st p
    | some _=>none
  | _=>none
structure rx where
  out:ir
  obs:List Bool
def adX(alts:List rx)(p:eF) :Option (rx×eF) :=
  match alts,p with
  | [a],p=>some (a,p)
  | alts,none=>(alts.find? fun a=>RH a.obs).map fun a=>(a,none)
  | alts,some (k::r)=>(alts[k]?).map fun a=>(a,some r)
  | _,_=>none
theorem acw{alts:List rx}{p p':eF}{a:rx}(h:adX alts p=some (a,p')) :a∈alts:=by
  unfold adX at h
  split at h
  · simp only [Option.some.injEq,Prod.mk.injEq] at h;rw [←h.1];simp
  · simp only [Option.map_eq_some_iff,Prod.mk.injEq] at h;obtain ⟨b,h1,rfl,_⟩:=h;exact List.mem_of_find?_eq_some h1
  · simp only [Option.map_eq_some_iff,Prod.mk.injEq] at h;obtain ⟨b,h1,rfl,_⟩:=h;exact List.mem_of_getElem? h1
  · cases h
abbrev wL:=FuncId→List aD→List AV→Option (List rx)
def kj(P:Program)(fn:Func)(st:aC) :List ResultVar→Option (List AV×List Bool)
  | []=>some ([],[])
  | .tmp t::l =>
    match kj P fn st l with
    | some (vs,o)=>some (acb st.tmps t::vs,o)
    | none=>none
  | .cell a t::l =>
    match Dn P (be st.heap) t (acb st.tmps a),kj P fn st l with
    | some (v,o,_),some (vs,o')=>some (v::vs,o++o')
    | _,_=>none
def Hs:List AV→AV
  | [v]=>v
  | vs=>.tup vs
def qW(fn:Func)(lent:List aD)(args:List AV) :aC:=⟨args++List.replicate (fn.ntmps-args.length) (.tup []),eR 0 (lent.map some),lent.length⟩
def pO(C : uv)(S : wL)(self : xK) : eX := fun f lent args p =>
  match S f lent args with
  | some alts=>(adX alts p).map fun r=>(r.1.out,r.1.obs,r.2)
  | none =>
    match C.P.funcs[f]? with
    | some fn =>
      match fn.body with
      | some c =>
        match self c (qW fn lent args) p with
        | some (e,st,o1,p1) =>
          match e,kj C.P fn st fn.results.toList with
          | .exit _,_=>none
          | _,some (vs,o2) =>
            match LV lent.length (C.mode f).keep st.heap (Hs vs) with
            | some r=>some (r,o1++o2,p1)
            | none=>none
          | _,none=>none
        | none=>none
      | none=>none
    | none=>none
def AZ(C:uv)(S:wL)(N:Nat) :Nat→mK
  | 0=>fun _ _ _ _=>none
  | n+1=>Hr C (pO C S (AZ C S N n none)) N (AZ C S N n)
def iF(C:uv)(S:wL)(N:Nat)(n:Nat) :xK:=AZ C S N n none
def ag(P:Program)(f:FuncId)(lent:List aD)(args:List AV)(r:ir) :Prop :=
  ∀ (ρ:ac) (w:World) (us:List Value),iI ρ w lent→cV ρ w args us →
    (∃ fn,P.funcs[f]? = some fn∧fn.body.isSome=true)∧Calls P f us.toArray w fun e w'=>∃ u,e=.returned u∧iq ρ.live w w'∧r.Holds ρ w w' lent.length u
def aH(P:Program)(S:wL) :Prop:=∀ f lent args alts a,S f lent args=some alts→a∈alts→aB a.obs→ag P f lent args a.out
def RU(P:Program)(self:xK) :Prop :=
  ∀ c st p e st' obs p',self c st p=some (e,st',obs,p')→aB obs→∀ (ρ:ac) (a:Act) (w:World) (Q:Exit→Act→World→Prop),ρ.pin.2=none→SR ρ st a w →
    (∀ ρ' a' w',LD ρ w st.next st' ρ' a' w'→Q e.real a' w')→c.wp P Q a w
theorem LD.trans{ρ ρ1 ρ2:ac}{w w1 w2:World}{n:Nat}{st1 wB:aC}{a1 a2:Act}(h:LD ρ w n st1 ρ1 a1 w1)(k:LD ρ1 w1 st1.next wB ρ2 a2 w2) :LD ρ w n wB ρ2 a2 w2 :=
  ⟨h.ext.trans k.ext h.wle.size,h.wle.trans k.wle (fun x hx q=>h.ext.new x hx q),k.sr,Nat.le_trans h.le k.le,fun b q=>by
    rcases k.back b q with q | q
    · exact h.back b q
    · exact .inr (Nat.le_trans h.le q)⟩
theorem LD.refl{ρ:ac}{w:World}{st:aC}{a:Act}(h:SR ρ st a w) :LD ρ w st.next st ρ a w:=⟨kI.refl _ _,iq.refl _ _,h,Nat.le_refl _,fun b q=>.inl q⟩
theorem acx(n:Nat) :List.range n=List.range' 0 n:=List.range_eq_range'
theorem UA(fn:Func)(tmps:Array Value) :results fn tmps=(do let vs ← fn.results.mapM (fun | .tmp t=>pure (tmps.getD t undef) | .cell x t=>do loadVar t (←asAddr (tmps.getD x undef)));pure (if h:vs.size=1 then vs[0] else .tuple vs)):=by
  unfold results
  congr 1
structure mr (y:Option YI) (ρ:ac) (w:World) (n:Nat) (st:aC) (ρ':ac) (a':Act) (w':World):Prop where
  stp:KT y ρ w ρ' w'
  sr:SR ρ' st a' w'
  le:n≤st.next
  back:∀ b,ρ'.ok b→ρ.ok b∨n≤b
  pin:mJ y ρ' w' st.heap st.next
theorem mr.old{ρ:ac}{w:World}{n:Nat}{st:aC}{ρ':ac}{a':Act}{w':World}(h:mr none ρ w n st ρ' a' w') :LD ρ w n st ρ' a' w':=⟨h.stp.ext,h.stp.live,h.sr,h.le,h.back⟩
theorem mr.trans{y:Option YI}{ρ ρ1 ρ2:ac}{w w1 w2:World}{n:Nat}{st1 wB:aC}{a1 a2:Act}(h:mr y ρ w n st1 ρ1 a1 w1)(k:mr y ρ1 w1 st1.next wB ρ2 a2 w2) :mr y ρ w n wB ρ2 a2 w2 :=
  ⟨h.stp.trans k.stp,k.sr,Nat.le_trans h.le k.le,fun b q=>by
    rcases k.back b q with q | q
    · exact h.back b q
    · exact .inr (Nat.le_trans h.le q),k.pin⟩
theorem mr.refl{y:Option YI}{ρ:ac}{w:World}{st:aC}{a:Act}(h:SR ρ st a w)(hp:mJ y ρ w st.heap st.next) :mr y ρ w st.next st ρ a w:=⟨KT.refl _ _ _,h,Nat.le_refl _,fun b q=>.inl q,hp⟩
def May(c:Code)(ro:Option Nat)(y:Option YI)(ρ:ac) :Prop:=gi c=true∨(ro=none∧y=none∧ρ.pin.2=none)
def uE(P:Program)(self:mK) :Prop :=
  ∀ y c st p e st' obs p',self y c st p=some (e,st',obs,p')→aB obs→∀ (ro:Option Nat) (nn:Nat) (ρ:ac) (a:Act) (w:World) (Q:Exit→Act→World→Prop),May c ro y ρ→SR ρ st a w→mJ y ρ w st.heap st.next →
    (∀ ρ' a' w',mr y ρ w st.next st' ρ' a' w'→Q e.real a' w')→c.wpIn (FW ro) nn P Q a w
theorem May.ext{c:Code}{ro:Option Nat}{y:Option YI}{ρ ρ':ac}{w:World}(h:May c ro y ρ)(E:kI ρ ρ' w) :May c ro y ρ':=h.imp id fun ⟨a,b,c⟩=>⟨a,b,by rw [E.pin];exact c⟩
theorem May.sub{c d:Code}{ro:Option Nat}{y:Option YI}{ρ:ac}(h:May c ro y ρ)(k:gi c=true→gi d=true) :May d ro y ρ:=h.imp k id
theorem KY{ρ:ac}{w:World} :∀ {ds:List Deferred},ke ρ w ds→ρ.pin.1≤w.heap.size
  | [],h=>h
  | _::_,⟨_,h⟩=>KY h
theorem Qj{ρ:ac}{w:World} :∀ {ds:List Deferred},ke ρ w ds→∀ e∈ds,e ≠ { target:=.collected w.heap.size,args:=#[] }
  | [],_,e,he=>by cases he
  | d::ds,⟨⟨D,h1,hb,h2,h3,h4,h5⟩,h⟩,e,he=>by
    rcases List.mem_cons.1 he with rfl | q
    · intro e;rw [h1] at e
      have e:Target.collected D=.collected w.heap.size:=congrArg Deferred.target e
      simp only [Target.collected.injEq] at e
      omega
    · exact Qj h e q
theorem FL{y:Option YI} :∀ {l:List qS},AY y l=true→∀ r∈l,tx y r.sets=true
  | [],_,r,h=>by cases h
  | x::l,hk,r,h=>by
    simp only [AY,Bool.and_eq_true] at hk
    rcases List.mem_cons.1 h with rfl | q
    · exact hk.1
    · exact FL hk.2 r q
theorem FM{y:Option YI} :∀ (l:List (Oper×qS)) (s:List AV×bN),(∀ x∈l,tx y x.2.sets=true)→∀ yi,y=some yi→be (de l s).2 yi.b=be s.2 yi.b
  | [],s,_,yi,_=>rfl
  | x::l,s,h,yi,e=>by
    simp only [de]
    rw [FM l _ (fun z hz=>h z (by simp [hz])) yi e]
    exact FH (h x (by simp)) s.2 yi e
theorem RV{C:uv}(hC:C.Ok){run:eX}(hrun:Ly C.P run){y:Option YI}{yr:acs}(hyr:Yh C.P y yr){id:Nat}{ops:Array Oper}{draw:Bool}{st st':aC}{p p':eF}{e:AE}{obs:List Bool}(h:Hq C run y yr ops draw st p=some (e,st',obs,p')) 
    (ho:aB obs) {ro:Option Nat} {nn:Nat} {ρ:ac} {a:Act} {w:World} {Q:Exit→Act→World→Prop} (hs:SR ρ st a w) (hp:mJ y ρ w st.heap st.next) (hQ:∀ ρ' a' w',mr y ρ w st.next st' ρ' a' w'→Q e.real a' w'):(Code.region id ops draw).wpIn (FW ro) nn C.P Q a w:=by
  unfold Hq at h
  cases draw with
  | false =>
    simp only at h
    split at h
    case h_2=>cases h
    rename_i T hp' nx obs' p1 hr
    simp only [Option.some.injEq,Prod.mk.injEq] at h;obtain ⟨rfl,rfl,rfl,rfl⟩:=h
    refine wpIn_region ?_
    rw [acx,←Array.length_toList]
    refine xI hC hrun hyr ops.toList 0 (fun j=>by simp) hr ho (hs.heap.le (by omega)) (Nat.le_refl _) hp (KY hs.defers) (fun b hb=>.inl (by have:=hs.heap.lt b hb;omega)) hs.tmps ?_
    intro ρ' w' a' S hh hle hpin hd hT hb
    exact hQ ρ' a' w' ⟨S,⟨by rw [hd];exact S.marks _ hs.defers,hT,hh⟩,by show st.next≤nx;omega,hb,hpin.le (by show st.next≤nx;omega)⟩
  | true =>
    simp only at h
    split at h
    case h_2=>cases h
    rename_i rs T hp' obs' p1 hr
    cases hd:(FK ops rs&&AY y rs) with
    | false=>rw [hd] at h;cases h
    | true =>
      rw [hd] at h
      rw [Bool.and_eq_true] at hd
      simp only [cond_true,Option.some.injEq,Prod.mk.injEq] at h;obtain ⟨rfl,rfl,rfl,rfl⟩:=h
      obtain ⟨s1,s2,s3⟩:=Jh _ _ hr ho
      obtain ⟨ms,D⟩:=Je (ops.toList.zip rs) [] [] rfl (Uu s1 hd.1) ⟨fun j x hx=>by simp at hx,fun j x hx=>by simp at hx,fun i j x y hx=>by simp at hx⟩
      rw [List.nil_append] at D
      refine wpIn_region_any hC.mixed ?_
      have W0:=iq.drawn ρ.live w (w.drawn+1)
      have E0:=kI.refl ρ w
      have notL:∀ i,(Array.replicate ops.size false).getD i false=false:=by
        intro i;rw [Array.getD_eq_getD_getElem?]
        cases hq:(Array.replicate ops.size false)[i]? with
        | none=>rfl
        | some b=>rw [Array.getElem?_replicate] at hq;split at hq<;>simp_all
      have a0:∀ (l:List (Oper×qS)) (i:Nat) (s:List AV×bN),oi (fun i=>(Array.replicate ops.size false).getD i false) i l s=s:=by
        intro l
        induction l with
        | nil=>intro _ _;rfl
        | cons x l ih=>intro i s;simp only [oi];rw [notL i];exact ih _ _
      refine adV hC hrun D (by rw [s1];simp) (fun j o hj=>by have:=s3 j o hj;rw [Nat.zero_add] at this;exact this) ops.size (Array.replicate ops.size false) (by simp) (fun j o _ hl=>by rw [notL] at hl;cases hl)
        (by have:=List.countP_le_length (p:=fun i=>!(Array.replicate ops.size false).getD i false) (l:=List.range ops.size);simpa using this) (ρ:=ρ) (a:=a) ?_ ?_ ?_ ?_
      · rw [a0];exact (hs.heap.le (by omega)).drawn _
      · intro b hb;have:=hs.heap.lt b hb;exact .inl this
      · rw [a0];exact hs.tmps.mono E0 W0
      · intro ρ' w' a' E W hh hd' hT hb
        have keep:=FM (y:=y) (ops.toList.zip rs) (st.tmps,st.heap) fun x hx=>FL hd.2 _ (List.of_mem_zip (show (x.1,x.2)∈_ from hx)).2
        rw [s2] at hh hT keep
        have E':kI ρ ρ' w:=⟨E.at_,E.ok,E.live,fun b hb=>E.new b hb,E.out,E.pin⟩
        have W':iq ρ.live w w':=W0.trans W (fun _ _ q=>q)
        refine hQ ρ' a' w' ⟨.of E' W',⟨by rw [hd'];exact hs.defers.mono E' W',hT,hh⟩,Nat.le_add_right _ _,hb,(hp.mono E' W' (fun yi _ q=>hb _ q) keep).le (Nat.le_add_right _ _)⟩
theorem LX{C:uv}{y:Option YI}{ro:Option Nat}{nn:Nat}{body:aC→eF→Res}{b:Code}(hb:∀ st p e st' obs p',body st p=some (e,st',obs,p')→aB obs→∀ (ρ:ac) (a:Act) (w:World) (Q:Exit→Act→World→Prop),May b ro y ρ→SR ρ st a w→mJ y ρ w st.heap st.next →
    (∀ ρ' a' w',mr y ρ w st.next st' ρ' a' w'→Q e.real a' w')→b.wpIn (FW ro) nn C.P Q a w) :∀ (n:Nat) (st:aC) (p:eF) (e:AE) (st':aC) (obs:List Bool) (p':eF),KX body n st p=some (e,st',obs,p')→aB obs →
    ∀ (ρ:ac) (a:Act) (w:World) (Q:Exit→Act→World→Prop),May b ro y ρ→SR ρ st a w→mJ y ρ w st.heap st.next→(∀ ρ' a' w',mr y ρ w st.next st' ρ' a' w'→Q e.real a' w')→Code.roundsIn (FW ro) nn C.P b Q n a w
  | 0,st,p,e,st',obs,p',h,_,_,_,_,_,_,_,_,_=>by cases h
  | n+1,st,p,e,st',obs,p',h,ho,ρ,a,w,Q,hm,hs,hp,hQ=>by
    simp only [KX] at h
    rw [roundsIn_succ]
    split at h
    · rename_i st1 o1 p1 h1
      split at h
      case h_2=>cases h
      rename_i e2 wB o2 p2 h2
      simp only [Option.some.injEq,Prod.mk.injEq] at h;obtain ⟨rfl,rfl,rfl,rfl⟩:=h
      rw [bh] at ho
      refine hb st p _ _ _ _ h1 ho.1 ρ a w _ hm hs hp fun ρ1 a1 w1 P1=>?_
      exact LX hb n st1 p1 _ _ _ _ h2 ho.2 ρ1 a1 w1 Q (hm.ext P1.stp.ext) P1.sr P1.pin fun ρ2 a2 w2 P2=>hQ ρ2 a2 w2 (P1.trans P2)
    · rename_i hne
      refine hb st p _ _ _ _ h ho ρ a w _ hm hs hp fun ρ1 a1 w1 P1=>?_
      have:=hQ ρ1 a1 w1 P1
      cases e with
      | normal=>exact (hne _ _ _ h).elim
      | ret=>exact this
      | exit id=>exact this
theorem LY{ρ:ac}{w:World} :∀ (ps:List Tmp) (vs:List AV) (us:List Value) {T:List AV} {c:Array Value},cV ρ w T c.toList→cV ρ w vs us→ps.length=us.length →
    cV ρ w (Eh T ps vs) ((ps.zip us).foldl (fun tmps (x:Tmp×Value)=>tmps.setIfInBounds x.1 x.2) c).toList
  | [],vs,us,T,c,hT,hv,hl=>by
    cases us with
    | nil=>cases vs<;>simpa [Eh] using hT
    | cons=>simp at hl
  | p::ps,vs,us,T,c,hT,hv,hl=>by
    cases hv with
    | nil=>simp at hl
    | cons v u vs us h1 h2 =>
      simp only [Eh,B8,List.zip_cons_cons,List.foldl_cons]
      refine LY ps vs us ?_ h2 (by simpa using hl)
      rw [Array.toList_setIfInBounds]
      exact hT.set h1 p
theorem Ji{o:Option aD}(h:Cj o=true) :o=some (.vs []):=by
  unfold Cj at h
  split at h
  · rfl
  · cases h
theorem KT.wide{y:Option YI}{ρ ρ':ac}{w w':World}(h:KT none ρ w ρ' w') :KT y ρ w ρ' w':=⟨h.ext,h.live.mono fun _ _ q=>.inl q,h.vr,h.marks⟩
theorem KT.put{yi:YI}{ρ:ac}{w:World}{L k:Nat}{r r':Loop}(hp:ρ.pin.2=some (L,k))(hL:w.heap[L]? = some (.loop r)) :KT (some yi) ρ w ρ (w.putObj L (.loop r')):=by
  have S:tw w (w.putObj L (.loop r')):=tw.put hL (.inl ⟨r,rfl⟩) (.inl ⟨r',rfl⟩)
  exact ⟨kI.refl _ _,S.wle fun b _ hb=>World.putObj_heap_other (fun e=>hb (.inr ⟨rfl,k,by rw [e];exact hp⟩)),fun v u h=>h.soft S,fun ds h=>h.soft hL⟩
theorem afQ{P:Program}{self:mK}(hself:uE P self)(y:Option YI) :Yh P y (ahc self y):=by
  intro args h nx p v h' nx' obs p' hr ho
  unfold ahc at hr
  cases y with
  | none=>cases hr
  | some yi =>
  refine ⟨yi,rfl,fun ρ w us m hh hbase hpin hm hv L hL=>?_⟩
  simp only at hr
  cases hc:(Cj (be h yi.b)&&(Nat.beq args.length yi.ps.size&&(gi yi.assign&&gi yi.body))) with
  | false=>rw [hc] at hr;cases hr
  | true =>
  rw [hc] at hr
  simp only [Bool.and_eq_true] at hc
  obtain ⟨hc1,hc2,hc3,hc4⟩:=hc
  simp only [cond_true] at hr
  split at hr
  case h_2=>cases hr
  rename_i st1 o1 p1 h1
  split at hr
  case h_2=>cases hr
  rename_i e wB o2 p2 h2
  cases hc5:Cj (be wB.heap yi.b) with
  | false=>rw [hc5] at hr;cases hr
  | true =>
  rw [hc5] at hr
  simp only [cond_true] at hr
  have hk1:=Ji hc1
  have hk2:=Ji hc5
  obtain ⟨q1,q2,L',q3,q4,s,pe,q5,rec,r1,r2,r3,r4,r5,r6,r7⟩:=hpin
  rw [hL] at q3;cases q3
  rw [hk1] at q5
  simp only [jc,Option.some.injEq,Prod.mk.injEq] at q5
  obtain ⟨rfl,rfl⟩:=q5
  have hlt:L<w.heap.size:=(Array.getElem?_eq_some_iff.1 r1).1
  have hsz:us.size=rec.params.size:=by
    have a1:=hv.length
    have a2:=Nat.eq_of_beq_eq_true hc2
    rw [r4,←a2,a1];simp
  refine ⟨rec,r1,hsz,fun ro nn R hR=>?_⟩
  have hob:aB o1∧aB o2:=by
    have:obs=o1++o2:=by cases e<;>simp only [Option.some.injEq,Prod.mk.injEq] at hr<;>exact hr.2.2.2.1.symm
    rw [this,bh] at ho;exact ho
  refine roundIn_of_wpIn (ahS _ _) ?_
  rw [r5,r6,r4]
  have hfold:(yi.ps.zip us).foldl (fun tmps (x:Tmp×Value)=>tmps.setIfInBounds x.1 x.2) rec.tmps=(yi.ps.toList.zip us.toList).foldl (fun tmps (x:Tmp×Value)=>tmps.setIfInBounds x.1 x.2) rec.tmps:=by
    rw [←Array.foldl_toList,Array.toList_zip]
  have hT:cV ρ w (Eh yi.saved yi.ps.toList args) ((yi.ps.zip us).foldl (fun tmps (x:Tmp×Value)=>tmps.setIfInBounds x.1 x.2) rec.tmps).toList:=by
    rw [hfold]
    exact LY _ _ _ r7 hv (by rw [←r4];simpa using hsz.symm)
  have S0:SR ρ ⟨Eh yi.saved yi.ps.toList args,h,nx⟩ { tmps:=(yi.ps.zip us).foldl (fun tmps (x:Tmp×Value)=>tmps.setIfInBounds x.1 x.2) rec.tmps,defers:=[] } w:=⟨hbase,hT,hh⟩
  refine hself none yi.assign _ _ _ _ _ _ h1 hob.1 (some L) nn ρ _ w _ (.inl hc3) S0 trivial fun ρ1 a1 w1 P1=>?_
  have hL1:w1.heap[L]? = some (.loop rec):=(P1.stp.live.same L hlt q4).trans r1
  have n1 : ¬ ρ1.live L:=fun q=>q4 (P1.stp.ext.new L hlt q)
  refine ⟨_,run_beginRound hL1 r2,?_⟩
  have Sf:tw w1 (w1.putObj L (.loop { rec with state:=.busy })):=tw.put hL1 (.inl ⟨_,rfl⟩) (.inl ⟨_,rfl⟩)
  have S1:SR ρ1 st1 a1 (w1.putObj L (.loop { rec with state:=.busy })):=⟨P1.sr.defers.soft hL1,P1.sr.tmps.soft Sf,P1.sr.heap.soft Sf⟩
  have hlt1:L<(w1.putObj L (.loop { rec with state:=.busy })).heap.size:=by rw [World.putObj_size];exact Nat.lt_of_lt_of_le hlt P1.stp.wle.size
  refine hself none yi.body _ _ _ _ _ _ h2 hob.2 (some L) nn ρ1 a1 _ _ (.inl hc4) S1 trivial fun ρ2 a2 w3 P2=>?_
  have hL3:w3.heap[L]? = some (.loop { rec with state:=.busy }):=(P2.stp.live.same L hlt1 n1).trans (World.putObj_heap_same (by simpa using hlt1))
  have n2 : ¬ ρ2.live L:=fun q=>n1 (P2.stp.ext.new L hlt1 q)
  have pin1:ρ1.pin.2=some (L,yi.b):=by rw [P1.stp.ext.pin];exact hL
  have pin2:ρ2.pin.2=some (L,yi.b):=by rw [P2.stp.ext.pin];exact pin1
  have Sall:∀ (r':Loop),KT (some yi) ρ w ρ2 (w3.putObj L (.loop r')):=fun r' =>
    (((P1.stp.wide).trans (KT.put pin1 hL1)).trans P2.stp.wide).trans (KT.put pin2 hL3)
  have hback:∀ b,ρ2.ok b→ρ.ok b∨nx≤b:=by
    intro b q
    rcases P2.back b q with q | q
    · exact P1.back b q
    · exact .inr (Nat.le_trans P1.le q)
  have hnok : ¬ ρ2.ok yi.b:=fun q=>(hback _ q).elim q1 (by omega)
  have hle:nx≤wB.next:=Nat.le_trans P1.le P2.le
  have S2:∀ (r':Loop),tw w3 (w3.putObj L (.loop r')):=fun r'=>tw.put hL3 (.inl ⟨_,rfl⟩) (.inl ⟨_,rfl⟩)
  have hlt3:L<w3.heap.size:=(Array.getElem?_eq_some_iff.1 hL3).1
  have hrec:∀ (s:LoopState) (pe:Option Code),Un ρ2 (w3.putObj L (.loop { rec with state:=s,pending:=pe })) L yi s pe:=fun s pe =>
    ⟨_,World.putObj_heap_same hlt3,rfl,rfl,r4,r5,r6,cV.stp (Sall _).vr r7⟩
  cases e with
  | normal =>
    simp only [Option.some.injEq,Prod.mk.injEq] at hr
    obtain ⟨rfl,rfl,rfl,_,_⟩:=hr
    refine ⟨_,_,run_endRound none hL3,hR ρ2 _ _ (Sall _) (P2.sr.heap.soft (S2 _)) ⟨hnok,q2,L,pin2,n2,.ready,none,by rw [hk2];rfl,hrec _ _⟩ (.bool _ _) hback hle⟩
  | ret =>
    simp only [Option.some.injEq,Prod.mk.injEq] at hr
    obtain ⟨rfl,rfl,rfl,_,_⟩:=hr
    refine ⟨_,_,run_endRound (some .ret) hL3,hR ρ2 _ _ (Sall _) ((P2.sr.heap.soft (S2 _)).ghost hnok (by omega) trivial (fun x=>rfl)) ⟨hnok,q2,L,pin2,n2,.done,some .ret,by rw [cR,if_pos rfl];rfl,hrec _ _⟩ (.bool _ _) hback hle⟩
  | exit id =>
    simp only [Option.some.injEq,Prod.mk.injEq] at hr
    obtain ⟨rfl,rfl,rfl,_,_⟩:=hr
    refine ⟨_,_,run_endRound (some (.exit id)) hL3,hR ρ2 _ _ (Sall _) ((P2.sr.heap.soft (S2 _)).ghost hnok (by omega) (fun i j=>⟨rfl,rfl⟩) (fun x=>by simp [aD.cell?])) ⟨hnok,q2,L,pin2,n2,.done,some (.exit id),by rw [cR,if_pos rfl];rfl,hrec _ _⟩ (.bool _ _) hback hle⟩
theorem Oy{d:Option aD}{e:AE}(h:nZ (jc d)=some e) :∃ s pe,jc d=some (s,pe)∧s ≠ .busy∧((e=.normal∧pe=none)∨(e=.ret∧pe=some .ret)∨∃ id,e=.exit id∧pe=some (.exit id)):=by
  unfold nZ at h
  split at h
  · rename_i q;cases h;exact ⟨_,_,q,by simp,.inl ⟨rfl,rfl⟩⟩
  · rename_i q;cases h;exact ⟨_,_,q,by simp,.inr (.inl ⟨rfl,rfl⟩)⟩
  · rename_i id q;cases h;exact ⟨_,_,q,by simp,.inr (.inr ⟨id,rfl,rfl⟩)⟩
  · cases h
def LZ(st:aC)(fn:Func)(first caps:List AV) :aC:=⟨(first ++ .yld st.next::caps)++List.replicate (fn.ntmps-(first ++ .yld st.next::caps).length) (.tup []),eY st.heap st.next (.vs []),st.next+1⟩
theorem Qk{C:uv}(hC:C.Ok){g:Operand}{ps:Array Tmp}{assign body:Code}{st:aC}{gf:FuncId}{fn:Func}{c:Code}{first caps:List AV}{e1 e2:AE}{st1:aC}(hev:XN st.tmps g=.fn (.func gf) first caps)(hfn:C.P.funcs[gf]? = some fn)(hbody:fn.body=some c) 
    (hc2:fn.results.isEmpty=true) (hne:∀ id,e1 ≠ .exit id) (hcl:sd st1.heap=true) (hend:nZ (jc (be st1.heap st.next))=some e2)
    {nn:Nat} {ρ:ac} {a:Act} {w:World} {Q:Exit→Act→World→Prop} (hpn:ρ.pin.2=none) (hs:SR ρ st a w)
    (hgo:∀ (ρi:ac) (wi:World) (ai:Act) (Qi:Exit→Act→World→Prop),SR ρi (LZ st fn first caps) ai wi→mJ (some ⟨st.next,st.tmps,ps,assign,body⟩) ρi wi (LZ st fn first caps).heap (LZ st fn first caps).next→(∀ b,ρi.ok b→b<st.next+1) →
      (∀ ρ' a' w',kI ρi ρ' wi→iq (ρi.wm (some ⟨st.next,st.tmps,ps,assign,body⟩)) wi w'→SR ρ' st1 a' w'→st.next+1≤st1.next→(∀ b,ρ'.ok b→ρi.ok b∨st.next+1≤b)→mJ (some ⟨st.next,st.tmps,ps,assign,body⟩) ρ' w' st1.heap st1.next→Qi e1.real a' w')→c.wpIn (FW none) (nn-1) C.P Qi ai wi)
    (hQ:∀ ρ' a' w',mr none ρ w st.next ⟨st.tmps,tl st1.heap st.next,st1.next⟩ ρ' a' w'→Q e2.real a' w'):(Code.rangeFunc g ps assign body).wpIn (FW none) nn C.P Q a w:=by
  refine wpIn_rangeFunc ?_
  intro f0 _
  have hg:=AH hs.heap.rom hs.tmps g
  rw [hev] at hg
  generalize hgv:a.eval g=gv at hg
  cases hg with | fn _ _ _ c1 c2 v1 v2 =>
  obtain ⟨w1,hw1⟩:∃ w1,(w.alloc (.deferred (some []))).alloc (.loop { state:=.ready,pending:=none,fn:=f0,tmps:=a.tmps,params:=ps,assign,body,defers:=w.heap.size })=w1:=⟨_,rfl⟩
  refine ⟨w.heap.size+1,[{ target:=.collected w.heap.size,args:=#[] }],w1,{ target:=.fn (.func gf) c2,args:=c1 ++ #[Value.func (.yield (w.heap.size+1)) #[] #[]] },w1,gf,c1 ++ #[Value.func (.yield (w.heap.size+1)) #[] #[]]++c2,w1,?_,?_,fun _ _=>trivial,?_,KR,?_⟩
  · rw [←hw1];exact run_enterLoop_outer _ _ _ _ _
  · simp only [resolve,hgv]
    simp [Deferred.ofValue,Act.eval]
  · have eg:=hC.enter gf fn (c1 ++ #[Value.func (.yield (w.heap.size+1)) #[] #[]]++c2) w1 hfn (by rw [hbody];rfl)
    simp only [invoke]
    exact eg
  have hsz1:w1.heap.size=w.heap.size+2:=by rw [←hw1];simp
  have hD1:w1.heap[w.heap.size]? = some (.deferred (some [])):=by
    rw [←hw1,jk (by simp),eG]
  have hL1:w1.heap[w.heap.size+1]? = some (.loop { state:=.ready,pending:=none,fn:=f0,tmps:=a.tmps,params:=ps,assign,body,defers:=w.heap.size }):=by
    rw [←hw1]
    have:=eG (w.alloc (.deferred (some []))) (.loop { state:=.ready,pending:=none,fn:=f0,tmps:=a.tmps,params:=ps,assign,body,defers:=w.heap.size })
    simpa using this
  have W1:iq ρ.live w w1:=by rw [←hw1];exact (iq.alloc _ _ _).trans (iq.alloc _ _ _) (fun _ _ q=>q)
  have same1:∀ b,b<w.heap.size→w1.heap[b]? = w.heap[b]?:=fun b hb=>by
    rw [←hw1,jk (by simp;omega),jk hb]
  have nlive:∀ b,w.heap.size≤b→¬ ρ.live b:=fun b hb q=>by have:=hs.heap.liveLt b q;omega
  have nok : ¬ ρ.ok st.next:=fun q=>by have:=hs.heap.lt _ q;omega
  have tmps1:∀ {l:List AV} {us:List Value},cV ρ w l us→cV (ρ.pinned (w1.heap.size,some (w.heap.size+1,st.next))) w1 l us:=fun hv=>(hv.mono (kI.refl _ _) W1).noPin hpn _
  have hH1:HR (ρ.pinned (w1.heap.size,some (w.heap.size+1,st.next))) w1 (eY st.heap st.next (.vs [])) (st.next+1):=by
    refine HR.ghost ((((hs.heap.step W1 (fun bl hl=>same1 bl (hs.heap.liveLt bl hl))).noPin hpn _)).le (Nat.le_succ _)) nok (Nat.lt_succ_self _) trivial (fun x=>rfl)
  have hargs:cV (ρ.pinned (w1.heap.size,some (w.heap.size+1,st.next))) w1 ((first ++ .yld st.next::caps)++List.replicate (fn.ntmps-(first ++ .yld st.next::caps).length) (.tup []))
      ((c1 ++ #[Value.func (.yield (w.heap.size+1)) #[] #[]]++c2)++Array.replicate (fn.ntmps-(c1 ++ #[Value.func (.yield (w.heap.size+1)) #[] #[]]++c2).size) undef).toList:=by
    have l1:=v1.length
    have l2:=v2.length
    have e:(first++AV.yld st.next::caps).length=(c1 ++ #[Value.func (.yield (w.heap.size+1)) #[] #[]]++c2).size:=by simp at l1 l2 ⊢;omega
    rw [e]
    have hrep:∀ n,cV (ρ.pinned (w1.heap.size,some (w.heap.size+1,st.next))) w1 (List.replicate n (.tup [])) (List.replicate n undef):=by
      intro n
      induction n with
      | zero=>exact .nil
      | succ n ih=>exact .cons _ _ _ _ (.tup [] #[] .nil) ih
    have hmid:cV (ρ.pinned (w1.heap.size,some (w.heap.size+1,st.next))) w1 (.yld st.next::caps) (Value.func (.yield (w.heap.size+1)) #[] #[]::c2.toList):=.cons _ _ _ _ (.yld _ _ rfl) (tmps1 v2)
    have hall:=cV.append (hrep (fn.ntmps-(c1 ++ #[Value.func (.yield (w.heap.size+1)) #[] #[]]++c2).size)) (cV.append hmid (tmps1 v1))
    simpa using hall
  refine callsIn_of_wp_marks hfn hbody trivial ?_ rfl
  have S0:SR (ρ.pinned (w1.heap.size,some (w.heap.size+1,st.next))) ⟨(first ++ .yld st.next::caps)++List.replicate (fn.ntmps-(first ++ .yld st.next::caps).length) (.tup []),eY st.heap st.next (.vs []),st.next+1⟩
      { tmps:=(c1 ++ #[Value.func (.yield (w.heap.size+1)) #[] #[]]++c2)++Array.replicate (fn.ntmps-(c1 ++ #[Value.func (.yield (w.heap.size+1)) #[] #[]]++c2).size) undef,defers:=[] } w1:=⟨Nat.le_refl _,hargs,hH1⟩
  have P0:mJ (some ⟨st.next,st.tmps,ps,assign,body⟩) (ρ.pinned (w1.heap.size,some (w.heap.size+1,st.next))) w1 (eY st.heap st.next (.vs [])) (st.next+1) :=
    ⟨nok,Nat.lt_succ_self _,w.heap.size+1,rfl,nlive _ (by omega),.ready,none,by rw [cR,if_pos rfl];rfl,_,hL1,rfl,rfl,rfl,rfl,rfl,tmps1 hs.tmps⟩
  refine hgo _ _ _ _ S0 P0 (fun b q=>Nat.lt_succ_of_lt (hs.heap.lt b q)) fun ρ1 a1 w2 P1e P1w P1s P1l P1b P1p=>?_
  obtain ⟨s,pe,hst,hbusy,hcase⟩:=Oy hend
  have E1:=P1e
  have pin1:ρ1.pin=(w1.heap.size,some (w.heap.size+1,st.next)):=E1.pin
  have key:LeavesInM (FW none) (nn-1) C.P fn a1.tmps (rangePost (FW none) nn C.P (w.heap.size+1) Q { a with defers:=[{ target:=.collected w.heap.size,args:=#[] }]++a.defers }) a1.defers .returning w2:=by
    refine AS (ρ:=ρ1) a1.defers P1s.defers fun w3 S3 hb3 hl3=>?_
    refine ⟨.tuple #[],?_,?_⟩
    · have:fn.results = #[]:=by simpa using hc2
      rw [UA,this]
      simp [Array.mapM_eq_mapM_toList]
    rw [pin1] at hb3
    have same2:∀ b,b<w1.heap.size→¬ ρ.live b→b≠w.heap.size+1→w2.heap[b]? = w1.heap[b]?:=fun b hb hnl hne=>P1w.same b hb (by
      rintro (q | ⟨_,k,q⟩)
      · exact hnl q
      · have:(some (w.heap.size+1,st.next):Option (Nat×Nat))=some (b,k):=q
        cases this;exact hne rfl)
    obtain ⟨_,_,L',q3,q4,s',pe',q5,rec,r1,r2,r3,r4,r5,r6,r7⟩:=P1p
    have:L'=w.heap.size+1:=by
      rw [show ρ1.pin.2=some (w.heap.size+1,st.next) from by rw [pin1]] at q3;cases q3;rfl
    subst this
    rw [hst] at q5;cases q5
    have hL3:w3.heap[w.heap.size+1]? = some (.loop rec):=(hb3 _ (by show _<w1.heap.size;omega)).trans r1
    refine ⟨_,_,run_endLoop hL3 (by rw [r2];exact hbusy),?_⟩
    have hlt3:w.heap.size+1<w3.heap.size:=(Array.getElem?_eq_some_iff.1 hL3).1
    have S4:tw w3 (w3.putObj (w.heap.size+1) (.loop { rec with state:=.exhausted })):=tw.put hL3 (.inl ⟨_,rfl⟩) (.inl ⟨_,rfl⟩)
    obtain ⟨w4,hw4⟩:∃ w4,w3.putObj (w.heap.size+1) (.loop { rec with state:=.exhausted })=w4:=⟨_,rfl⟩
    rw [hw4] at S4 ⊢
    have same4:∀ b,b≠w.heap.size+1→w4.heap[b]? = w3.heap[b]?:=fun b hb=>by rw [←hw4];exact World.putObj_heap_other hb
    have sameAll:∀ b,b<w1.heap.size→¬ ρ.live b→b≠w.heap.size+1→w4.heap[b]? = w1.heap[b]?:=fun b h1 h2 h3=>(same4 b h3).trans ((hb3 b h1).trans (same2 b h1 h2 h3))
    have W2:=P1w
    have W4:iq ρ.live w w4:=by
      refine ⟨S4.os.trans (S3.os.trans (W2.os.trans W1.os)),S4.tape.trans (S3.tape.trans (W2.tape.trans W1.tape)),S4.output.trans (S3.output.trans (W2.output.trans W1.output)),?_,fun b hb hnl=>(sameAll b (by omega) hnl (by omega)).trans (same1 b hb),fun b c t z hcell=>?_⟩
      · rw [S4.size,S3.size];have:=W2.size;omega
      · obtain ⟨c1,k1,k2⟩:=W1.sized b c t z hcell
        obtain ⟨c2,k3,k4⟩:=W2.sized b c1 t z k1
        exact ⟨c2,S4.cells (S3.cells k3),k4.trans k2⟩
    have E4:kI ρ (ρ1.pinned ρ.pin) w:=⟨E1.at_,E1.ok,E1.live,fun b hb q=>E1.new b (by omega) q,E1.out,rfl⟩
    have P4:mr none ρ w st.next ⟨st.tmps,tl st1.heap st.next,st1.next⟩ (ρ1.pinned ρ.pin) { a with defers:=[{ target:=.collected w.heap.size,args:=#[] }]++a.defers } w4:=by
      refine ⟨.of E4 W4,⟨⟨⟨w.heap.size,rfl,(show ρ.pin.1≤_ from KY hs.defers),?_,fun q=>nlive _ (Nat.le_refl _) (E1.new w.heap.size (by omega) q),?_,Qj hs.defers⟩,hs.defers.mono E4 W4⟩,hs.tmps.mono E4 W4,?_⟩,Nat.le_trans (Nat.le_succ _) P1l,fun b q=>?_,trivial⟩
      · have:=W4.size;have:=W2.size;rw [S4.size,S3.size];omega
      · exact (sameAll _ (by omega) (nlive _ (Nat.le_refl _)) (by omega)).trans hD1
      · exact (((P1s.heap.soft S3).soft S4).pinned ρ.pin hcl).del _
      · rcases P1b b q with q | q
        · exact .inl q
        · exact .inr (Nat.le_trans (Nat.le_succ _) q)
    rcases hcase with ⟨rfl,rfl⟩ | ⟨rfl,rfl⟩ | ⟨id,rfl,rfl⟩
    · rw [r3];exact hQ _ _ _ P4
    · rw [r3];exact wpIn_ret (hQ _ _ _ P4)
    · rw [r3];exact wpIn_exit (hQ _ _ _ P4)
  cases e1 with
  | normal=>exact key
  | ret=>exact key
  | exit id=>exact (hne id rfl).elim
theorem UB{C:uv}(hC:C.Ok){self:mK}(hself:uE C.P self){g:Operand}{ps:Array Tmp}{assign body:Code}{st st':aC}{p p':eF}{e:AE}{obs:List Bool}(h:LW C self g ps assign body st p=some (e,st',obs,p'))(ho:aB obs) 
    {nn:Nat} {ρ:ac} {a:Act} {w:World} {Q:Exit→Act→World→Prop} (hpn:ρ.pin.2=none) (hs:SR ρ st a w) (hQ:∀ ρ' a' w',mr none ρ w st.next st' ρ' a' w'→Q e.real a' w'):(Code.rangeFunc g ps assign body).wpIn (FW none) nn C.P Q a w:=by
  unfold LW at h
  split at h
  case h_2=>cases h
  rename_i gf first caps hev
  split at h
  case h_2=>cases h
  rename_i fn hfn
  split at h
  case h_2=>cases h
  rename_i c hbody
  cases hc:(gi c&&fn.results.isEmpty) with
  | false=>rw [hc] at h;cases h
  | true =>
  rw [hc] at h
  rw [Bool.and_eq_true] at hc
  simp only [cond_true] at h
  split at h
  · cases h
  case h_3=>cases h
  rename_i e1 st1 o1 p1 hne h1
  cases hcl:sd st1.heap with
  | false=>rw [hcl] at h;cases h
  | true =>
  rw [hcl] at h
  simp only [cond_true] at h
  split at h
  case h_2=>cases h
  rename_i e2 hend
  simp only [Option.some.injEq,Prod.mk.injEq] at h;obtain ⟨rfl,rfl,rfl,rfl⟩:=h
  exact Qk hC hev hfn hbody hc.2 hne hcl hend hpn hs (fun ρi wi ai Qi S0 P0 _ hQi=>hself (some ⟨st.next,st.tmps,ps,assign,body⟩) c _ _ _ _ _ _ h1 ho none _ ρi ai wi _ (.inl hc.1) S0 P0 fun ρ' a' w' P1=>hQi ρ' a' w' P1.stp.ext P1.stp.wle P1.sr P1.le P1.back P1.pin) hQ
theorem RW{C:uv}(hC:C.Ok){run:eX}(hrun:Ly C.P run){N:Nat}{self:mK}(hself:uE C.P self) :uE C.P (Hr C run N self):=by
  intro y c st p e st' obs p' h ho ro nn ρ a w Q hm hs hp hQ
  unfold Hr at h
  simp only at h
  split at h
  · simp only [Option.some.injEq,Prod.mk.injEq] at h;obtain ⟨rfl,rfl,rfl,rfl⟩:=h
    exact wpIn_skip (hQ ρ a w (mr.refl hs hp))
  · simp only [Option.some.injEq,Prod.mk.injEq] at h;obtain ⟨rfl,rfl,rfl,rfl⟩:=h
    exact wpIn_label (hQ ρ a w (mr.refl hs hp))
  · exact RV hC hrun (afQ hself y) h ho hs hp hQ
  · rename_i x z
    refine wpIn_seq ?_
    split at h
    · rename_i st1 o1 p1 h1
      split at h
      case h_2=>cases h
      rename_i e2 wB o2 p2 h2
      simp only [Option.some.injEq,Prod.mk.injEq] at h;obtain ⟨rfl,rfl,rfl,rfl⟩:=h
      rw [bh] at ho
      refine hself y x st p _ _ _ _ h1 ho.1 ro nn ρ a w _ (hm.sub fun q=>by simp only [gi,Bool.and_eq_true] at q;exact q.1) hs hp fun ρ1 a1 w1 P1=>?_
      exact hself y z st1 p1 _ _ _ _ h2 ho.2 ro nn ρ1 a1 w1 Q ((hm.sub fun q=>by simp only [gi,Bool.and_eq_true] at q;exact q.2).ext P1.stp.ext) P1.sr P1.pin fun ρ2 a2 w2 P2=>hQ ρ2 a2 w2 (P1.trans P2)
    · rename_i hne
      refine hself y x st p _ _ _ _ h ho ro nn ρ a w _ (hm.sub fun q=>by simp only [gi,Bool.and_eq_true] at q;exact q.1) hs hp fun ρ1 a1 w1 P1=>?_
      have:=hQ ρ1 a1 w1 P1
      cases e with
      | normal=>exact (hne _ _ _ h).elim
      | ret=>exact this
      | exit id=>exact this
  · rename_i cc x z
    split at h
    case h_2=>cases h
    rename_i b o1 p1 h1
    split at h
    case h_2=>cases h
    rename_i e2 wB o2 p2 h2
    simp only [Option.some.injEq,Prod.mk.injEq] at h;obtain ⟨rfl,rfl,rfl,rfl⟩:=h
    rw [bh] at ho
    have hb:=Eb (AH hs.heap.rom hs.tmps cc) h1 ho.1
    refine wpIn_cond hb ?_
    have hs':SR ρ { st with tmps:=tB st.tmps cc b } a w:=by
      refine ⟨hs.defers,?_,hs.heap⟩
      cases cc with
      | tmp t =>
        simp only [tB,B8]
        have:cV ρ w (st.tmps.set t (.bool true b)) (a.tmps.toList.set t (.bool b)):=hs.tmps.set (.bool _ _) t
        have e:a.tmps.toList.set t (.bool b)=a.tmps.toList:=by
          apply List.ext_getElem?
          intro j
          rw [List.getElem?_set]
          split
          · rename_i q;subst q
            split
            · rename_i hlt
              simp only [Act.eval] at hb
              rw [Array.getD_eq_getD_getElem?] at hb
              have hlt':t<a.tmps.size:=by simpa using hlt
              rw [Array.getElem?_eq_getElem hlt'] at hb
              simp only [Option.getD_some] at hb
              simp [hlt',hb]
            · rename_i hge
              rw [List.getElem?_eq_none (by omega)]
          · rfl
        rw [e] at this;exact this
      | const v=>exact hs.tmps
      | global g=>exact hs.tmps
      | func f=>exact hs.tmps
    have:=hself y _ _ p1 _ _ _ _ h2 ho.2 ro nn ρ a w Q (hm.sub fun q=>by simp only [gi,Bool.and_eq_true] at q;cases b<;>first | exact q.1 | exact q.2) hs' hp hQ
    cases b<;>exact this
  · rename_i id b
    refine wpIn_block ?_
    split at h
    · rename_i id' st1 o1 p1 h1
      cases hid:Nat.beq id' id with
      | true =>
        rw [hid] at h
        simp only [cond_true,Option.some.injEq,Prod.mk.injEq] at h;obtain ⟨rfl,rfl,rfl,rfl⟩:=h
        refine hself y b st p _ _ _ _ h1 ho ro nn ρ a w _ (hm.sub fun q=>by simpa only [gi] using q) hs hp fun ρ1 a1 w1 P1=>?_
        simp only [AE.real,Exit.inBlock,Nat.eq_of_beq_eq_true hid,if_true]
        exact hQ ρ1 a1 w1 P1
      | false =>
        rw [hid] at h
        simp only [cond_false,Option.some.injEq,Prod.mk.injEq] at h;obtain ⟨rfl,rfl,rfl,rfl⟩:=h
        refine hself y b st p _ _ _ _ h1 ho ro nn ρ a w _ (hm.sub fun q=>by simpa only [gi] using q) hs hp fun ρ1 a1 w1 P1=>?_
        have hne : ¬ id'=id:=fun e=>by subst e;simp [nv] at hid
        simp only [AE.real,Exit.inBlock,hne,if_false]
        exact hQ ρ1 a1 w1 P1
    · rename_i hne
      refine hself y b st p _ _ _ _ h ho ro nn ρ a w _ (hm.sub fun q=>by simpa only [gi] using q) hs hp fun ρ1 a1 w1 P1=>?_
      have:=hQ ρ1 a1 w1 P1
      cases e with
      | normal=>exact this
      | ret=>exact this
      | exit id=>exact (hne _ _ _ _ h).elim
  · rename_i b
    exact wpIn_loop_rounds N (LX (C:=C) (b:=b) (fun st p e st' obs p' h1 h2 ρ a w Q hm=>hself y b st p e st' obs p' h1 h2 ro nn ρ a w Q hm) N st p e st' obs p' h ho ρ a w Q (hm.sub fun q=>by simpa only [gi] using q) hs hp hQ)
  · simp only [Option.some.injEq,Prod.mk.injEq] at h;obtain ⟨rfl,rfl,rfl,rfl⟩:=h
    exact wpIn_exit (hQ ρ a w (mr.refl hs hp))
  · simp only [Option.some.injEq,Prod.mk.injEq] at h;obtain ⟨rfl,rfl,rfl,rfl⟩:=h
    exact wpIn_ret (hQ ρ a w (mr.refl hs hp))
  · rename_i b
    rcases hm with q | ⟨rfl,rfl,hpn⟩
    · cases q
    refine wpIn_wide.2 (wp_scope_straight (wpIn_wide.1 (hself none b st p _ _ _ _ h ho none nn ρ a w _ (.inr ⟨rfl,rfl,hpn⟩) hs hp fun ρ1 a1 w1 P1=>?_)))
    have:=hQ ρ1 a1 w1 P1
    cases e<;>exact this
  · rename_i g ps assign body
    split at h
    case h_2=>cases h
    rcases hm with q | ⟨rfl,_,q⟩
    · cases q
    · exact UB hC hself h ho q hs hQ
  · cases h
theorem uE.old{P:Program}{self:mK}(h:uE P self) :RU P (self none):=by
  intro c st p e st' obs p' hr ho ρ a w Q hpn hs hQ
  exact wpIn_wide.1 (h none c st p e st' obs p' hr ho none 0 ρ a w Q (.inr ⟨rfl,rfl,hpn⟩) hs trivial fun ρ' a' w' P1=>hQ ρ' a' w' P1.old)
theorem L0{P:Program}{w:World}{t:TypeId}{x:Value}{u:Value}(hx:∃ a,x=.pointer (some a))(h:(Instr.loadAt t x).run P w=.ok u w) :(do loadVar t (←asAddr x):Sem Value).run P w=.ok u w:=by
  obtain ⟨a,rfl⟩:=hx
  simpa [Instr.loadAt,Instr.sureAddr,asAddr] using h
def L4(tmps:Array Value) :ResultVar→Sem Value
  | .tmp t=>pure (tmps.getD t undef)
  | .cell x t=>do loadVar t (←asAddr (tmps.getD x undef))
theorem Ym(fn:Func)(tmps:Array Value) :results fn tmps=(do let vs ← fn.results.mapM (L4 tmps);pure (if h:vs.size=1 then vs[0] else .tuple vs)):=by
  unfold results
  congr 1
theorem A0{P:Program}{fn:Func}{st:aC}{ρ:ac}{a:Act}{w:World}(hs:SR ρ st a w) :∀ (l:List ResultVar) {vs:List AV} {obs:List Bool},kj P fn st l=some (vs,obs)→aB obs →
    ∃ us:List Value,(l.mapM (L4 a.tmps)).run P w=.ok us w∧cV ρ w vs us
  | [],vs,obs,h,ho=>by
    simp only [kj,Option.some.injEq,Prod.mk.injEq] at h;obtain ⟨rfl,rfl⟩:=h
    exact ⟨[],by simp,.nil⟩
  | .tmp t::l,vs,obs,h,ho=>by
    simp only [kj] at h
    split at h
    case h_2=>cases h
    rename_i vs' o' h1
    simp only [Option.some.injEq,Prod.mk.injEq] at h;obtain ⟨rfl,rfl⟩:=h
    obtain ⟨us,q1,q2⟩:=A0 hs l h1 ho
    refine ⟨a.tmps.getD t undef::us,?_,.cons _ _ _ _ (AH hs.heap.rom hs.tmps (.tmp t)) q2⟩
    simp only [List.mapM_cons,L4,Sem.run_bind,Sem.run_pure,Result.andThen_ok,q1]
  | .cell x t::l,vs,obs,h,ho=>by
    simp only [kj] at h
    split at h
    case h_2=>cases h
    rename_i v o rs vs' o' h1 h2
    simp only [Option.some.injEq,Prod.mk.injEq] at h;obtain ⟨rfl,rfl⟩:=h
    rw [bh] at ho
    obtain ⟨us,q1,q2⟩:=A0 hs l h2 ho.2
    have hv:=AH hs.heap.rom hs.tmps (.tmp x)
    simp only [XN,Act.eval] at hv
    obtain ⟨u,r1,r2⟩:=I6 (P:=P) hs.heap hv h1 ho.1
    have hp:∃ ad,a.tmps.getD x undef=.pointer (some ad):=by
      generalize a.tmps.getD x undef=z at hv
      unfold Dn at h1
      simp only at h1
      split at h1
      · rename_i e;rw [e] at hv;cases hv;exact ⟨_,rfl⟩
      · rename_i e;rw [e] at hv;cases hv;exact ⟨_,rfl⟩
      · cases h1
    have:=L0 hp r1
    refine ⟨u::us,?_,.cons _ _ _ _ r2 q2⟩
    simp only [List.mapM_cons,L4,Sem.run_bind] at this ⊢
    rw [this]
    simp only [Result.andThen_ok,Sem.run_bind,q1,Sem.run_pure]
theorem UC{P:Program}{fn:Func}{st:aC}{ρ:ac}{a:Act}{w:World}(hs:SR ρ st a w){vs:List AV}{obs:List Bool}(h:kj P fn st fn.results.toList=some (vs,obs))(ho:aB obs) :
    ∃ v,(results fn a.tmps).run P w=.ok v w∧VR ρ w (Hs vs) v:=by
  obtain ⟨us,q1,q2⟩:=A0 hs fn.results.toList h ho
  have hl:=q2.length
  have hm:(fn.results.mapM (L4 a.tmps)).run P w=.ok us.toArray w:=by
    rw [Array.mapM_eq_mapM_toList,map_eq_pure_bind,Sem.run_bind,q1,Result.andThen_ok,Sem.run_pure]
  rw [Ym,Sem.run_bind,hm,Result.andThen_ok]
  match vs,us,q2,hl with
  | [],[],q2,_=>exact ⟨.tuple #[],rfl,.tup _ _ .nil⟩
  | [v],[u],q2,_=>cases q2 with | cons _ _ _ _ h1 _=>exact ⟨u,rfl,h1⟩
  | v::v'::vs,u::u'::us,q2,_ =>
    refine ⟨.tuple (u::u'::us).toArray,?_,.tup _ _ q2⟩
    simp
theorem A1{P:Program}{f:FuncId}{fn:Func}{c:Code}(hf:P.funcs[f]? = some fn)(hc:fn.body=some c){lent:List aD}{args:List AV}{r:ir}{keep:Bool} 
    (h:∀ (ρ:ac) (w:World) (a:Act),iI ρ w lent→SR ρ (qW fn lent args) a w →
      c.wp P (fun e a' w'=>(e=.normal∨e=.ret)∧∃ ρ' st' vs obs,kI ρ ρ' w∧iq ρ.live w w'∧(∀ i,i<lent.length→ρ'.ok i→ρ.ok i)∧SR ρ' st' a' w'∧kj P fn st' fn.results.toList=some (vs,obs)∧aB obs∧LV lent.length keep st'.heap (Hs vs)=some r) a w):ag P f lent args r:=by
  intro ρ0 w us hN0 hv0
  refine ⟨⟨fn,hf,by rw [hc];rfl⟩,?_⟩
  have hv:=hv0.noPin hN0.pin (w.heap.size,none)
  have hN:iI (ρ0.pinned (w.heap.size,none)) w lent:=⟨hN0.heap.noPin hN0.pin _,hN0.only,rfl⟩
  generalize hρ:ρ0.pinned (w.heap.size,none)=ρ at hv hN
  have hb0:ρ.pin.1=w.heap.size:=by rw [←hρ];rfl
  have hlive:ρ.live=ρ0.live:=by rw [←hρ];rfl
  refine callsIn_wide.1 (callsIn_of_wp_marks (F:=FW none) (n:=0) hf hc trivial (wpIn_wide.2 ?_) rfl)
  have hlen:=hv.length
  have hs:SR ρ (qW fn lent args) { tmps:=us.toArray++Array.replicate (fn.ntmps-us.toArray.size) undef,defers:=[] } w:=by
    refine ⟨Nat.le_of_eq hb0,?_,hN.heap⟩
    simp only [qW,Array.toList_append,Array.toList_replicate,List.size_toArray,hlen]
    refine cV.append ?_ hv
    have:∀ n,cV ρ w (List.replicate n (.tup [])) (List.replicate n undef):=by
      intro n
      induction n with
      | zero=>exact .nil
      | succ n ih=>exact .cons _ _ _ _ (.tup [] #[] .nil) ih
    exact this _
  refine wp_mono (h ρ w _ hN hs) ?_
  rintro e a' w' ⟨he,ρ',st',vs,obs,E,W,hbk,S,hr,hob,hkeep⟩
  have pQ:LeavesInM (FW none) 0 P fn a'.tmps (fun e w'=>∃ u,e=.returned u∧iq ρ0.live w w'∧r.Holds ρ0 w w' lent.length u) a'.defers .returning w':=by
    refine AS a'.defers S.defers fun w'' Sf hb _=>?_
    have S':SR ρ' st' { a' with defers:=[] } w'':=⟨by show ρ'.pin.1≤_;rw [Sf.size];exact KY S.defers,S.tmps.soft Sf,S.heap.soft Sf⟩
    have W':iq ρ.live w w'':=⟨Sf.os.trans W.os,Sf.tape.trans W.tape,Sf.output.trans W.output,by rw [Sf.size];exact W.size,fun b hlt hnl=>(hb b (by rw [E.pin,hb0];exact hlt)).trans (W.same b hlt hnl),fun b c t z q=>by
      obtain ⟨c',k1,k2⟩:=W.sized b c t z q
      exact ⟨c',Sf.cells k1,k2⟩⟩
    obtain ⟨v,q1,q2⟩:=UC S' hr hob
    refine ⟨v,q1,v,rfl,by rw [←hlive];exact W',?_⟩
    obtain ⟨ρ2,E2,k2,H2,v2⟩:=Uz S'.heap hN E hbk W'.size q2 hkeep
    have hp2:ρ2.pin.2=none:=by rw [E2.pin];exact hN.pin
    subst hρ
    exact ⟨ρ2.pinned ρ0.pin,⟨E2.at_,E2.ok,E2.live,E2.new,E2.out,rfl⟩,k2,H2.noPin hp2 _,v2.noPin hp2 _⟩
  rcases he with rfl | rfl
  · exact pQ
  · exact pQ
theorem UD{C:uv}{S:wL}(hS:aH C.P S){self:xK}(hself:RU C.P self) :Ly C.P (pO C S self):=by
  intro f lent args p r obs p' h ho
  unfold pO at h
  split at h
  · rename_i alts hs
    simp only [Option.map_eq_some_iff,Prod.mk.injEq] at h
    obtain ⟨⟨alt,q⟩,h1,rfl,rfl,rfl⟩:=h
    exact hS f lent args alts alt hs (acw h1) ho
  · split at h
    case h_2=>cases h
    rename_i fn hf
    split at h
    case h_2=>cases h
    rename_i c hc
    split at h
    case h_2=>cases h
    rename_i e st o1 p1 hr
    cases hres:kj C.P fn st fn.results.toList with
    | none=>rw [hres] at h;cases e<;>cases h
    | some x =>
      obtain ⟨vs,o2⟩:=x
      rw [hres] at h
      have key:∀ (he:e=.normal∨e=.ret),(match LV lent.length (C.mode f).keep st.heap (Hs vs) with | some r=>some (r,o1++o2,p1) | none=>none)=some (r,obs,p')→ag C.P f lent args r:=by
        intro he h
        split at h
        case h_2=>cases h
        rename_i r' hk
        simp only [Option.some.injEq,Prod.mk.injEq] at h;obtain ⟨rfl,rfl,rfl⟩:=h
        rw [bh] at ho
        refine A1 (keep:=(C.mode f).keep) hf hc fun ρ w a hN hs=>?_
        refine hself c _ p e st o1 p1 hr ho.1 ρ a w _ hN.pin hs fun ρ' a' w' P1=>⟨?_,ρ',st,vs,o2,P1.ext,P1.wle,fun i hi q=>?_,P1.sr,hres,ho.2,hk⟩
        · rcases he with rfl | rfl
          · exact .inl rfl
          · exact .inr rfl
        · rcases P1.back i q with q | q
          · exact q
          · simp only [qW] at q;omega
      cases e with
      | normal=>exact key (.inl rfl) h
      | ret=>exact key (.inr rfl) h
      | exit id=>cases h
theorem uF{C:uv}(hC:C.Ok){S:wL}(hS:aH C.P S)(N:Nat) :∀ n,uE C.P (AZ C S N n)
  | 0=>fun y c st p e st' obs p' h=>by cases h
  | n+1=>RW hC (UD hS (uF hC hS N n).old) (uF hC hS N n)
theorem L5{C:uv}(hC:C.Ok){S:wL}(hS:aH C.P S)(N:Nat)(n:Nat) :RU C.P (iF C S N n):=(uF hC hS N n).old
theorem J4{C:uv}(hC:C.Ok){S:wL}(hS:aH C.P S)(N n:Nat){f:FuncId}{lent:List aD}{args:List AV}{p p':eF}{r:ir}{obs:List Bool}(h:pO C S (iF C S N n) f lent args p=some (r,obs,p'))(ho:aB obs) :
    ag C.P f lent args r:=UD hS (L5 hC hS N n) f lent args p r obs p' h ho
def KZ:List (Nat×J3)→Nat→Option J3
  | [],_=>none
  | (k,e)::l,f=>bif Nat.beq k f then some e else KZ l f
def UE:List (Nat×adS)→Nat→adS
  | [],_=>⟨[],false⟩
  | (k,m)::l,f=>bif Nat.beq k f then m else UE l f
def aba(P:Program)(l:List (Nat×J3))(ms:List (Nat×adS)) :uv:={ P,ext:=KZ l,mode:=UE ms,wrap:=false }
theorem Jj:∀ {l:List (Nat×J3)} {f:Nat} {k:J3},KZ l f=some k→(f,k)∈l
  | [],f,k,h=>by cases h
  | (a,e)::l,f,k,h=>by
    simp only [KZ] at h
    cases hb:Nat.beq a f with
    | true=>rw [hb] at h;simp only [cond_true,Option.some.injEq] at h;have:=Nat.eq_of_beq_eq_true hb;subst this;subst h;simp
    | false=>rw [hb] at h;simp only [cond_false] at h;exact List.mem_cons_of_mem _ (Jj h)
structure Ql (P:Program) (f:Nat) (k:J3):Prop where
  fn : ∃ fn, P.funcs[f]? = some fn ∧ (fn.name == "runtime.NumGoroutine") = false ∧ fn.body.isNone = true ∧ Extern.findNext fn = none ∧ Extern.find fn = some (AQ k)
def abb(P : Program) : Bool := P.funcs.toList.all fun fn => !(fn.name == "runtime.NumGoroutine")
theorem adY{P:Program}{l:List (Nat×J3)}{ms:List (Nat×adS)}(hm:P.follows .mixedOrders=true)(hn:abb P=true)(he:∀ x∈l,Ql P x.1 x.2) :(aba P l ms).Ok:=by
  refine ⟨hm,fun f fn args w hf hb=>?_,fun f k args w hk=>?_⟩
  · have h1 : fn.name ≠ "runtime.NumGoroutine" := by
      have hmem:fn∈P.funcs.toList:=by
        have:fn∈P.funcs:=Array.mem_of_getElem? hf
        simpa using this
      have:=List.all_eq_true.1 hn fn hmem
      simpa using this
    have h2:fn.body≠none:=by intro q;rw [q] at hb;cases hb
    have hf':P.funcs[f]? = some fn:=hf
    have h3:fn.body.isNone=false:=by cases hq:fn.body<;>simp_all
    simp only [aba,callFunc,Sem.run_bind,run_program,Result.andThen_ok,hf',beq_eq_false_iff_ne.2 h1,Bool.false_eq_true,if_false,h3,Sem.run_pure]
  · obtain ⟨fn,h1,h2,h3,h4,h5⟩:=(he _ (Jj hk)).fn
    have:=run_callFunc_extern (P:=P) h1 h2 h3 h4 h5 args w
    simp only [aba]
    rw [this,Sem.run_bind]
    rfl
def At(k:Nat)(ρ0:ac)(w0:World)(st:aC)(a:Act)(w:World) :Prop:=∃ ρ,kI ρ0 ρ w0∧iq ρ0.live w0 w∧SR ρ st a w∧(∀ i,i<k→ρ.ok i→ρ0.ok i)∧k≤st.next
def Sub(lent:List aD)(st st':aC) :Prop:=∀ ρ0 w0 a w,iI ρ0 w0 lent→At lent.length ρ0 w0 st a w→At lent.length ρ0 w0 st' a w
theorem Sub.refl(lent:List aD)(st:aC) :Sub lent st st:=fun _ _ _ _ _ h=>h
theorem Sub.trans{lent:List aD}{a b c:aC}(h:Sub lent a b)(k:Sub lent b c) :Sub lent a c:=fun _ _ _ _ hN q=>k _ _ _ _ hN (h _ _ _ _ hN q)
def UF:AV→AV
  | .flt _ x=>.flt false x
  | .bool _ b=>.bool false b
  | v=>v
def nmB(σ:Nat→Option Nat) :aD→aD
  | .vs l=>.vs ((nmL σ l).map UF)
  | d=>d
def vK(σ:Nat→Option Nat)(h:bN) :Nat→List Nat→bN
  | _,[]=>[]
  | i,b::l=>match be h b with
    | some d=>(i,nmB σ d)::vK σ h (i+1) l
    | none=>vK σ h (i+1) l
def ahT(b:Bool)(v u:AV) :AV :=
  match b with
  | true=>v
  | false=>u
def agG:List (Nat×AV)→Nat→AV
  | [],_=>.any
  | (k,v)::l,t=>ahT (Nat.beq k t) v (agG l t)
def Qm(L:List (Nat×AV)) :Nat→Nat→List AV
  | _,0=>[]
  | t,n+1=>agG L t::Qm L (t+1) n
def ah(n:Nat)(L:List (Nat×AV)) :List AV:=Qm L 0 n
def nmT(σ:Nat→Option Nat)(ks:List Nat) :Nat→List AV→List AV
  | _,[]=>[]
  | t,v::l=>(bif sc ks t then UF (Ux σ v) else .any)::nmT σ ks (t+1) l
def norm(keep ks:List Nat)(st:aC) :aC :=
  ⟨nmT (jB keep 0) ks 0 st.tmps,vK (jB keep 0) st.heap 0 keep,keep.length⟩
theorem UG{ρ:ac}{w:World}{v:AV}{u:Value}(h:VR ρ w v u) :VR ρ w (UF v) u:=by
  cases h<;>simp only [UF]<;>first | exact .bool _ _ | (rename_i hf;refine .flt _ _ _ ?_;rcases hf with rfl | ⟨_,h2,h3⟩;exact .inl rfl;exact .inr ⟨rfl,h2,h3⟩) | skip
  case int=>exact .int _ _
  case str=>exact .str _
  case nptr=>exact .nptr
  case ptr hb=>exact .ptr _ _ _ _ hb
  case iptr=>rename_i bw d k i j bl o u' ha hb hr hg hc hv hk;exact .iptr bw d k i j bl o _ (by assumption) (by assumption) (by assumption) (by assumption) (by assumption) (by assumption) (by assumption)
  case nsl=>exact .nsl
  case esl=>exact .esl _
  case zsl=>exact .zsl _ _
  case nan=>exact .nan _ (by assumption)
  case sl=>exact .sl _ _ _ _ _ _ _ (by assumption) (by assumption) (by assumption) _ _ (by assumption) (by assumption)
  case slEnd=>exact .slEnd _ _ _ _ _
  case imm=>exact .imm _ _ _ _ _ _ _ _ _ _ (by assumption) (by assumption) (by assumption) (by assumption) (by assumption) (by assumption) (by assumption) (by assumption)
  case immEnd=>exact .immEnd _ _ _ _ _ _ _ (by assumption) (by assumption) (by assumption)
  case fn=>exact .fn _ _ _ _ _ (by assumption) (by assumption)
  case nfn=>exact .nfn
  case gmap=>exact .gmap _ _ _ _ _ _ (by assumption) (by assumption) (by assumption) (by assumption) (by assumption) (by assumption) (by assumption) (by assumption)
  case gvar=>exact .gvar _ _ _ _ (by assumption) (by assumption) (by assumption)
  case agg=>exact .agg _ _ (by assumption)
  case tup=>exact .tup _ _ (by assumption)
  case iface=>exact .iface _ _ _ (by assumption)
  case niface=>exact .niface
  case yld=>exact .yld _ _ (by assumption)
  case any=>exact .any _
theorem Yn{ρ:ac}{keep ks:List Nat}{w:World} :∀ (l:List AV) (t:Nat) {c:List Value},cV ρ w l c→cV (ρ.renamed keep) w (nmT (jB keep 0) ks t l) c
  | [],t,c,h=>by cases h;exact .nil
  | v::l,t,c,h=>by
    cases h with | cons _ u _ c' h1 h2 =>
    simp only [nmT]
    refine .cons _ _ _ _ ?_ (Yn l (t+1) h2)
    cases sc ks t with
    | true=>exact UG (Qh v h1)
    | false=>exact .any u
theorem xL{σ:Nat→Option Nat}{h:bN} :∀ {l:List Nat} {i c:Nat} {d:aD},be (vK σ h i l) c=some d→i≤c∧∃ b e,l[c-i]? = some b∧be h b=some e∧d=nmB σ e
  | [],i,c,d,q=>by cases q
  | b::l,i,c,d,q=>by
    simp only [vK] at q
    have next:be (vK σ h (i+1) l) c=some d→i≤c∧∃ b' e,(b::l)[c-i]? = some b'∧be h b'=some e∧d=nmB σ e:=by
      intro q
      obtain ⟨h1,b',e,h2,h3,h4⟩:=xL q
      refine ⟨by omega,b',e,?_,h3,h4⟩
      have:c-i=(c-(i+1))+1:=by omega
      rw [this];simpa using h2
    split at q
    · rename_i e he
      simp only [fb,dA] at q
      cases hc:Nat.beq i c with
      | true =>
        rw [hc] at q;simp only [cond_true,Option.some.injEq] at q
        have:=Nat.eq_of_beq_eq_true hc;subst this
        exact ⟨Nat.le_refl _,b,e,by simp,he,q.symm⟩
      | false=>rw [hc] at q;exact next q
    · exact next q
theorem ad0{σ:Nat→Option Nat}{d:aD}(h:d.recKept) :(nmB σ d).recKept:=by
  cases d<;>first | exact h | trivial
theorem UH{σ:Nat→Option Nat}{d:aD}{x:Nat}{v:AV}(h:(nmB σ d).cell? x=some v)(hr:d.recKept) :∃ v',d.cell? x=some v'∧(v=UF (Ux σ v')∨(v=v'∧v.foreign=true)):=by
  cases d with
  | vs l =>
    simp only [nmB,aD.cell?,List.getElem?_map,RT,Option.map_map,Option.map_eq_some_iff,Function.comp] at h
    obtain ⟨v',h1,rfl⟩:=h
    exact ⟨v',h1,.inl rfl⟩
  | fl xs=>exact ⟨v,h,.inr ⟨rfl,aU (d:=.fl xs) hr rfl x v h⟩⟩
  | ns k xs=>exact ⟨v,h,.inr ⟨rfl,aU (d:=.ns k xs) hr rfl x v h⟩⟩
  | bs xs=>exact ⟨v,h,.inr ⟨rfl,aU (d:=.bs xs) hr rfl x v h⟩⟩
  | ss xs=>exact ⟨v,h,.inr ⟨rfl,aU (d:=.ss xs) hr rfl x v h⟩⟩
  | rows k m get=>exact ⟨v,h,.inr ⟨rfl,aU (d:=.rows k m get) hr rfl x v h⟩⟩
  | cols m cs=>exact ⟨v,h,.inr ⟨rfl,aU (d:=.cols m cs) hr rfl x v h⟩⟩
def RX:Nat→Nat→List Nat→Bool
  | 0,_,_=>true
  | _+1,_,[]=>false
  | k+1,i,b::l=>Nat.beq b i&&RX k (i+1) l
theorem xM:∀ {k i:Nat} {l:List Nat},RX k i l=true→∀ j,j<k→l[j]? = some (i+j)
  | 0,i,l,_,j,hj=>by omega
  | k+1,i,[],h,j,hj=>by cases h
  | k+1,i,b::l,h,j,hj=>by
    simp only [RX,Bool.and_eq_true] at h
    cases j with
    | zero=>simp;exact Nat.eq_of_beq_eq_true h.1
    | succ j=>simp only [List.getElem?_cons_succ];rw [xM h.2 j (by omega)];congr 1;omega
def Ei(k:Nat)(keep:List Nat) :Bool:=vF keep&&RX k 0 keep
theorem Ej{ρ:ac}{keep:List Nat}{i b:Nat}(q:keep[i]? = some b) :(ρ.renamed keep).at_ i=ρ.at_ b:=by simp [ac.renamed,q]
theorem abc{keep:List Nat}(hn:vF keep=true){ρ:ac}{w:World}{h:bN}{n:Nat}(hh:HR ρ w h n) :HR (ρ.renamed keep) w (vK (jB keep 0) h 0 keep) keep.length:=by
  have atL:∀ {i b:Nat},keep[i]? = some b→(ρ.renamed keep).at_ i=ρ.at_ b:=fun q=>Ej q
  refine ⟨fun c d q=>?_,fun c c' d d' q q' ok1 ok2 he=>?_,hh.fresh,hh.liveLt,hh.outLt,fun c q=>?_,fun x hx=>fg (hh.rom x hx) (gS (Rom.kept x hx))⟩
  · obtain ⟨_,b,e,h1,h2,rfl⟩:=xL q
    rw [Nat.sub_zero] at h1
    rcases hh.cell b e h2 with ⟨k1,k2,hr,ce,t,r1,r2⟩ | ⟨k1,k2,k3,k4⟩
    · refine .inl ⟨⟨b,h1,k1⟩,by rw [atL h1];exact k2,ad0 hr,ce,t,by rw [atL h1];exact r1,fun x v hx=>?_⟩
      obtain ⟨v',s1,s2⟩:=UH hx hr
      obtain ⟨u,t1,t2⟩:=r2 x v' s1
      refine ⟨u,t1,?_⟩
      rcases s2 with rfl | ⟨rfl,hf⟩
      · exact UG (Qh v' t2)
      · exact fg t2 hf
    · refine .inr ⟨?_,(List.getElem?_eq_some_iff.1 h1).1,ad0 k3,fun x=>?_⟩
      · rintro ⟨b',q1,q2⟩
        rw [h1] at q1;cases q1
        exact k1 q2
      · cases hc:(nmB (jB keep 0) e).cell? x with
        | none=>rfl
        | some v=>obtain ⟨v',s1,_⟩:=UH hc k3;rw [k4 x] at s1;cases s1
  · obtain ⟨_,b,e,h1,h2,rfl⟩:=xL q
    obtain ⟨_,b',e',h1',h2',rfl⟩:=xL q'
    rw [Nat.sub_zero] at h1 h1'
    obtain ⟨x,x1,x2⟩:=ok1
    obtain ⟨y,y1,y2⟩:=ok2
    rw [h1] at x1;cases x1
    rw [h1'] at y1;cases y1
    rw [atL h1,atL h1'] at he
    have:=hh.inj b b' e e' h2 h2' x2 y2 he
    subst this
    exact tu hn h1 h1'
  · obtain ⟨b,h1,_⟩:=q
    exact (List.getElem?_eq_some_iff.1 h1).1
theorem ad1{lent:List aD}{keep ks:List Nat}(hk:Ei lent.length keep=true)(st:aC) :Sub lent st (norm keep ks st):=by
  unfold Ei at hk
  rw [Bool.and_eq_true] at hk
  obtain ⟨hn,hid⟩:=hk
  have idL:∀ {i:Nat},i<lent.length→keep[i]? = some i:=fun q=>by have:=xM hid _ q;simpa using this
  rintro ρ0 w0 a w hN ⟨ρ,E,W,S,hbk,hle⟩
  refine ⟨ρ.renamed keep,⟨fun b q=>?_,fun b q=>⟨b,idL (hN.heap.lt b q),E.ok b q⟩,E.live,E.new,E.out,E.pin⟩,W,⟨S.defers.renamed,Yn _ _ S.tmps,abc hn S.heap⟩,fun i hi q=>?_,?_⟩
  · rw [Ej (idL (hN.heap.lt b q))];exact E.at_ b q
  · obtain ⟨b,q1,q2⟩:=q
    rw [idL hi] at q1;cases q1
    exact hbk i hi q2
  · simp only [norm]
    rcases Nat.lt_or_ge keep.length lent.length with q | q
    · have:=idL q
      rw [List.getElem?_eq_none (Nat.le_refl _)] at this;cases this
    · exact q
inductive GP where
  | slot (t:Nat)
  | part (t i:Nat)
  | cell (b i:Nat)
def gL.empty:gL→Bool
  | .cf [] | .ci _ [] | .cb [] | .cs [] | .cfl [] | .cns _ []=>true
  | _=>false
def FO:List gL→Bool
  | []=>true
  | c::l=>c.empty&&FO l
def aD.isVoid:aD→Bool
  | .fl [] | .ns _ [] | .bs [] | .ss [] | .vs []=>true
  | .cols 0 cs=>FO cs
  | _=>false
theorem L6{c:gL}(h:c.empty=true) :c.len=0:=by
  unfold gL.empty at h
  split at h<;>first | rfl | cases h
theorem vL:∀ {l:List gL},FO l=true→∀ c∈l,c.len=0
  | [],_,c,hc=>by cases hc
  | c::l,h,x,hx=>by
    simp only [FO,Bool.and_eq_true] at h
    rcases List.mem_cons.1 hx with rfl | q
    · exact L6 h.1
    · exact vL h.2 x q
theorem A2{d:aD}(h:d.isVoid=true) :d.recKept∧d.void:=by
  unfold aD.isVoid at h
  split at h
  case h_6 =>
    rename_i cs
    have:=vL h
    refine ⟨this,fun x=>?_⟩
    cases hc:(aD.cols 0 cs).cell? x with
    | none=>rfl
    | some v =>
      obtain ⟨c,_,h2,h3⟩:=ij hc
      have:=AF h3
      rw [vL h c h2] at this;exact absurd this (Nat.not_lt_zero _)
  case h_7=>cases h
  all_goals exact ⟨trivial,fun x=>by simp [aD.cell?]⟩
theorem L7(b w es:Nat) :bp .nsl (.sl b w es 0 0 0):=by
  intro ρ w' u h;cases h;exact .slEnd _ _ _ _ _
theorem HR.weaken{ρ:ac}{w:World}{h:bN}{n b:Nat}{d d':aD}(hh:HR ρ w h n)(hg:be h b=some d)(hr:d'.recKept)(hw:∀ x v',d'.cell? x=some v'→∃ v,d.cell? x=some v∧bp v v') :HR ρ w (eY h b d') n:=by
  have look:∀ x e,be (eY h b d') x=some e→(x=b∧e=d')∨(x≠b∧be h x=some e):=by
    intro x e hx
    rw [cR] at hx
    by_cases q:b=x
    · rw [if_pos q] at hx;cases hx;exact .inl ⟨q.symm,rfl⟩
    · rw [if_neg q] at hx;exact .inr ⟨fun e=>q e.symm,hx⟩
  have had:∀ x e,be (eY h b d') x=some e→∃ e',be h x=some e':=by
    intro x e hx
    rcases look x e hx with ⟨rfl,_⟩ | ⟨_,q⟩
    · exact ⟨d,hg⟩
    · exact ⟨e,q⟩
  refine ⟨fun x e hx=>?_,fun x y e f h1 h2 ok1 ok2 he=>?_,hh.fresh,hh.liveLt,hh.outLt,hh.lt,hh.rom⟩
  · rcases look x e hx with ⟨rfl,rfl⟩ | ⟨_,q⟩
    · rcases hh.cell x d hg with ⟨k1,k2,_,c,t,r1,r2⟩ | ⟨k1,k2,_,k4⟩
      · refine .inl ⟨k1,k2,hr,c,t,r1,fun y v' hy=>?_⟩
        obtain ⟨v,q1,q2⟩:=hw y v' hy
        obtain ⟨u,t1,t2⟩:=r2 y v q1
        exact ⟨u,t1,q2 _ _ _ t2⟩
      · refine .inr ⟨k1,k2,hr,fun y=>?_⟩
        cases hc:e.cell? y with
        | none=>rfl
        | some v'=>obtain ⟨v,q1,_⟩:=hw y v' hc;rw [k4 y] at q1;cases q1
    · exact hh.cell x e q
  · obtain ⟨e',q1⟩:=had x e h1
    obtain ⟨f',q2⟩:=had y f h2
    exact hh.inj x y e' f' q1 q2 ok1 ok2 he
def Yo(st:aC)(pos:GP)(w es:Nat)(d:aD) :aC :=
  match pos with
  | .slot t =>
    match st.tmps[t]? with
    | some .nsl=>⟨st.tmps.set t (.sl st.next w es 0 0 0),eY st.heap st.next d,st.next+1⟩
    | some .esl=>⟨st.tmps.set t (.sl st.next w es 0 0 0),eY st.heap st.next d,st.next+1⟩
    | _=>st
  | .part t i =>
    match st.tmps[t]? with
    | some (.agg l) =>
      match l[i]? with
      | some .nsl=>⟨st.tmps.set t (.agg (l.set i (.sl st.next w es 0 0 0))),eY st.heap st.next d,st.next+1⟩
      | _=>st
    | _=>st
  | .cell b i =>
    match be st.heap b with
    | some (.vs l) =>
      match l[i]? with
      | some .nsl=>⟨st.tmps,eY (eY st.heap b (.vs (l.set i (.sl st.next w es 0 0 0)))) st.next d,st.next+1⟩
      | _=>st
    | _=>st
theorem ad2(b w es:Nat) :bp .esl (.sl b w es 0 0 0):=by
  intro ρ w' u h;cases h;exact .slEnd _ _ _ _ _
theorem uG{ρ:ac}{w:World} :∀ {l:List AV} {c:List Value} {i:Nat} {v v':AV},cV ρ w l c→l[i]? = some v→bp v v'→cV ρ w (l.set i v') c
  | _,_,i,v,v',.nil,h,_=>by simp at h
  | _,_,0,v,v',.cons a u l c h t,hi,hw=>by simp at hi;subst hi;exact .cons _ _ _ _ (hw _ _ _ h) t
  | _,_,i+1,v,v',.cons a u l c h t,hi,hw=>.cons _ _ _ _ h (uG t (by simpa using hi) hw)
structure Jk (st st':aC):Prop where
  sr:∀ (ρ:ac) (a:Act) (w:World),SR ρ st a w→SR ρ st' a w
  le:st.next≤st'.next
  mark:∀ b,b<st.next→(jc (be st.heap b)).isSome=true→be st'.heap b=be st.heap b
theorem Jk.refl(st:aC) :Jk st st:=⟨fun _ _ _ h=>h,Nat.le_refl _,fun _ _ _=>rfl⟩
theorem Jk.trans{a b c:aC}(h:Jk a b)(k:Jk b c) :Jk a c:=⟨fun ρ x w q=>k.sr ρ x w (h.sr ρ x w q),Nat.le_trans h.le k.le,fun x hx hs=>by
  have:=h.mark x hx hs
  exact (k.mark x (Nat.lt_of_lt_of_le hx h.le) (by rw [this];exact hs)).trans this⟩
theorem Jk.sub{lent:List aD}{st st':aC}(h:Jk st st') :Sub lent st st':=by
  rintro ρ0 w0 a w' hN ⟨ρ,E,W,S,hbk,hle⟩
  exact ⟨ρ,E,W,h.sr _ _ _ S,hbk,Nat.le_trans hle h.le⟩
theorem Qn{h:bN}{b c i:Nat}{l:List AV}{v:AV}{d:aD}(hg:be h b=some (.vs l))(hi:l[i]? = some v)(hs:(jc (be h c)).isSome=true) :be (eY h b d) c=be h c:=by
  rw [cR]
  by_cases e:b=c
  · subst e
    rw [hg] at hs
    cases l with
    | nil=>simp at hi
    | cons x l=>simp [jc] at hs
  · rw [if_neg e]
theorem Yp{st:aC}{pos:GP}{w es:Nat}{d:aD}(hd:d.isVoid=true) :Jk st (Yo st pos w es d):=by
  obtain ⟨d1,d2⟩:=A2 hd
  have hset1:∀ {h:bN} {b:Nat},b<st.next→be (eY h st.next d) b=be h b:=fun hb=>by rw [cR,if_neg (by omega)]
  have hno:∀ {ρ:ac} {a:Act} {w':World},SR ρ st a w'→¬ ρ.ok st.next:=fun S q=>Nat.lt_irrefl _ (S.heap.lt _ q)
  have h1:∀ {ρ:ac} {a:Act} {w':World},SR ρ st a w'→HR ρ w' (eY st.heap st.next d) (st.next+1):=fun S=>(S.heap.le (Nat.le_succ _)).ghost (hno S) (Nat.lt_succ_self _) d1 d2
  unfold Yo
  split
  · split
    · rename_i t h
      exact ⟨fun ρ a w' S=>⟨S.defers,uG S.tmps h (L7 _ _ _),h1 S⟩,Nat.le_succ _,fun b hb _=>hset1 hb⟩
    · rename_i t h
      exact ⟨fun ρ a w' S=>⟨S.defers,uG S.tmps h (ad2 _ _ _),h1 S⟩,Nat.le_succ _,fun b hb _=>hset1 hb⟩
    · exact Jk.refl _
  · split
    · rename_i t i l h
      split
      · rename_i h2
        refine ⟨fun ρ a w' S=>⟨S.defers,uG S.tmps h ?_,h1 S⟩,Nat.le_succ _,fun b hb _=>hset1 hb⟩
        intro ρ w u hu
        cases hu with | agg _ c hc=>exact .agg _ _ (uG hc h2 (L7 _ _ _))
      · exact Jk.refl _
    · exact Jk.refl _
  · split
    · rename_i b i _ l h
      split
      · rename_i h2
        refine ⟨fun ρ a w' S=>?_,Nat.le_succ _,fun c hc hs=>by rw [hset1 hc];exact Qn h h2 hs⟩
        have hw:HR ρ w' (eY st.heap b (.vs (l.set i (.sl st.next w es 0 0 0)))) st.next:=by
          refine S.heap.weaken h trivial fun x v' hx=>?_
          simp only [aD.cell?,List.getElem?_set] at hx ⊢
          by_cases hi:i=x
          · subst hi
            rw [if_pos rfl] at hx
            split at hx
            · cases hx;exact ⟨_,h2,L7 _ _ _⟩
            · cases hx
          · rw [if_neg hi] at hx;exact ⟨v',hx,bp.refl _⟩
        exact ⟨S.defers,S.tmps,(hw.le (Nat.le_succ _)).ghost (hno S) (Nat.lt_succ_self _) d1 d2⟩
      · exact Jk.refl _
    · exact Jk.refl _
def L8(f:AV→Option AV)(st:aC)(pos:GP) :aC :=
  match pos with
  | .slot t =>
    match st.tmps[t]? with
    | some v=>match f v with
      | some v'=>⟨st.tmps.set t v',st.heap,st.next⟩
      | none=>st
    | none=>st
  | .part t i =>
    match st.tmps[t]? with
    | some (.agg l) =>
      match l[i]? with
      | some v=>match f v with
        | some v'=>⟨st.tmps.set t (.agg (l.set i v')),st.heap,st.next⟩
        | none=>st
      | none=>st
    | _=>st
  | .cell b i =>
    match be st.heap b with
    | some (.vs l) =>
      match l[i]? with
      | some v=>match f v with
        | some v'=>⟨st.tmps,eY st.heap b (.vs (l.set i v')),st.next⟩
        | none=>st
      | none=>st
    | _=>st
theorem Ek{st:aC}{pos:GP}{f:AV→Option AV}(hf:∀ v v',f v=some v'→bp v v') :Jk st (L8 f st pos):=by
  unfold L8
  split
  · split
    · rename_i t v h
      split
      · rename_i v' hv
        exact ⟨fun ρ a w' S=>⟨S.defers,uG S.tmps h (hf _ _ hv),S.heap⟩,Nat.le_refl _,fun _ _ _=>rfl⟩
      · exact Jk.refl _
    · exact Jk.refl _
  · split
    · rename_i t i l h
      split
      · rename_i v h2
        split
        · rename_i v' hv
          refine ⟨fun ρ a w' S=>⟨S.defers,uG S.tmps h ?_,S.heap⟩,Nat.le_refl _,fun _ _ _=>rfl⟩
          intro ρ w u hu
          cases hu with | agg _ c hc=>exact .agg _ _ (uG hc h2 (hf _ _ hv))
        · exact Jk.refl _
      · exact Jk.refl _
    · exact Jk.refl _
  · split
    · rename_i b i _ l h
      split
      · rename_i v h2
        split
        · rename_i v' hv
          refine ⟨fun ρ a w' S=>?_,Nat.le_refl _,fun c hc hs=>Qn h h2 hs⟩
          have hw:HR ρ w' (eY st.heap b (.vs (l.set i v'))) st.next:=by
            refine S.heap.weaken h trivial fun x u hx=>?_
            simp only [aD.cell?,List.getElem?_set] at hx ⊢
            by_cases hi:i=x
            · subst hi
              rw [if_pos rfl] at hx
              split at hx
              · cases hx;exact ⟨_,h2,hf _ _ hv⟩
              · cases hx
            · rw [if_neg hi] at hx;exact ⟨u,hx,bp.refl _⟩
          exact ⟨S.defers,S.tmps,hw⟩
        · exact Jk.refl _
      · exact Jk.refl _
    · exact Jk.refl _
theorem uH{d:aD}(h:d.isVoid=true) :d.kept=true∧d.foreign=true:=by
  unfold aD.isVoid at h
  split at h<;>first | exact ⟨rfl,rfl⟩ | cases h
theorem acy{d:aD}(w es:Nat)(hd:d.isVoid=true) :bp .nsl (.imm .free d w es 0 0):=by
  intro ρ w' u h;cases h;exact .immEnd _ _ _ _ _ _ _ (A2 hd).1 (fun _=>(uH hd).1) (uH hd).2
theorem acz{d:aD}(w es:Nat)(hd:d.isVoid=true) :bp .esl (.imm .free d w es 0 0):=by
  intro ρ w' u h;cases h;exact .immEnd _ _ _ _ _ _ _ (A2 hd).1 (fun _=>(uH hd).1) (uH hd).2
def Yq(w es:Nat)(d:aD) :AV→Option AV
  | .nsl | .esl=>some (.imm .free d w es 0 0)
  | _=>none
theorem UI{w es:Nat}{d:aD}(hd:d.isVoid=true) :∀ v v',Yq w es d v=some v'→bp v v':=by
  intro v v' h
  unfold Yq at h
  split at h
  · cases h;exact acy _ _ hd
  · cases h;exact acz _ _ hd
  · cases h
theorem abd{l:Lv}{ρ:ac}{bl:Nat}(ha:ρ.avoid .free bl) :ρ.avoid l bl:=kB (fun j=>ha j (Nat.zero_le _)) _ _
def ahd(l:Lv) :AV→Option AV
  | .imm .free d w es i n=>some (.imm l d w es i n)
  | .iptr .free d w i j=>some (.iptr l d w i j)
  | _=>none
theorem acA{l:Lv} :∀ v v',ahd l v=some v'→bp v v':=by
  intro v v' h
  unfold ahd at h
  split at h
  · cases h
    intro ρ w' u hu
    cases hu with
    | imm _ _ _ _ _ _ cap bl o u ha hb hc hv hn hr hk hg=>exact .imm _ _ _ _ _ _ cap bl o u (abd ha) hb hc hv hn hr (fun _=>hk rfl) hg
    | immEnd _ _ _ _ _ cap a hr hk hg=>exact .immEnd _ _ _ _ _ cap a hr (fun _=>hk rfl) hg
  · cases h
    intro ρ w' u hu
    cases hu with
    | iptr _ _ _ _ _ bl o u ha hb hc hv hr hk hg=>exact .iptr _ _ _ _ _ bl o u (abd ha) hb hc hv hr (fun _=>hk rfl) hg
  · cases h
def ad3:AV→Option AV
  | .imm _ d w es i n=>some (.imm .lent d w es i n)
  | .iptr _ d w i j=>some (.iptr .lent d w i j)
  | _=>none
theorem Yr:∀ v v',ad3 v=some v'→bp v v':=by
  intro v v' h
  unfold ad3 at h
  split at h
  · cases h
    intro ρ w' u hu
    cases hu with
    | imm _ _ _ _ _ _ cap bl o u ha hb hc hv hn hr hk hg=>exact .imm _ _ _ _ _ _ cap bl o u (D1 (O:=ρ.own) ha) hb hc hv hn hr (fun q=>by cases q) hg
    | immEnd _ _ _ _ _ cap a hr hk hg=>exact .immEnd _ _ _ _ _ cap a hr (fun q=>by cases q) hg
  · cases h
    intro ρ w' u hu
    cases hu with
    | iptr _ _ _ _ _ bl o u ha hb hc hv hr hk hg=>exact .iptr _ _ _ _ _ bl o u (D1 (O:=ρ.own) ha) hb hc hv hr (fun q=>by cases q) hg
  · cases h
inductive GK where
  | own (w es:Nat) (d:aD)
  | fre (w es:Nat) (d:aD)
  | lev (l:Lv)
  | low
abbrev GL:=List (GP×GK)
def El:GL→aC→aC
  | [],st=>st
  | (p,.fre w es d)::l,st=>El l (L8 (Yq w es d) st p)
  | (p,.own w es d)::l,st=>El l (Yo st p w es d)
  | (p,.lev v)::l,st=>El l (L8 (ahd v) st p)
  | (p,.low)::l,st=>El l (L8 ad3 st p)
def lf:GL→Bool
  | []=>true
  | (_,.own _ _ d)::l=>d.isVoid&&lf l
  | (_,.fre _ _ d)::l=>d.isVoid&&lf l
  | (_,.lev _)::l=>lf l
  | (_,.low)::l=>lf l
theorem qe:∀ {l:GL} {st:aC},lf l=true→Jk st (El l st)
  | [],st,_=>Jk.refl _
  | (p,.fre w es d)::l,st,h=>by
    simp only [lf,Bool.and_eq_true] at h
    exact (Ek (UI h.1)).trans (qe h.2)
  | (p,.own w es d)::l,st,h=>by
    simp only [lf,Bool.and_eq_true] at h
    exact (Yp h.1).trans (qe h.2)
  | (p,.lev v)::l,st,h=>(Ek acA).trans (qe (l:=l) (by simpa [lf] using h))
  | (p,.low)::l,st,h=>(Ek Yr).trans (qe (l:=l) (by simpa [lf] using h))
theorem Ys{lent:List aD}{l:GL}{st:aC}(h:lf l=true) :Sub lent st (El l st):=(qe h).sub
structure NS where
  gs:GL
  keep:List Nat
  ks:List Nat
def NS.ok(k:Nat)(s:NS) :Bool:=lf s.gs&&Ei k s.keep
def NS.on(s:NS)(st:aC) :aC:=norm s.keep s.ks (El s.gs st)
theorem Yt{lent:List aD}{s:NS}(h:s.ok lent.length=true)(st:aC) :Sub lent st (s.on st):=by
  unfold NS.ok at h
  rw [Bool.and_eq_true] at h
  exact (Ys h.1).trans (ad1 h.2 _)
def dp:Code→List Code
  | .seq a b=>dp a++dp b
  | .skip=>[]
  | .label _=>[]
  | c=>[c]
def Ht(P:Program) :List Code→(Exit→Act→World→Prop)→Act→World→Prop
  | [],K,a,w=>K .normal a w
  | c::l,K,a,w=>c.wp P (fun e a' w'=>match e with | .normal=>Ht P l K a' w' | e=>K e a' w') a w
theorem xN{P:Program}{K:Exit→Act→World→Prop} :∀ (l l':List Code) (a:Act) (w:World),Ht P l (fun e a' w'=>match e with | .normal=>Ht P l' K a' w' | e=>K e a' w') a w→Ht P (l++l') K a w
  | [],l',a,w,h=>h
  | c::l,l',a,w,h=>by
    simp only [List.cons_append,Ht] at h ⊢
    refine wp_mono h ?_
    intro e a' w' q
    cases e<;>first | exact xN l l' a' w' q | exact q
theorem vM{P:Program}{c:Code}{K:Exit→Act→World→Prop}{a:Act}{w:World}(h:Ht P [c] K a w) :c.wp P K a w:=by
  simp only [Ht] at h
  refine wp_mono h ?_
  intro e a' w' q
  cases e<;>exact q
theorem qX{P:Program} :∀ (c:Code) {K:Exit→Act→World→Prop} {a:Act} {w:World},Ht P (dp c) K a w→c.wp P K a w
  | .seq x y,K,a,w,h=>by
    simp only [dp] at h
    refine wp_seq (qX x ?_)
    have app:∀ (l l':List Code) (a:Act) (w:World),Ht P (l++l') K a w→Ht P l (fun e a' w'=>match e with | .normal=>Ht P l' K a' w' | e=>K e a' w') a w:=by
      intro l
      induction l with
      | nil=>intro l' a w h;exact h
      | cons c l ih =>
        intro l' a w h
        simp only [List.cons_append,Ht] at h ⊢
        refine wp_mono h ?_
        intro e a' w' q
        cases e<;>first | exact ih l' a' w' q | exact q
    have:=app _ _ _ _ h
    have mono:∀ (l:List Code) (K K':Exit→Act→World→Prop) (a:Act) (w:World),(∀ e a w,K e a w→K' e a w)→Ht P l K a w→Ht P l K' a w:=by
      intro l
      induction l with
      | nil=>intro K K' a w hK h;exact hK _ _ _ h
      | cons c l ih =>
        intro K K' a w hK h
        simp only [Ht] at h ⊢
        refine wp_mono h ?_
        intro e a' w' q
        cases e<;>first | exact ih K K' a' w' hK q | exact hK _ _ _ q
    refine mono _ _ _ _ _ ?_ this
    intro e a' w' q
    cases e<;>first | exact qX y q | exact q
  | .skip,K,a,w,h=>wp_skip h
  | .label _,K,a,w,h=>wp_label h
  | .region ..,K,a,w,h=>vM h
  | .cond ..,K,a,w,h=>vM h
  | .block ..,K,a,w,h=>vM h
  | .loop ..,K,a,w,h=>vM h
  | .exit ..,K,a,w,h=>vM h
  | .ret,K,a,w,h=>vM h
  | .scope ..,K,a,w,h=>vM h
  | .goto ..,K,a,w,h=>vM h
  | .rangeFunc ..,K,a,w,h=>vM h
  | .refuse ..,K,a,w,h=>vM h
def iy(P:Program)(lent:List aD)(cs:List Code)(st:aC)(Q:AE→aC→Prop) :Prop :=
  ∀ (ρ0:ac) (w0:World),iI ρ0 w0 lent→∀ (K:Exit→Act→World→Prop),(∀ e st' a' w',Q e st'→At lent.length ρ0 w0 st' a' w'→K e.real a' w')→∀ a w,At lent.length ρ0 w0 st a w→Ht P cs K a w
def Oz(self:xK) :List Code→aC→eF→Res
  | [],st,p=>some (.normal,st,[],p)
  | c::l,st,p =>
    match self c st p with
    | some (.normal,st1,o1,p1) =>
      match Oz self l st1 p1 with
      | some (e,wB,o2,p2)=>some (e,wB,o1++o2,p2)
      | none=>none
    | r=>r
theorem abe{P:Program}{self:xK}(hself:RU P self) :∀ (cs:List Code) {st st':aC} {p p':eF} {e:AE} {obs:List Bool},Oz self cs st p=some (e,st',obs,p')→aB obs→∀ {ρ:ac} {a:Act} {w:World} {Q:Exit→Act→World→Prop},ρ.pin.2=none→SR ρ st a w →
    (∀ ρ' a' w',LD ρ w st.next st' ρ' a' w'→Q e.real a' w')→Ht P cs Q a w
  | [],st,st',p,p',e,obs,h,ho,ρ,a,w,Q,hpn,hs,hQ=>by
    simp only [Oz,Option.some.injEq,Prod.mk.injEq] at h;obtain ⟨rfl,rfl,rfl,rfl⟩:=h
    exact hQ ρ a w (LD.refl hs)
  | c::l,st,st',p,p',e,obs,h,ho,ρ,a,w,Q,hpn,hs,hQ=>by
    simp only [Oz] at h
    split at h
    · rename_i st1 o1 p1 h1
      split at h
      case h_2=>cases h
      rename_i e2 wB o2 p2 h2
      simp only [Option.some.injEq,Prod.mk.injEq] at h;obtain ⟨rfl,rfl,rfl,rfl⟩:=h
      rw [bh] at ho
      refine hself c st p _ _ _ _ h1 ho.1 ρ a w _ hpn hs fun ρ1 a1 w1 P1=>?_
      exact abe hself l h2 ho.2 (by rw [P1.ext.pin];exact hpn) P1.sr fun ρ2 a2 w2 P2=>hQ ρ2 a2 w2 (P1.trans P2)
    · rename_i hne
      refine hself c st p _ _ _ _ h ho ρ a w _ hpn hs fun ρ1 a1 w1 P1=>?_
      have:=hQ ρ1 a1 w1 P1
      cases e with
      | normal=>exact (hne _ _ _ h).elim
      | ret=>exact this
      | exit id=>exact this
theorem At.post{lent:List aD}{ρ0 ρ ρ':ac}{w0 w w':World}{st st':aC}{a a':Act}(E:kI ρ0 ρ w0)(W:iq ρ0.live w0 w)(hbk:∀ i,i<lent.length→ρ.ok i→ρ0.ok i)(hle:lent.length≤st.next)(h:LD ρ w st.next st' ρ' a' w') :At lent.length ρ0 w0 st' a' w' :=
  ⟨ρ',E.trans h.ext W.size,W.trans h.wle (fun x hx q=>E.new x hx q),h.sr,fun i hi q=>(h.back i q).elim (hbk i hi) (fun r=>by omega),Nat.le_trans hle h.le⟩
theorem iy.weak{P:Program}{lent:List aD}{cs:List Code}{st st1:aC}{Q:AE→aC→Prop}(hs:Sub lent st st1)(h:iy P lent cs st1 Q) :iy P lent cs st Q :=
  fun ρ0 w0 hN K hK a w hA=>h ρ0 w0 hN K hK a w (hs _ _ _ _ hN hA)
theorem iy.nil{P:Program}{lent:List aD}{st:aC}{Q:AE→aC→Prop}(h:Q .normal st) :iy P lent [] st Q :=
  fun ρ0 w0 hN K hK a w hA=>hK .normal st a w h hA
def OA(P:Program)(lent:List aD)(rest:List Code)(e:AE)(st:aC)(Q:AE→aC→Prop) :Prop :=
  match e with
  | .normal=>iy P lent rest st Q
  | e=>Q e st
theorem OA.exit{P:Program}{lent:List aD}{rest:List Code}{id:Nat}{st:aC}{Q:AE→aC→Prop}(h:Q (.exit id) st) :OA P lent rest (.exit id) st Q:=h
theorem OA.ret{P:Program}{lent:List aD}{rest:List Code}{st:aC}{Q:AE→aC→Prop}(h:Q .ret st) :OA P lent rest .ret st Q:=h
theorem OA.normal{P:Program}{lent:List aD}{rest:List Code}{st:aC}{Q:AE→aC→Prop}(h:iy P lent rest st Q) :OA P lent rest .normal st Q:=h
def UJ(s:NS)(r:Res) :Option (AE×aC×List Bool) :=
  match r with
  | some (e,st,obs,_)=>some (e,s.on st,obs)
  | none=>none
theorem iy.seg{C:uv}(hC:C.Ok){S:wL}(hS:aH C.P S){lent:List aD}{N n:Nat}(k:Nat)(p:eF)(s:NS){cs:List Code}{st st1:aC}{e:AE}{obs:List Bool}{Q:AE→aC→Prop} 
    (h:UJ s (Oz (iF C S N n) (cs.take k) st p)=some (e,st1,obs)) (hn:s.ok lent.length=true) (ho:aB obs) (hr:OA C.P lent (cs.drop k) e st1 Q):iy C.P lent cs st Q:=by
  intro ρ0 w0 hN K hK a w ⟨ρ,E,W,S1,hbk,hle⟩
  rw [←List.take_append_drop k cs]
  apply xN
  unfold UJ at h
  split at h
  case h_2=>cases h
  rename_i e' wB obs' p' hrun
  simp only [Option.some.injEq,Prod.mk.injEq] at h;obtain ⟨rfl,rfl,rfl⟩:=h
  refine abe (L5 hC hS N n) _ hrun ho (by rw [E.pin];exact hN.pin) S1 fun ρ' a' w' P1=>?_
  have hA:=Yt hn wB ρ0 w0 a' w' hN (At.post (st:=st) (a:=a) E W hbk hle P1)
  cases e' with
  | normal=>exact hr ρ0 w0 hN K hK a' w' hA
  | ret=>exact hK _ _ _ _ hr hA
  | exit id=>exact hK _ _ _ _ hr hA
def FP(P:Program)(lent:List aD){σ:Type}(I:σ→aC)(G:σ→Prop)(m:σ→Nat)(s:σ)(id:Nat)(rest:List Code)(Q:AE→aC→Prop)(e:AE)(st:aC) :Prop :=
  match e with
  | .normal=>∃ s',G s'∧m s'<m s∧st=I s'
  | .exit j=>if j=id then iy P lent rest st Q else Q (.exit j) st
  | .ret=>Q .ret st
theorem FP.out{P:Program}{lent:List aD}{σ:Type}{I:σ→aC}{G:σ→Prop}{m:σ→Nat}{s:σ}{id:Nat}{rest:List Code}{Q:AE→aC→Prop}{st:aC}(h:iy P lent rest st Q) :FP P lent I G m s id rest Q (.exit id) st:=by
  simp only [FP,if_true];exact h
theorem FP.on{P:Program}{lent:List aD}{σ:Type}{I:σ→aC}{G:σ→Prop}{m:σ→Nat}{s:σ}{id:Nat}{rest:List Code}{Q:AE→aC→Prop}{st:aC}(s':σ)(hs:st=I s')(hm:m s'<m s)(hG:G s') :iy P lent [] st (FP P lent I G m s id rest Q) :=
  iy.nil ⟨s',hG,hm,hs⟩
theorem iy.loop{P:Program}{lent:List aD}{σ:Type}(I:σ→aC)(G:σ→Prop)(m:σ→Nat){id:Nat}{b:Code}{cs rest:List Code}{Q:AE→aC→Prop}(hcs:cs=.block id (.loop b)::rest) 
    (body:∀ s,G s→iy P lent (dp b) (I s) (FP P lent I G m s id rest Q)) (s:σ) (hs:G s):iy P lent cs (I s) Q:=by
  subst hcs
  intro ρ0 w0 hN K hK a w hA
  simp only [Ht]
  refine wp_block ?_
  refine wp_loop_rounds (m s+1) ?_
  have key:∀ n s,m s<n→G s→∀ a w,At lent.length ρ0 w0 (I s) a w→Code.rounds P b (Exit.inBlock id fun (e:Exit) a' w'=>match e with | .normal=>Ht P rest K a' w' | e=>K e a' w') n a w:=by
    intro n
    induction n with
    | zero=>intro s h;omega
    | succ n ih =>
      intro s hm hs a w hA
      rw [rounds_succ]
      refine qX b ?_
      refine body s hs ρ0 w0 hN _ ?_ a w hA
      intro e st' a' w' hR hA'
      cases e with
      | normal =>
        obtain ⟨s',h1,h2,rfl⟩:=hR
        exact ih s' (by omega) h1 a' w' hA'
      | ret=>exact hK _ _ _ _ hR hA'
      | exit j =>
        simp only [FP] at hR
        by_cases hj:j=id
        · subst hj
          rw [if_pos rfl] at hR
          simp only [AE.real,Exit.then,Exit.inBlock,if_true]
          exact hR ρ0 w0 hN K hK a' w' hA'
        · rw [if_neg hj] at hR
          simp only [AE.real,Exit.then,Exit.inBlock,hj,if_false]
          exact hK _ _ _ _ hR hA'
  exact key _ s (Nat.lt_succ_self _) hs a w hA
theorem iy.mono{P:Program}{lent:List aD}{cs:List Code}{st:aC}{Q Q':AE→aC→Prop}(hQ:∀ e st,Q e st→Q' e st)(h:iy P lent cs st Q) :iy P lent cs st Q' :=
  fun ρ0 w0 hN K hK a w hA=>h ρ0 w0 hN K (fun e st' a' w' q hA'=>hK e st' a' w' (hQ e st' q) hA') a w hA
theorem iy.block{P:Program}{lent:List aD}{id:Nat}{b:Code}{cs rest:List Code}{st:aC}{Q:AE→aC→Prop}(hcs:cs=.block id b::rest) 
    (h:iy P lent (dp b) st fun e st'=>match e with | .normal=>iy P lent rest st' Q | .exit j=>if j=id then iy P lent rest st' Q else Q (.exit j) st' | .ret=>Q .ret st'):iy P lent cs st Q:=by
  subst hcs
  intro ρ0 w0 hN K hK a w hA
  simp only [Ht]
  refine wp_block (qX b ?_)
  refine h ρ0 w0 hN _ ?_ a w hA
  intro e st' a' w' hR hA'
  cases e with
  | normal=>exact hR ρ0 w0 hN K hK a' w' hA'
  | ret=>exact hK _ _ _ _ hR hA'
  | exit j =>
    simp only at hR
    by_cases hj:j=id
    · subst hj
      rw [if_pos rfl] at hR
      simp only [AE.real,Exit.inBlock,if_true]
      exact hR ρ0 w0 hN K hK a' w' hA'
    · rw [if_neg hj] at hR
      simp only [AE.real,Exit.inBlock,hj,if_false]
      exact hK _ _ _ _ hR hA'
theorem iy.scope{P:Program}{lent:List aD}{b:Code}{cs rest:List Code}{st:aC}{Q:AE→aC→Prop}(hcs:cs=.scope b::rest) 
    (h:iy P lent (dp b) st fun e st'=>OA P lent rest e st' Q):iy P lent cs st Q:=by
  subst hcs
  intro ρ0 w0 hN K hK a w hA
  simp only [Ht]
  refine wp_scope_straight (qX b ?_)
  refine h ρ0 w0 hN _ ?_ a w hA
  intro e st' a' w' hR hA'
  cases e with
  | normal=>exact hR ρ0 w0 hN K hK a' w' hA'
  | ret=>exact hK _ _ _ _ hR hA'
  | exit j=>exact hK _ _ _ _ hR hA'
def abf(P:Program)(fn:Func)(k:Nat)(keep:Bool)(r:ir)(e:AE)(st:aC) :Prop :=
  (e=.normal∨e=.ret)∧∃ vs obs,kj P fn st fn.results.toList=some (vs,obs)∧aB obs∧LV k keep st.heap (Hs vs)=some r
theorem iy.contract{P:Program}{f:FuncId}{fn:Func}{c:Code}(hf:P.funcs[f]? = some fn)(hc:fn.body=some c){lent:List aD}{args:List AV}{r:ir}{keep:Bool} 
    (h:iy P lent (dp c) (qW fn lent args) (abf P fn lent.length keep r)):ag P f lent args r:=by
  refine A1 (keep:=keep) hf hc ?_
  intro ρ w a hN hs
  refine qX c ?_
  refine h ρ w hN _ ?_ a w ⟨ρ,kI.refl _ _,iq.refl _ _,hs,fun _ _ q=>q,Nat.le_refl _⟩
  rintro e st' a' w' ⟨he,vs,obs,h1,h2,h3⟩ ⟨ρ',E,W,S,hbk,_⟩
  refine ⟨?_,ρ',st',vs,obs,E,W,hbk,S,h1,h2,h3⟩
  rcases he with rfl | rfl
  · exact .inl rfl
  · exact .inr rfl
def ux(x:Nat) :Nat:=x%9223372036854775808
def oB(x y:Nat) :Nat:=x%9223372036854775808+y/9223372036854775808%2*9223372036854775808
def ad4(x y:Nat) :Bool:=(isNaN x&&isNaN y)||x==y
theorem oa(x:Nat) :BitVec.ofInt 64 (x:Int)=BitVec.ofNat 64 x:=by simp
theorem afS : ~~~ BitVec.ofInt 64 9223372036854775808=BitVec.ofNat 64 (2^63-1):=by decide
theorem fh(n:Nat) :IntKind.u64.wrap (n:Int)=((n%18446744073709551616:Nat):Int):=by
  simp [IntKind.wrap,IntKind.signed,IntKind.bits]
theorem ad5(x:Nat) :(bE .andNot .u64 (x:Int) 9223372036854775808)=((ux x:Nat):Int):=by
  have e:(BitVec.ofInt IntKind.u64.bits (x:Int) &&& ~~~ BitVec.ofInt IntKind.u64.bits 9223372036854775808).toNat=x%9223372036854775808:=by
    show (BitVec.ofInt 64 (x:Int) &&& ~~~ BitVec.ofInt 64 9223372036854775808).toNat=_
    rw [afS,oa,BitVec.toNat_and,BitVec.toNat_ofNat,BitVec.toNat_ofNat]
    have:(2^63-1)%2^64=2^63-1:=by decide
    rw [this,Nat.and_two_pow_sub_one_eq_mod]
    omega
  unfold bE
  simp only
  rw [e,fh]
  congr 1
  unfold ux
  omega
theorem ahe(y:Nat) :(bE .and .u64 (y:Int) 9223372036854775808)=((y/9223372036854775808%2*9223372036854775808:Nat):Int):=by
  have e:(BitVec.ofInt IntKind.u64.bits (y:Int) &&& BitVec.ofInt IntKind.u64.bits 9223372036854775808).toNat=y/9223372036854775808%2*9223372036854775808:=by
    show (BitVec.ofInt 64 (y:Int) &&& BitVec.ofInt 64 9223372036854775808).toNat=_
    have h1:BitVec.ofInt 64 9223372036854775808=BitVec.ofNat 64 (2^63):=by decide
    rw [h1,oa,BitVec.toNat_and,BitVec.toNat_ofNat,BitVec.toNat_ofNat]
    have:2^63%2^64=2^63:=by decide
    rw [this]
    apply Nat.eq_of_testBit_eq;intro i
    have e2:(9223372036854775808:Nat)=2^63:=by decide
    rw [e2,Nat.testBit_and,Nat.testBit_two_pow,Nat.testBit_mod_two_pow,Nat.testBit_mul_two_pow]
    by_cases hi:63=i
    · subst hi
      simp [Nat.testBit_eq_decide_div_mod_eq]
    · by_cases h2:63≤i
      · have h3:∃ j,i-63=j+1:=⟨i-64,by omega⟩
        obtain ⟨j,hj⟩:=h3
        have:(y/2^63%2).testBit (i-63)=false:=by
          have:=Nat.mod_lt (y/2^63) (by decide:2>0)
          apply Nat.testBit_lt_two_pow
          calc y/2^63%2<2:=this
            _=2^1:=rfl
            _≤2^(i-63):=Nat.pow_le_pow_right (by decide) (by omega)
        simp [hi,this]
      · simp [hi,h2]
  unfold bE
  simp only
  rw [e,fh]
  congr 1
  omega
theorem abg(x:Nat) :(IntKind.u64.wrap ((x:Int)*2^min (Int.toNat 1) IntKind.u64.bits)).fdiv (2^min (Int.toNat 1) IntKind.u64.bits)=((ux x:Nat):Int):=by
  have h1:min (Int.toNat 1) IntKind.u64.bits=1:=by decide
  have h2:(2:Int)^1=2:=by decide
  rw [h1,h2]
  have h3:(x:Int)*2=((x*2:Nat):Int):=by push_cast;rfl
  rw [h3,fh,Int.fdiv_eq_ediv_of_nonneg _ (by decide:(0:Int)≤2)]
  unfold ux
  omega
theorem afT(y:Nat) :IntKind.u64.wrap ((y:Int).fdiv (2^min (Int.toNat 63) IntKind.u64.bits)*2^min (Int.toNat 63) IntKind.u64.bits)=((y/9223372036854775808%2*9223372036854775808:Nat):Int):=by
  have h1:min (Int.toNat 63) IntKind.u64.bits=63:=by decide
  have h2:(2:Int)^63=9223372036854775808:=by decide
  rw [h1,h2,Int.fdiv_eq_ediv_of_nonneg _ (by decide:(0:Int)≤9223372036854775808)]
  have h3:(y:Int)/9223372036854775808*9223372036854775808=((y/9223372036854775808*9223372036854775808:Nat):Int):=by rw [Int.natCast_mul,Int.natCast_ediv];rfl
  rw [h3,fh]
  congr 1
  omega
theorem agH(x y:Nat) :bE .or .u64 ((ux x:Nat):Int) ((y/9223372036854775808%2*9223372036854775808:Nat):Int)=((oB x y:Nat):Int):=by
  have e:(BitVec.ofInt IntKind.u64.bits ((ux x:Nat):Int) ||| BitVec.ofInt IntKind.u64.bits ((y/9223372036854775808%2*9223372036854775808:Nat):Int)).toNat=oB x y:=by
    show (BitVec.ofInt 64 ((ux x:Nat):Int) ||| BitVec.ofInt 64 ((y/9223372036854775808%2*9223372036854775808:Nat):Int)).toNat=_
    rw [oa,oa,BitVec.toNat_or,BitVec.toNat_ofNat,BitVec.toNat_ofNat]
    unfold ux oB
    have hb0:=Nat.mod_lt (y/9223372036854775808) (by decide:2>0)
    generalize y/9223372036854775808%2=b at *
    have e2:(9223372036854775808:Nat)=2^63:=by decide
    have l1:x%9223372036854775808%2^64=x%9223372036854775808:=by omega
    rw [l1]
    rcases Nat.lt_or_ge b 2 with hb | hb
    · have l2:b*9223372036854775808%2^64=b*9223372036854775808:=by omega
      rw [l2,Nat.or_comm,Nat.add_comm,e2,Nat.mul_comm b,Nat.two_pow_add_eq_or_of_lt (Nat.mod_lt _ (by decide))]
    · omega
  unfold bE
  simp only
  rw [e,fh]
  congr 1
  unfold oB
  have:=Nat.mod_lt x (by decide:9223372036854775808>0)
  have:=Nat.mod_lt (y/9223372036854775808) (by decide:2>0)
  omega
theorem L9(x:Nat) :isNaN (ux x)=isNaN x:=by
  rw [kf,kf];unfold ux;rw [Nat.mod_mod]
theorem uI(x y:Nat) :isNaN (oB x y)=isNaN x:=by
  rw [kf,kf];unfold oB
  rw [Nat.add_mul_mod_self_right,Nat.mod_mod]
theorem ad6{ex:Bool}{x y:Nat}(h:FR ex x y) :FR false (ux x) (ux y):=by
  rcases h with rfl | ⟨h1,h2,h3⟩
  · exact .inl rfl
  · exact .inr ⟨rfl,by rw [L9];exact h2,by rw [L9];exact h3⟩
theorem FR.copy{e1 e2:Bool}{x y x' y':Nat}(h:FR e1 x x')(k:FR e2 y y')(hn:isNaN y=true→isNaN x=true) :FR false (oB x y) (oB x' y'):=by
  rcases h with rfl | ⟨h1,h2,h3⟩
  · rcases k with rfl | ⟨k1,k2,k3⟩
    · exact .inl rfl
    · exact .inr ⟨rfl,by rw [uI];exact hn k2,by rw [uI];exact hn k2⟩
  · exact .inr ⟨rfl,by rw [uI];exact h2,by rw [uI];exact h3⟩
theorem FR.same{e1 e2:Bool}{x y x' y':Nat}(h:FR e1 x x')(k:FR e2 y y') :ad4 x' y'=ad4 x y:=by
  unfold ad4
  rcases h with rfl | ⟨h1,h2,h3⟩
  · rcases k with rfl | ⟨k1,k2,k3⟩
    · rfl
    · rw [k2,k3]
      cases hx:isNaN x' with
      | true=>rfl
      | false =>
        have a:(x'==y')=false:=by
          rw [beq_eq_false_iff_ne];intro e;rw [e] at hx;rw [hx] at k3;cases k3
        have b:(x'==y)=false:=by
          rw [beq_eq_false_iff_ne];intro e;rw [e] at hx;rw [hx] at k2;cases k2
        rw [a,b]
  · rcases k with rfl | ⟨k1,k2,k3⟩
    · rw [h2,h3]
      cases hx:isNaN y' with
      | true=>rfl
      | false =>
        have a:(x'==y')=false:=by
          rw [beq_eq_false_iff_ne];intro e;rw [e] at h3;rw [hx] at h3;cases h3
        have b:(x==y')=false:=by
          rw [beq_eq_false_iff_ne];intro e;rw [e] at h2;rw [hx] at h2;cases h2
        rw [a,b]
    · rw [h2,h3,k2,k3];rfl
theorem ir.Holds.weak{ρ:ac}{w w':World}{k:Nat}{v v':AV}{own:List (Option aD)}{u:Value}(h:(⟨v,own⟩:ir).Holds ρ w w' k u)(hw:∀ ρ w,VR ρ w v u→VR ρ w v' u) :(⟨v',own⟩:ir).Holds ρ w w' k u:=by
  obtain ⟨ρ',h1,h2,h3,h4⟩:=h
  exact ⟨ρ',h1,h2,h3,hw _ _ h4⟩
theorem zG{P:Program}{f:FuncId}{ex:Bool}{x:Nat}{r:Nat→AV}{r':AV}(h:∀ y,ag P f [] [.flt true y] ⟨r y,[]⟩) 
    (hw:∀ y,FR ex x y→∀ ρ w u,VR ρ w (r y) u→VR ρ w r' u):ag P f [] [.flt ex x] ⟨r',[]⟩:=by
  intro ρ w us hN hv
  cases hv with | cons _ u _ _ h1 h2 =>
  cases h2
  cases h1 with | flt _ _ y hf =>
  obtain ⟨q1,q2⟩:=h y ρ w [.float .f64 y] hN (.cons _ _ _ _ (.flt _ _ _ (.inl rfl)) .nil)
  refine ⟨q1,q2.mono ?_⟩
  rintro e w' ⟨u,rfl,W,hu⟩
  exact ⟨u,rfl,W,hu.weak fun ρ w=>hw y hf ρ w u⟩
theorem zH{P:Program}{f:FuncId}{e1 e2:Bool}{x1 x2:Nat}{r:Nat→Nat→AV}{r':AV}(h:∀ y1 y2,ag P f [] [.flt true y1,.flt true y2] ⟨r y1 y2,[]⟩) 
    (hw:∀ y1 y2,FR e1 x1 y1→FR e2 x2 y2→∀ ρ w u,VR ρ w (r y1 y2) u→VR ρ w r' u):ag P f [] [.flt e1 x1,.flt e2 x2] ⟨r',[]⟩:=by
  intro ρ w us hN hv
  cases hv with | cons _ u _ _ h1 h2 =>
  cases h2 with | cons _ u _ _ h3 h4 =>
  cases h4
  cases h1 with | flt _ _ y1 hf1 =>
  cases h3 with | flt _ _ y2 hf2 =>
  obtain ⟨q1,q2⟩:=h y1 y2 ρ w [.float .f64 y1,.float .f64 y2] hN (.cons _ _ _ _ (.flt _ _ _ (.inl rfl)) (.cons _ _ _ _ (.flt _ _ _ (.inl rfl)) .nil))
  refine ⟨q1,q2.mono ?_⟩
  rintro e w' ⟨u,rfl,W,hu⟩
  exact ⟨u,rfl,W,hu.weak fun ρ w=>hw y1 y2 hf1 hf2 ρ w u⟩
theorem VR.flt_weak{ρ:ac}{w:World}{x y:Nat}{u:Value}(h:VR ρ w (.flt true y) u)(hf:FR false x y) :VR ρ w (.flt false x) u:=by
  cases h with | flt _ _ z hz =>
  rcases hz with rfl | ⟨h1,_⟩
  · exact .flt _ _ _ hf
  · cases h1
structure aA where
  f:FuncId
  on:List aD→List AV→Option (List rx)
def A3:List aA→wL
  | [],_,_,_=>none
  | e::l,f,lent,args=>bif Nat.beq e.f f then (match e.on lent args with | some r=>some r | none=>A3 l f lent args) else A3 l f lent args
def UK:List aA→Nat
  | []=>0
  | e::l=>Nat.lor (Nat.shiftLeft 1 e.f) (UK l)
def aG(L:List aA) :wL:=fun f lent args=>bif LK (UK L) f then A3 L f lent args else none
def aN(P:Program)(e:aA) :Prop:=∀ lent args alts a,e.on lent args=some alts→a∈alts→aB a.obs→ag P e.f lent args a.out
theorem Qo:∀ {L:List aA} {e:aA},e∈L→LK (UK L) e.f=true
  | x::l,e,h=>by
    rw [Ci]
    show ((1 <<< x.f) ||| UK l).testBit e.f=true
    rw [Nat.testBit_or,Bool.or_eq_true]
    rcases List.mem_cons.1 h with rfl | h
    · left;rw [Nat.one_shiftLeft,Nat.testBit_two_pow];simp
    · right;rw [←Ci];exact Qo h
theorem Em:∀ {L:List aA} {f:FuncId} {lent:List aD} {args:List AV} {alts:List rx},A3 L f lent args=some alts→∃ e∈L,e.f=f∧e.on lent args=some alts
  | e::l,f,lent,args,alts,h=>by
    simp only [A3] at h
    cases hb:Nat.beq e.f f with
    | false=>rw [hb] at h;obtain ⟨x,h1,h2⟩:=Em h;exact ⟨x,by simp [h1],h2⟩
    | true =>
      rw [hb] at h
      have:=Nat.eq_of_beq_eq_true hb
      simp only [cond_true] at h
      split at h
      · rename_i r hr;cases h;exact ⟨e,by simp,this,hr⟩
      · obtain ⟨x,h1,h2⟩:=Em h;exact ⟨x,by simp [h1],h2⟩
theorem Qp{L:List aA}{f:FuncId}{lent:List aD}{args:List AV}{alts:List rx}(h:A3 L f lent args=some alts) :aG L f lent args=some alts:=by
  obtain ⟨e,h1,h2,_⟩:=Em h
  have:=Qo h1
  rw [h2] at this
  simp only [aG,this,cond_true];exact h
theorem Ma{L:List aA}{f:FuncId}{lent:List aD}{args:List AV}{alts:List rx}(h:aG L f lent args=some alts) :A3 L f lent args=some alts:=by
  unfold aG at h
  cases hb:LK (UK L) f with
  | false=>rw [hb] at h;cases h
  | true=>rw [hb] at h;exact h
theorem Mb(P:Program) :aH P (aG []):=fun f lent args alts a h=>by have:=Ma h;cases this
theorem au{P:Program}{e:aA}{l:List aA}(he:aN P e)(hl:aH P (aG l)) :aH P (aG (e::l)):=by
  intro f lent args alts a h ha ho
  replace h:=Ma h
  simp only [A3] at h
  cases hb:Nat.beq e.f f with
  | false=>rw [hb] at h;exact hl f lent args alts a (Qp h) ha ho
  | true =>
    rw [hb] at h
    have:=Nat.eq_of_beq_eq_true hb
    subst this
    simp only [cond_true] at h
    split at h
    · rename_i r hr
      cases h
      exact he lent args alts a hr ha ho
    · exact hl _ lent args alts a (Qp h) ha ho
def one(v:AV)(obs:List Bool) :Option (List rx):=some [⟨⟨v,[]⟩,obs⟩]
def ad7(v:AV)(own:List (Option aD))(obs:List Bool) :Option (List rx):=some [⟨⟨v,own⟩,obs⟩]
theorem acB{P:Program}{f:FuncId}{lent:List aD}{args:List AV}{alts:List rx}{a:rx}{v:AV}{own:List (Option aD)}{obs:List Bool}(h:ad7 v own obs=some alts)(ha:a∈alts)(ho:aB a.obs) 
    (hc:aB obs→ag P f lent args ⟨v,own⟩):ag P f lent args a.out:=by
  simp only [ad7,Option.some.injEq] at h;subst h
  simp only [List.mem_singleton] at ha;subst ha
  exact hc ho
theorem th{P:Program}{f:FuncId}{lent:List aD}{args:List AV}{alts:List rx}{a:rx}{v:AV}{obs:List Bool}(h:one v obs=some alts)(ha:a∈alts)(ho:aB a.obs) 
    (hc:aB obs→ag P f lent args ⟨v,[]⟩):ag P f lent args a.out:=acB (own:=[]) h ha ho hc
theorem ag.run{C:uv}(hC:C.Ok){S:wL}(hS:aH C.P S)(p:eF){f:FuncId}{lent:List aD}{args:List AV}{p':eF}{r:ir}{obs:List Bool}(N n:Nat)(h:pO C S (iF C S N n) f lent args p=some (r,obs,p'))(ho:aB obs) :
    ag C.P f lent args r:=J4 hC hS N n h ho
theorem ob{b:Bool}{l:List Bool}(h:b=true)(t:aB l) :aB (b::l):=⟨h,t⟩
theorem nob:aB []:=trivial
inductive gU:List AV→List AV→Prop
  | nil:gU [] []
  | cons {v v':AV} {l l':List AV} (h:bp v v') (t:gU l l'):gU (v::l) (v'::l')
theorem gU.vrs{ρ:ac}{w:World} :∀ {l l':List AV} {c:List Value},gU l l'→cV ρ w l c→cV ρ w l' c
  | _,_,_,.nil,.nil=>.nil
  | _,_,_,.cons h t,.cons _ _ _ _ hv tv=>.cons _ _ _ _ (h _ _ _ hv) (gU.vrs t tv)
theorem gU.refl:∀ l:List AV,gU l l
  | []=>.nil
  | v::l=>.cons (bp.refl v) (gU.refl l)
theorem bp.agg{l l':List AV}(h:gU l l') :bp (.agg l) (.agg l'):=by
  intro ρ w u hv;cases hv with | agg _ _ hl=>exact .agg _ _ (h.vrs hl)
theorem bp.tup{l l':List AV}(h:gU l l') :bp (.tup l) (.tup l'):=by
  intro ρ w u hv;cases hv with | tup _ _ hl=>exact .tup _ _ (h.vrs hl)
theorem ag.args{P:Program}{f:FuncId}{lent:List aD}{a a':List AV}{r:ir}(h:ag P f lent a' r)(ha:gU a a') :ag P f lent a r :=
  fun ρ w us hN hv=>h ρ w us hN (ha.vrs hv)
theorem ag.weak{P:Program}{f:FuncId}{lent:List aD}{a:List AV}{v v':AV}{own:List (Option aD)}(h:ag P f lent a ⟨v,own⟩)(hw:bp v v') :ag P f lent a ⟨v',own⟩:=by
  intro ρ w us hN hv
  obtain ⟨q1,q2⟩:=h ρ w us hN hv
  refine ⟨q1,q2.mono ?_⟩
  rintro e w' ⟨u,rfl,W,hu⟩
  exact ⟨u,rfl,W,hu.weak fun ρ w=>hw ρ w u⟩
theorem En(k k' b:Bool) :bp (.bool k b) (.bool k' b):=by
  intro ρ w u h;cases h;exact .bool _ _
end
end Go.Plb
namespace Go.Plb
noncomputable section
open Go.ChangeShapes Go.WideShapes Go.ChangeAt Go.RowKit Go.Deep
set_option linter.unusedSimpArgs false
set_option linter.unusedVariables false
set_option linter.unusedSectionVars false
variable [Rom]
def ac.none_:ac:={ at_:=fun _=>0,live:=fun _=>False,out:=fun _ _=>False,ok:=fun _=>False,pin:=(0,none) }
theorem afU(w:World)(hr:∀ x∈Rom.tab,VR ac.none_ w x.2 (.pointer (some ⟨x.1,0,none⟩))) :iI ac.none_ w [] :=
  ⟨⟨fun b d q=>by simp [eR,fb,dA] at q,fun b c d e q=>by simp [eR,fb,dA] at q,fun bl q=>q.elim,fun bl q=>q.elim,fun j bl q=>q.elim,fun b q=>q.elim,hr⟩,fun bl q=>q.elim,rfl⟩
theorem Eo(l:Lv)(bl:Nat) :ac.none_.avoid l bl:=kB (fun j=>by cases j<;>exact id) l 0
inductive FA where
  | i (k:IntKind) (n:Int)
  | f (x:Nat)
  | s (b:ByteArray)
  | b (b:Bool)
  | fl (xs:List Nat)
  | ns (k:IntKind) (xs:List Int)
def FA.av:FA→AV
  | .i k n=>.int k n
  | .f x=>.flt true x
  | .s z=>.str z
  | .b z=>.bool false z
  | .fl xs=>.imm .free (.fl xs) 1 1 0 xs.length
  | .ns k xs=>.imm .free (.ns k xs) 1 1 0 xs.length
theorem FA.kept(a:FA) :a.av.kept=true:=by cases a<;>rfl
inductive FT where
  | i (k:IntKind)
  | f
  | s
  | b
  | fl
  | ns (k:IntKind)
def FA.has:FT→FA→Prop
  | .i k,.i k' n=>k'=k∧(Lit.int k n).wf=true
  | .f,.f x=>(Lit.float .f64 x).wf=true
  | .s,.s z=>z.size≤maxLen
  | .b,.b _=>True
  | .fl,.fl xs=>xs.length≤maxLen∧∀ x∈xs,(Lit.float .f64 x).wf=true
  | .ns k,.ns k' xs=>k'=k∧xs.length≤maxLen∧∀ n∈xs,(Lit.int k n).wf=true
  | _,_=>False
def afV(P:Program)(t:TypeId) :Option FT :=
  match P.underlying t with
  | some (.int k)=>some (.i k)
  | some (.float .f64)=>some .f
  | some .string=>some .s
  | some .bool=>some .b
  | some (.slice e) =>
    match P.underlying e,P.cellsOf e with
    | some (.float .f64),1=>some .fl
    | some (.int k),1=>some (.ns k)
    | _,_=>none
  | _=>none
def RY:Value→Nat
  | .float _ b=>b
  | _=>0
def RZ:Value→Int
  | .int _ n=>n
  | _=>0
theorem Jl{W:World}{a:Addr}{i:Nat}{v:Value}(c:W.cell? (a.add i)=some v)(h0:a.spot=none) :a.add i=⟨a.block,a.off+i,none⟩:=by
  cases a;simp only at h0;subst h0
  unfold Addr.add;split
  · rename_i q;subst q;rfl
  · rfl
theorem FQ{W:World}{a:Addr}{v:Value}(c:W.cell? a=some v) :a.spot=none:=by
  unfold World.cell? at c
  split at c
  · cases q:a.spot with
    | none=>rfl
    | some s=>rw [q] at c;simp at c
  · cases c
theorem Mc{W:World}{a:Addr}{v:Value}(c:W.cell? a=some v) :a.block<W.heap.size:=by
  unfold World.cell? at c
  split at c
  · rename_i q;exact (Array.getElem?_eq_some_iff.1 q).1
  · cases c
theorem oC{α:Type}(f:Nat→α)(n x:Nat)(y:α)(h:((List.range n).map f)[x]? = some y) :x<n∧y=f x:=by
  rw [List.getElem?_map] at h
  rcases Nat.lt_or_ge x n with q | q
  · rw [List.getElem?_range q] at h;simp only [Option.map_some,Option.some.injEq] at h;exact ⟨q,h.symm⟩
  · rw [List.getElem?_eq_none (by simpa using q)] at h;cases h
variable {H : Type} {enc : TypeId × Value → H} {P : Program} {W : World}
theorem acC{t:TypeId}{ft:FT}{fuel:Nat}{v:Value}{x:DataW H×List MemPlace}(ht:afV P t=some ft)(h:DataW.trod enc P W 0 (fun _=>true) true fuel t [v]=some x) :
    ∃ a:FA,a.has ft∧VR ac.none_ W a.av v:=by
  cases fuel with
  | zero=>simp [DataW.trod] at h
  | succ fuel =>
  have h0:=h
  unfold afV at ht
  split at ht
  · rename_i k hk
    cases ht
    simp only [DataW.trod,hk] at h
    cases v<;>simp at h
    rename_i k' n
    obtain ⟨⟨rfl,hw⟩,_⟩:=h
    exact ⟨.i k' n,⟨rfl,hw⟩,.int _ _⟩
  · rename_i hk
    cases ht
    simp only [DataW.trod,hk] at h
    cases v<;>simp at h
    rename_i k b
    obtain ⟨⟨rfl,hw⟩,_⟩:=h
    exact ⟨.f b,hw,.flt _ _ _ (.inl rfl)⟩
  · rename_i hk
    cases ht
    simp only [DataW.trod,hk] at h
    cases v<;>simp at h
    exact ⟨.s _,h.1,.str _⟩
  · rename_i hk
    cases ht
    simp only [DataW.trod,hk] at h
    cases v<;>simp at h
    exact ⟨.b _,trivial,.bool _ _⟩
  · rename_i e hk
    have key:∀ (he:P.cellsOf e=1),(v=.slice none 0 0)∨∃ (a:Addr) (len cap n:Nat) (V:Nat→Value),v=.slice (some a) len cap∧len≤cap∧cap≤maxLen ∧
        ∀ i,i<len→∃ y,W.cell? (a.add i)=some (V i)∧DataW.trod enc P W 0 (fun _=>true) true n e [V i]=some y:=by
      intro he
      rcases open_slice1 hk he h0 with ⟨h1,_⟩ | ⟨a,len,cap,m,n,V,D,Pl,h1,hb,hl,hm,hmm,_,hx⟩
      · simp only [List.cons.injEq,and_true] at h1
        exact .inl h1
      · simp only [List.cons.injEq,and_true] at h1
        refine .inr ⟨a,len,cap,n,V,h1,hl,hm,fun i hi=>⟨_,hx i (by rw [hmm,if_pos rfl];omega)⟩⟩
    split at ht
    · rename_i he hc
      cases ht
      rcases key hc with rfl | ⟨a,len,cap,n,V,rfl,hl,hm,hx⟩
      · exact ⟨.fl [],⟨Nat.zero_le _,fun x hx=>by cases hx⟩,.immEnd _ _ _ _ _ _ _ trivial (fun _=>rfl) rfl⟩
      · have hV:∀ i,i<len→V i=.float .f64 (RY (V i))∧(Lit.float .f64 (RY (V i))).wf=true:=by
          intro i hi
          obtain ⟨y,c1,c2⟩:=hx i hi
          cases n with
          | zero=>simp [DataW.trod] at c2
          | succ n =>
            simp only [DataW.trod,he] at c2
            cases hV:V i<;>rw [hV] at c2<;>simp at c2
            obtain ⟨⟨rfl,hw⟩,_⟩:=c2
            exact ⟨rfl,hw⟩
        refine ⟨.fl ((List.range len).map fun i=>RY (V i)),⟨by simp;omega,fun x hx=>?_⟩,?_⟩
        · simp only [List.mem_map,List.mem_range] at hx
          obtain ⟨i,hi,rfl⟩:=hx
          exact (hV i hi).2
        · simp only [FA.av,List.length_map,List.length_range]
          rcases Nat.eq_zero_or_pos len with rfl | hz
          · exact .immEnd _ _ _ _ _ _ _ trivial (fun _=>rfl) rfl
          · have h0:=FQ (hx 0 hz).choose_spec.1
            have hs:a.spot=none:=by
              have e:a.add 0=a:=by simp [Addr.add]
              rw [e] at h0;exact h0
            have hcell:∀ i,i<len→W.cell? ⟨a.block,a.off+i,none⟩=some (V i):=fun i hi=>by
              obtain ⟨y,c1,_⟩:=hx i hi
              rw [Jl c1 hs] at c1;exact c1
            have ha:a=⟨a.block,a.off+0*1,none⟩:=by cases a;simp only at hs;subst hs;rfl
            have:=VR.imm (ρ:=ac.none_) (w:=W) .free (.fl ((List.range len).map fun i=>RY (V i))) 1 1 0 len cap a.block a.off V (Eo _ _) (Mc (a:=⟨a.block,a.off+0,none⟩) (hcell 0 hz))
              (fun x v hx'=>by
                simp only [aD.cell?,Option.map_eq_some_iff] at hx'
                obtain ⟨y,h1,h2⟩:=hx'
                exact hcell x (oC _ _ _ _ h1).1)
              (fun x v hx'=>by
                simp only [aD.cell?,Option.map_eq_some_iff] at hx'
                obtain ⟨y,h1,rfl⟩:=hx'
                obtain ⟨q1,rfl⟩:=oC _ _ _ _ h1
                rw [(hV x q1).1]
                exact .flt _ _ _ (.inl rfl)) hl trivial (fun _=>rfl) rfl
            rw [ha];exact this
    · rename_i k he hc
      cases ht
      rcases key hc with rfl | ⟨a,len,cap,n,V,rfl,hl,hm,hx⟩
      · exact ⟨.ns k [],⟨rfl,Nat.zero_le _,fun x hx=>by cases hx⟩,.immEnd _ _ _ _ _ _ _ trivial (fun _=>rfl) rfl⟩
      · have hV:∀ i,i<len→V i=.int k (RZ (V i))∧(Lit.int k (RZ (V i))).wf=true:=by
          intro i hi
          obtain ⟨y,c1,c2⟩:=hx i hi
          cases n with
          | zero=>simp [DataW.trod] at c2
          | succ n =>
            simp only [DataW.trod,he] at c2
            cases hV:V i<;>rw [hV] at c2<;>simp at c2
            obtain ⟨⟨rfl,hw⟩,_⟩:=c2
            exact ⟨rfl,hw⟩
        refine ⟨.ns k ((List.range len).map fun i=>RZ (V i)),⟨rfl,by simp;omega,fun x hx=>?_⟩,?_⟩
        · simp only [List.mem_map,List.mem_range] at hx
          obtain ⟨i,hi,rfl⟩:=hx
          exact (hV i hi).2
        · simp only [FA.av,List.length_map,List.length_range]
          rcases Nat.eq_zero_or_pos len with rfl | hz
          · exact .immEnd _ _ _ _ _ _ _ trivial (fun _=>rfl) rfl
          · have h0:=FQ (hx 0 hz).choose_spec.1
            have hs:a.spot=none:=by
              have e:a.add 0=a:=by simp [Addr.add]
              rw [e] at h0;exact h0
            have hcell:∀ i,i<len→W.cell? ⟨a.block,a.off+i,none⟩=some (V i):=fun i hi=>by
              obtain ⟨y,c1,_⟩:=hx i hi
              rw [Jl c1 hs] at c1;exact c1
            have ha:a=⟨a.block,a.off+0*1,none⟩:=by cases a;simp only at hs;subst hs;rfl
            have:=VR.imm (ρ:=ac.none_) (w:=W) .free (.ns k ((List.range len).map fun i=>RZ (V i))) 1 1 0 len cap a.block a.off V (Eo _ _) (Mc (a:=⟨a.block,a.off+0,none⟩) (hcell 0 hz))
              (fun x v hx'=>by
                simp only [aD.cell?,Option.map_eq_some_iff] at hx'
                obtain ⟨y,h1,h2⟩:=hx'
                exact hcell x (oC _ _ _ _ h1).1)
              (fun x v hx'=>by
                simp only [aD.cell?,Option.map_eq_some_iff] at hx'
                obtain ⟨y,h1,rfl⟩:=hx'
                obtain ⟨q1,rfl⟩:=oC _ _ _ _ h1
                rw [(hV x q1).1]
                exact .int _ _) hl trivial (fun _=>rfl) rfl
            rw [ha];exact this
    · cases ht
  · cases ht
theorem FS{t:TypeId}{ft:FT}{v:Value}{d:DataW H}{p:List MemPlace}{base:Nat}(ht:afV P t=some ft)(ho:Value.okWide P W .any base t v)(h:DataW.Trod enc P W 0 (fun _=>true) true t v d p) :
    ∃ a:FA,a.has ft∧VR ac.none_ W a.av v:=by
  obtain ⟨fuel,hf⟩:=h
  have hc:v.cells.toList=[v]:=by
    have hne:∀ c,v ≠ .agg c:=by
      rintro c rfl
      unfold afV at ht
      unfold Value.okWide at ho
      split at ht
      case h_6=>cases ht
      all_goals (rename_i hk;rw [hk] at ho;simp [Cell.okWide,Cell.ok,hk] at ho)
    cases v<;>first | rfl | exact (hne _ rfl).elim
  rw [hc] at hf
  exact acC ht hf
def FA.avs:List FA→List AV
  | []=>[]
  | a::l=>a.av::FA.avs l
theorem ad8{W W':World}(h:iq (fun _=>False) W W') :Below W.heap.size W W' :=
  ⟨h.os,h.tape,h.output,h.size,fun k hk=>h.same k hk (fun q=>q)⟩
def uJ(P:Program)(ts:List TypeId) :Bool:=ts.all fun t=>P.readableRec t&&decide (t<P.types.size)
theorem Qq{W W':World}(hl:laidOutB P=true)(hb:Below W.heap.size W W') :∀ {ts:List TypeId} {vs:List Value} {ds:List (DataW H)} {ps:List MemPlace},uJ P ts=true →
    DataW.TrodAll enc P W 0 (fun _=>true) true ts vs ds ps→(∀ x∈ps,x.block<W.heap.size)→∀ sp:Nat→Bool,(∀ p∈ps,sp p.block=true)→DataW.TrodAll enc P W' 0 sp true ts vs ds ps
  | [],vs,ds,ps,_,h,_,_,_=>by obtain ⟨rfl,rfl,rfl⟩:=trodAll_nil h;rfl
  | t::ts,vs,ds,ps,hp,h,hlt,sp,hsp=>by
    obtain ⟨v,vs',d,ds',p,q,rfl,rfl,rfl,h1,h2⟩:=trodAll_cons h
    simp only [uJ,List.all_cons,Bool.and_eq_true,decide_eq_true_eq] at hp
    exact ⟨p,q,WideElems.Trod_stays hl hp.1.1 hp.1.2 h1 (fun x hx=>hb.same (hlt x (by simp [hx]))) (fun x hx=>hsp x (by simp [hx])),
      Qq hl hb (by simpa [uJ] using hp.2) h2 (fun x hx=>hlt x (by simp [hx])) sp (fun x hx=>hsp x (by simp [hx])),rfl⟩
theorem ad9{f:Func}{s:ChangeSpec}{W W':World}{args:Array Value}{ds gs:List (DataW H)}{before:List MemPlace}{tb:TypeId}(hl:laidOutB P=true) 
    (hW:DataW.Whole enc P f.params.toList s.vars false W args.toList ds gs before) (hv:s.vars=[]) (hp:uJ P f.params.toList=true)
    (hs:s.fn H (ds++gs) = { results:=[.lit (.bool true)],args:=ds }) (hr:f.resultTypes = #[tb]) (ht:P.underlying tb=some .bool) (hw:iq (fun _=>False) W W') :
    s.post enc P f false true false false W args (.bool true) W':=by
  have hb:=ad8 hw
  have hlt:∀ p∈before,p.block<W.heap.size:=fun p hp=>hW.lt p hp
  have hW':=hW
  obtain ⟨p,q,hA,hV,rfl,hfz,mw⟩:=hW'
  rw [hv] at hV
  obtain ⟨rfl,rfl⟩:=trodVars_none hV
  simp only [List.append_nil] at hlt hs hW
  have harg:=Qq hl hb hp hA hlt (fun b=>decide (b<W.heap.size)) (fun x hx=>by simpa using hlt x hx)
  refine ⟨ds,[],p,[],p,[],hW,?_,?_,?_,World.keptBut_mono (fun x hx=>⟨hx,.inr (.inl hx)⟩) (hb.frame (· ∈ p)),fun e=>(by cases e)⟩
  · rw [List.append_nil,hs,hr]
    exact trodAll_mk1 (shut_bool ht true)
  · rw [List.append_nil,hs];exact harg
  · rw [hv];simp only [List.append_nil,hs];exact rfl
theorem agI{a:FA}(h:a.has .f) :∃ x,a=.f x:=by
  cases a<;>simp only [FA.has] at h
  exact ⟨_,rfl⟩
theorem ahf{a:FA}(h:a.has .fl) :∃ x,a=.fl x:=by
  cases a<;>simp only [FA.has] at h
  exact ⟨_,rfl⟩
theorem ahg{k:IntKind}{a:FA}(h:a.has (.ns k)) :∃ x,a=.ns k x:=by
  cases a<;>simp only [FA.has] at h
  obtain ⟨rfl,_⟩:=h;exact ⟨_,rfl⟩
theorem aea{ρ:ac}{w w':World}{k b:Bool}{u:Value}(h:(⟨.bool k b,[]⟩:ir).Holds ρ w w' 0 u) :u=.bool b:=by
  obtain ⟨ρ',_,_,_,h4⟩:=h
  cases h4;rfl
end
end Go.Plb
namespace Go.Plb.Seat
open Go Go.Plb Go.Proofs
noncomputable abbrev prog:Program:=Tryz.prog
def aK:List Int:=[0,1,56,2,57,49,28,3,61,58,42,50,38,29,17,4,62,47,59,36,45,43,51,22,53,39,33,30,24,18,12,5,63,55,48,27,60,41,37,16,46,35,44,21,52,32,23,11,54,26,40,15,34,20,31,10,25,14,19,9,13,8,7,6]
instance:Rom:=⟨[(1,.iptr .free (.ns .u8 aK) 1 0 0)],by intro x hx;simp only [List.mem_cons,List.not_mem_nil,or_false] at hx;rcases hx with rfl<;>rfl⟩
abbrev kQ:FuncId:=13
abbrev Hu:FuncId:=22
abbrev UL:FuncId:=23
abbrev jF:FuncId:=36
abbrev vN:FuncId:=39
abbrev Dv:FuncId:=40
abbrev tC:FuncId:=45
abbrev xO:FuncId:=60
abbrev Yu:FuncId:=63
abbrev tD:FuncId:=64
abbrev oD:FuncId:=65
abbrev OB:FuncId:=69
abbrev OC:FuncId:=70
abbrev R0:FuncId:=71
abbrev R1:FuncId:=72
abbrev R2:FuncId:=73
abbrev Hv:FuncId:=74
abbrev Md:FuncId:=75
abbrev ny:FuncId:=76
abbrev nA:FuncId:=77
abbrev xP:FuncId:=78
abbrev FU:FuncId:=80
abbrev OD:FuncId:=82
abbrev tE:FuncId:=93
abbrev Me:FuncId:=94
abbrev Dw:FuncId:=95
abbrev Ep:FuncId:=99
abbrev Hw:FuncId:=100
abbrev Er:FuncId:=101
abbrev vO:FuncId:=102
abbrev iJ:FuncId:=103
abbrev Es:FuncId:=104
abbrev UM:FuncId:=106
abbrev UN:FuncId:=108
abbrev Qr:FuncId:=109
abbrev nB:FuncId:=110
abbrev tF:FuncId:=111
abbrev FV:FuncId:=112
abbrev gG:FuncId:=113
abbrev df:FuncId:=115
abbrev Mf:FuncId:=116
abbrev oE:FuncId:=117
abbrev J5:FuncId:=118
abbrev lg:FuncId:=119
abbrev R3:FuncId:=127
abbrev Yv:FuncId:=131
abbrev acD:FuncId:=132
abbrev OE:FuncId:=133
abbrev R4:FuncId:=134
abbrev UO:FuncId:=135
abbrev xQ:FuncId:=136
abbrev Yw:FuncId:=137
abbrev UP:FuncId:=139
abbrev R5:FuncId:=140
abbrev J6:FuncId:=143
abbrev OF:FuncId:=145
abbrev OG:FuncId:=146
abbrev OH:FuncId:=147
abbrev UQ:FuncId:=148
abbrev R6:FuncId:=149
abbrev mT:FuncId:=152
abbrev Ad:FuncId:=163
abbrev sN:FuncId:=167
abbrev oF:FuncId:=169
abbrev ry:FuncId:=170
abbrev FX:FuncId:=171
abbrev A4:FuncId:=173
abbrev Mg:FuncId:=174
abbrev UR:FuncId:=175
abbrev Ck:FuncId:=176
abbrev A5:FuncId:=177
abbrev xR:FuncId:=178
abbrev Hx:FuncId:=179
abbrev A6:FuncId:=180
abbrev US:FuncId:=181
abbrev R7:FuncId:=182
abbrev R8:FuncId:=183
abbrev UT:FuncId:=184
abbrev R9:FuncId:=185
abbrev UU:FuncId:=186
abbrev Sa:FuncId:=187
abbrev OI:FuncId:=188
abbrev UV:FuncId:=189
abbrev rz:FuncId:=190
abbrev rA:FuncId:=192
abbrev FY:FuncId:=194
abbrev A7:FuncId:=196
abbrev Mh:FuncId:=197
abbrev Hy:FuncId:=198
abbrev FZ:FuncId:=201
abbrev Mi:FuncId:=202
abbrev vP:FuncId:=203
abbrev F0:FuncId:=204
abbrev xS:FuncId:=219
abbrev Mj:FuncId:=220
abbrev Sb:FuncId:=221
abbrev Mk:FuncId:=222
abbrev Yx:FuncId:=224
abbrev UW:FuncId:=225
abbrev Et:FuncId:=226
abbrev UX:FuncId:=228
abbrev UY:FuncId:=229
abbrev uK:FuncId:=237
abbrev cY:FuncId:=246
abbrev F1:FuncId:=251
abbrev Eu:FuncId:=252
abbrev uL:FuncId:=253
abbrev Hz:FuncId:=254
abbrev nC:FuncId:=255
abbrev Ev:FuncId:=256
abbrev Yy:FuncId:=257
abbrev Cl:FuncId:=258
abbrev tG:FuncId:=259
abbrev HA:FuncId:=261
abbrev UZ:FuncId:=262
abbrev Sc:FuncId:=263
abbrev OJ:FuncId:=264
abbrev U0:FuncId:=265
abbrev U1:FuncId:=266
abbrev Sd:FuncId:=267
abbrev U2:FuncId:=269
abbrev rB:FuncId:=270
abbrev fv:FuncId:=272
abbrev CH:FuncId:=291
abbrev Se:FuncId:=292
abbrev CI:FuncId:=294
abbrev Ml:FuncId:=299
abbrev J7:FuncId:=300
abbrev OK:FuncId:=301
abbrev OL:FuncId:=302
abbrev Ew:FuncId:=304
abbrev U3:FuncId:=305
abbrev U4:FuncId:=306
abbrev Sh:FuncId:=307
abbrev A8:FuncId:=313
abbrev bX:FuncId:=314
abbrev kR:FuncId:=315
abbrev Cm:FuncId:=316
abbrev OM:FuncId:=317
abbrev uM:FuncId:=318
abbrev oG:FuncId:=319
abbrev HB:FuncId:=320
abbrev Si:FuncId:=321
abbrev U5:FuncId:=322
abbrev Sj:FuncId:=323
abbrev J8:FuncId:=326
abbrev Ex:FuncId:=334
abbrev Ey:FuncId:=335
abbrev ON:FuncId:=338
abbrev Mm:FuncId:=339
abbrev J9:FuncId:=340
abbrev Mn:FuncId:=341
abbrev Ez:FuncId:=342
abbrev lV:FuncId:=343
abbrev Cn:FuncId:=344
abbrev HC:FuncId:=345
abbrev OO:FuncId:=346
abbrev Co:FuncId:=347
abbrev HD:FuncId:=351
abbrev A9:FuncId:=352
abbrev HE:FuncId:=353
abbrev F2:FuncId:=354
abbrev uN:FuncId:=355
abbrev Cp:FuncId:=356
abbrev oH:FuncId:=358
noncomputable def FN(f:FuncId) :Func:=(prog.funcs[f]?).getD default
noncomputable def nD(f:FuncId) :Code:=((FN f).body).getD .skip
noncomputable def C0:uv:=aba prog [(jF,.frombits),(ny,.bits),(A8,.sqrt),(oG,.add64),(oH,.sub64)] [(Hu,⟨[],true⟩),(UL,⟨[],true⟩),(Yu,⟨[],true⟩),(OB,⟨[],true⟩),(OC,⟨[],true⟩),(R0,⟨[],true⟩),(R1,⟨[],true⟩),(R2,⟨[],true⟩),(Hv,⟨[],true⟩),(Md,⟨[],true⟩),(OD,⟨[],true⟩),(Hw,⟨[],true⟩),(Er,⟨[],true⟩),(Es,⟨[],true⟩),(UM,⟨[],true⟩),(UN,⟨[],true⟩),(nB,⟨[true,true,true,true,true,true,true,true,true,true],false⟩),(FV,⟨[true,true,true,true,true,true,true,true,true,true],false⟩),(gG,⟨[true,true,true,true,true,true,true,true,true,true],false⟩),(oE,⟨[true,true,true,true,true,true,true,true,true,true],false⟩),(J5,⟨[true,true,true,true,true,true,true,true,true,true],false⟩),(Yv,⟨[],true⟩),(acD,⟨[],true⟩),(OE,⟨[],true⟩),(R4,⟨[],true⟩),(UO,⟨[],true⟩),(xQ,⟨[],true⟩),(Yw,⟨[],true⟩),(UP,⟨[],true⟩),(R5,⟨[],true⟩),(J6,⟨[],true⟩),(OF,⟨[],true⟩),(OG,⟨[],true⟩),(OH,⟨[],true⟩),(UQ,⟨[],true⟩),(R6,⟨[],true⟩),(Ad,⟨[true,true,true,true,true,true,true,true,true,true],false⟩),(A4,⟨[],true⟩),(Mg,⟨[],true⟩),(UR,⟨[true],false⟩),(Ck,⟨[],true⟩),(A5,⟨[],true⟩),(xR,⟨[],true⟩),(Hx,⟨[],true⟩),(A6,⟨[],true⟩),(US,⟨[],true⟩),(R7,⟨[],true⟩),(R8,⟨[],true⟩),(UT,⟨[],true⟩),(R9,⟨[],true⟩),(UU,⟨[],true⟩),(Sa,⟨[],true⟩),(OI,⟨[],true⟩),(UV,⟨[],true⟩),(FY,⟨[true,true,true,true,true,true,true,true,true,true],false⟩),(Mh,⟨[true,true,true,true,true,true,true,true,true,true],false⟩),(Hy,⟨[true,true,true,true,true,true,true,true,true,true],false⟩),(FZ,⟨[true,true,true,true,true,true,true,true,true,true],false⟩),(Mi,⟨[true,true,true,true,true,true,true,true,true,true],false⟩),(F0,⟨[true,true,true,true,true,true,true,true,true,true],false⟩),(xS,⟨[],true⟩),(Mj,⟨[],true⟩),(Sb,⟨[],true⟩),(Mk,⟨[],true⟩),(Yx,⟨[],true⟩),(UW,⟨[],true⟩),(Et,⟨[],true⟩),(UX,⟨[],true⟩),(UY,⟨[],true⟩),(Eu,⟨[],true⟩),(uL,⟨[],true⟩),(Hz,⟨[],true⟩),(nC,⟨[true],false⟩),(Ev,⟨[],true⟩),(Yy,⟨[true],false⟩),(Cl,⟨[true],false⟩),(tG,⟨[true],false⟩),(UZ,⟨[],true⟩),(Sc,⟨[],true⟩),(OJ,⟨[],true⟩),(U0,⟨[],true⟩),(U1,⟨[],true⟩),(Sd,⟨[],true⟩),(U2,⟨[],true⟩),(CH,⟨[true,true,true,true,true,true,true,true,true,true],false⟩),(Se,⟨[true,true,true,true,true,true,true,true,true,true],false⟩),(CI,⟨[true,true,true,true,true,true,true,true,true,true],false⟩),(Ml,⟨[true,true,true,true,true,true,true,true,true,true],false⟩),(J7,⟨[true,true,true,true,true,true,true,true,true,true],false⟩),(OK,⟨[true,true,true,true,true,true,true,true,true,true],false⟩),(OL,⟨[true,true,true,true,true,true,true,true,true,true],false⟩),(Ew,⟨[],true⟩),(U3,⟨[],true⟩),(U4,⟨[],true⟩),(Sh,⟨[],true⟩),(Cm,⟨[],true⟩),(OM,⟨[],true⟩),(HB,⟨[],true⟩),(Si,⟨[],true⟩),(U5,⟨[],true⟩),(Sj,⟨[],true⟩),(J8,⟨[true,true,true,true,true,true,true,true,true,true],false⟩),(Ex,⟨[true,true,true,true,true,true,true,true,true,true],false⟩),(Ey,⟨[true,true,true,true,true,true,true,true,true,true],false⟩),(ON,⟨[true,true,true,true,true,true,true,true,true,true],false⟩),(Mm,⟨[true,true,true,true,true,true,true,true,true,true],false⟩),(J9,⟨[true,true,true,true,true,true,true,true,true,true],false⟩),(Mn,⟨[true,true,true,true,true,true,true,true,true,true],false⟩),(Ez,⟨[true,true,true,true,true,true,true,true,true,true],false⟩),(Cn,⟨[],true⟩),(HC,⟨[],true⟩),(OO,⟨[],true⟩),(Co,⟨[],true⟩),(HD,⟨[true,true,true,true,true,true,true,true,true,true],false⟩),(A9,⟨[true,true,true,true,true,true,true,true,true,true],false⟩),(HE,⟨[true,true,true,true,true,true,true,true,true,true],false⟩),(F2,⟨[true,true,true,true,true,true,true,true,true,true],false⟩),(uN,⟨[false,false,true],false⟩),(Cp,⟨[],true⟩)]
theorem vQ:Ql prog jF .frombits:=⟨FN jF,by kernel_rfl,by kernel_rfl,by kernel_rfl,by kernel_rfl,by kernel_rfl⟩
theorem Ba:Ql prog ny .bits:=⟨FN ny,by kernel_rfl,by kernel_rfl,by kernel_rfl,by kernel_rfl,by kernel_rfl⟩
theorem OP:Ql prog A8 .sqrt:=⟨FN A8,by kernel_rfl,by kernel_rfl,by kernel_rfl,by kernel_rfl,by kernel_rfl⟩
theorem CJ:Ql prog oG .add64:=⟨FN oG,by kernel_rfl,by kernel_rfl,by kernel_rfl,by kernel_rfl,by kernel_rfl⟩
theorem CM:Ql prog oH .sub64:=⟨FN oH,by kernel_rfl,by kernel_rfl,by kernel_rfl,by kernel_rfl,by kernel_rfl⟩
theorem mixed:prog.follows .mixedOrders=true:=by kernel_rfl
theorem ahU:abb prog=true:=by kernel_rfl
theorem eB:C0.Ok:=adY mixed ahU (by
  intro x hx
  simp only [List.mem_cons,List.not_mem_nil,or_false] at hx
  rcases hx with rfl | rfl | rfl | rfl | rfl
  · exact vQ
  · exact Ba
  · exact OP
  · exact CJ
  · exact CM
  )
end Go.Plb.Seat
