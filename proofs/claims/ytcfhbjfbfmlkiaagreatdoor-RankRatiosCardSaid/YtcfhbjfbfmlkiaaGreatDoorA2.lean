/-
  Part 2 of what the claim leans on: an evaluator of the model, proved sound; the contracts of the functions.
-/
import Derived.Laws.BytesString
import GoSem.Instr.Lookup
import GoSem.Extern.MathSqrt
import GoSem.Extern.MathFloatBits
import GoSem.Extern.MathBitsCarry
import GoSem.Extern.BytealgIndexByte
import GoSem.Extern.BytealgCount
import Derived.OrdersIn
import Derived.LoopNIn
import Derived.RangeFuncRecord
import Derived.RangeFuncLeaves
import Derived.LoopN
import Derived.Scope
import Derived.RangeFuncIn
import Derived.Laws.Externs
import Derived.WalkKit
import Derived.ProofKit
import Derived.OpenShut
import Derived.Deep.Slices
import Derived.Test.YtcfhbjfbfmlkiaaGreatDoorChecked
import Derived.KernelRfl
import Derived.Test.YtcfhbjfbfmlkiaaGreatDoorRows
import Derived.LaidLaws
import Derived.LaidHandle
import Derived.Lib.LaidTab
import Derived.JoinedOf
import Derived.Test.YtcfhbjfbfmlkiaaGreatDoorA1
namespace Go.Plb
noncomputable section
set_option linter.unusedSimpArgs false
set_option linter.unusedVariables false
set_option linter.unusedSectionVars false
variable [Rom]
def uk(d:aB) :Nat→Nat→Option (List AV)
  | 0,_=>some []
  | n+1,x=>match d.cell? x,uk d n (x+1) with
    | some v,some l=>some (v::l)
    | _,_=>none
theorem Fd{d:aB} :∀ {n x:Nat} {l:List AV},uk d n x=some l→l.length=n∧∀ j,j<n→d.cell? (x+j)=l[j]?
  | 0,x,l,h=>by simp only [uk,Option.some.injEq] at h;subst h;exact ⟨rfl,fun j hj=>absurd hj (Nat.not_lt_zero _)⟩
  | n+1,x,l,h=>by
    unfold uk at h
    split at h
    case h_2=>cases h
    rename_i v l' h1 h2
    simp only [Option.some.injEq] at h;subst h
    obtain ⟨a,b⟩:=Fd h2
    refine ⟨by simp [a],fun j hj=>?_⟩
    cases j with
    | zero=>simpa using h1
    | succ j =>
      have:=b j (by omega)
      rw [show x+(j+1)=x+1+j by omega,this];simp
def cpL{α:Type}(xs:List α)(i k:Nat)(ys:List α) :List α:=xs.take i++(ys.take k++xs.drop (i+k))
def acG(blk nb:aB)(w i k:Nat) :Option (aB×List Bool) :=
  match blk,nb with
  | .fl xs,.fl ys=>bif Nat.beq w 1 then some (.fl (cpL xs i k ys),[mW (i+k) xs.length,mW k ys.length]) else none
  | .ns kd xs,.ns kd' ys=>bif Nat.beq w 1&&cr kd kd' then some (.ns kd (cpL xs i k ys),[mW (i+k) xs.length,mW k ys.length]) else none
  | .bs xs,.bs ys=>bif Nat.beq w 1 then some (.bs (cpL xs i k ys),[mW (i+k) xs.length,mW k ys.length]) else none
  | blk,nb=>match uk nb k 0 with
    | some l=>bif gK l then blk.wrN w i l 0 else none
    | none=>none
theorem HD{α:Type}{d:aB}{f:α→AV}{ys:List α}(hd:∀ x,d.cell? x=(ys[x]?).map f) :∀ {k x:Nat},x+k≤ys.length→uk d k x=some (((ys.drop x).take k).map f)
  | 0,x,h=>by simp [uk]
  | k+1,x,h=>by
    have e1:ys[x]? = some (ys[x]'(by omega)):=List.getElem?_eq_getElem (by omega)
    have e2:=HD hd (k:=k) (x:=x+1) (by omega)
    unfold uk
    rw [hd,e1,e2]
    simp only [Option.map_some]
    rw [List.drop_eq_getElem_cons (show x<ys.length by omega),List.take_succ_cons,List.map_cons]
theorem Yb{α:Type}{g:List α→aB}{f:α→AV}{i:Nat}(hg:∀ xs j z,(g xs).wr 1 i j (f z)=some (g (xs.set (fb j i) z),[fm (fb j i) xs.length])) :
    ∀ {zs xs:List α} {j:Nat},i+j+zs.length≤xs.length→∃ o,(g xs).wrN 1 i (zs.map f) j=some (g (xs.take (i+j)++(zs++xs.drop (i+j+zs.length))),o)∧ay o
  | [],xs,j,h=>⟨[],by simp [aB.wrN],trivial⟩
  | z::zs,xs,j,h=>by
    rw [List.length_cons] at h
    have ad:fb j i=i+j:=by rw [kE];omega
    obtain ⟨o,h1,h2⟩:=Yb hg (zs:=zs) (xs:=xs.set (fb j i) z) (j:=j+1) (by rw [List.length_set];omega)
    refine ⟨fm (fb j i) xs.length::o,?_,by rw [ad];unfold fm;exact decide_eq_true (by omega),h2⟩
    simp only [List.map_cons,aB.wrN,hg,h1,List.singleton_append,Option.some.injEq,Prod.mk.injEq,and_true]
    congr 1
    rw [ad]
    have hp:i+j<xs.length:=by omega
    rw [show i+(j+1)=i+j+1 by omega,show i+j+(z::zs).length=i+j+1+zs.length by rw [List.length_cons];omega]
    generalize i+j=p at hp
    rw [List.drop_set_of_lt (by omega),List.take_succ_eq_append_getElem (by rw [List.length_set];exact hp),List.take_set_of_le (Nat.le_refl p),List.getElem_set_self]
    simp
theorem HE{α:Type}{f:α→AV}(hf:∀ z,(f z).one=true) :∀ (zs:List α),gK (zs.map f)=true
  | []=>rfl
  | z::zs=>by simp only [List.map_cons,gK,hf,HE hf zs,Bool.and_self]
theorem Ou{α:Type}{g:List α→aB}{f:α→AV}{i k:Nat}{xs ys:List α}(hg:∀ xs j z,(g xs).wr 1 i j (f z)=some (g (xs.set (fb j i) z),[fm (fb j i) xs.length]))(hd:∀ x,(g ys).cell? x=(ys[x]?).map f)(hf:∀ z,(f z).one=true) 
    (h1:mW (i+k) xs.length=true) (h2:mW k ys.length=true):∃ l o',uk (g ys) k 0=some l∧gK l=true∧(g xs).wrN 1 i l 0=some (g (cpL xs i k ys),o')∧ay o':=by
  unfold mW at h1 h2
  rw [decide_eq_true_eq] at h1 h2
  have hlen:(ys.take k).length=k:=by rw [List.length_take];omega
  obtain ⟨o,w1,w2⟩:=Yb hg (zs:=ys.take k) (xs:=xs) (j:=0) (by rw [hlen];omega)
  refine ⟨_,o,HD hd (by omega),HE hf _,?_,w2⟩
  rw [List.drop_zero,w1,hlen];rfl
theorem YZ{blk nb blk':aB}{w i k:Nat}{o:List Bool}(h:acG blk nb w i k=some (blk',o))(ho:ay o) :∃ l o',uk nb k 0=some l∧gK l=true∧blk.wrN w i l 0=some (blk',o')∧ay o':=by
  unfold acG at h
  split at h
  · cases e:Nat.beq w 1 with
    | false=>rw [e] at h;cases h
    | true =>
      rw [e] at h;cases h
      cases Nat.eq_of_beq_eq_true e
      exact Ou (g:=.fl) (f:=.flt false) (fun _ _ _=>rfl) (fun _=>rfl) (fun _=>rfl) ho.1 ho.2.1
  · rename_i kd xs kd' ys
    cases e:Nat.beq w 1&&cr kd kd' with
    | false=>rw [e] at h;cases h
    | true =>
      rw [e] at h;cases h
      rw [Bool.and_eq_true] at e
      cases Nat.eq_of_beq_eq_true e.1
      have e2:kd=kd':=by have:=e.2;simpa [cr] using this
      cases e2
      exact Ou (g:=.ns kd) (f:=.int kd) (fun xs j z=>by simp [aB.wr,cr]) (fun _=>rfl) (fun _=>rfl) ho.1 ho.2.1
  · cases e:Nat.beq w 1 with
    | false=>rw [e] at h;cases h
    | true =>
      rw [e] at h;cases h
      cases Nat.eq_of_beq_eq_true e
      exact Ou (g:=.bs) (f:=.bool false) (fun _ _ _=>rfl) (fun _=>rfl) (fun _=>rfl) ho.1 ho.2.1
  · split at h
    case h_2=>cases h
    rename_i l hl
    cases e:gK l with
    | false=>rw [e] at h;cases h
    | true=>rw [e] at h;exact ⟨l,o,hl,e,h,ho⟩
def M8(P:Program)(g:Nat→Option aB)(t:TypeId)(d x:AV) :Option (Nat×Nat×aB×List Bool×List Nat) :=
  match P.underlying t,d with
  | some (.slice e),.sl b w es i len _ =>
    match P.info? e,g b,RE g x with
    | some inf,some blk,some (m,es',nb,obs,rs) =>
      bif Nat.beq inf.size 1&&Nat.beq es' 1 then (acG blk nb w i (Nat.min m len)).map fun r=>(Nat.min m len,b,r.1,obs++r.2,b::rs) else none
    | _,_,_=>none
  | _,_=>none
theorem HR.same{ρ:ae}{w:World}{h:bC}{n b:Nat}{d:aB}(hh:HR ρ w h n)(hg:bf h b=some d) :HR ρ w (fM h b d) n:=by
  have e:∀ c,bf (fM h b d) c=bf h c:=by
    intro c;rw [cN];split
    · rename_i q;subst q;exact hg.symm
    · rfl
  exact ⟨fun c e' he=>hh.cell c e' (by rw [←e];exact he),fun a c d e' h1 h2=>hh.inj a c d e' (by rw [←e];exact h1) (by rw [←e];exact h2),hh.fresh,hh.liveLt,hh.outLt,hh.lt,hh.rom⟩
theorem RK{P:Program}{ρ:ae}{w:World}{h:bC}{n:Nat}(hh:HR ρ w h n){t t' T:TypeId}{d x:AV}{d' x':Value}(hd:VR ρ w d d')(hx:VR ρ w x x'){k b:Nat}{blk:aB}{obs:List Bool}{rs:List Nat} 
    (hc:M8 P (bf h) t d x=some (k,b,blk,obs,rs)) (ho:ay obs):∃ w',(Builtin.copy_ #[t,t'] T #[d',x']).run P w=.ok (.int .i64 (k:Int)) w'∧HR ρ w' (fM h b blk) n∧gO ρ.live w w':=by
  unfold M8 at hc
  split at hc
  case h_2=>cases hc
  rename_i e b' kk es i len cap ht
  split at hc
  case h_2=>cases hc
  rename_i inf blk0 m es' nb obs' rs' hi hg hsrc
  cases h1:Nat.beq inf.size 1&&Nat.beq es' 1 with
  | false=>rw [h1] at hc;cases hc
  | true =>
  rw [h1] at hc
  simp only [Bool.and_eq_true] at h1
  have hsz:=Nat.eq_of_beq_eq_true h1.1
  have hes:=Nat.eq_of_beq_eq_true h1.2
  subst hes
  simp only [cond_true,Option.map_eq_some_iff,Prod.mk.injEq] at hc
  obtain ⟨⟨blk',o'0⟩,hc2,rfl,rfl,rfl,rfl,rfl⟩:=hc
  rw [be] at ho
  obtain ⟨l,o',hl,h2,hw,ho2⟩:=YZ hc2 ho.2
  replace ho:ay obs'∧ay o':=⟨ho.1,ho2⟩
  have hS:=Hy hh hx hsrc ho.1
  obtain ⟨l1,l2⟩:=Fd hl
  obtain ⟨a,c,rfl,hv⟩:=hS.val
  have hsize:P.cellsOf e=1:=by simp [Program.cellsOf,hi,hsz]
  by_cases hn0:Nat.min m len=0
  · have el:l=[]:=List.length_eq_zero_iff.1 (by rw [l1,hn0])
    subst el
    simp only [aB.wrN,Option.some.injEq,Prod.mk.injEq] at hw
    obtain ⟨rfl,rfl⟩:=hw
    refine ⟨w,?_,hh.same hg,gO.refl _ _⟩
    rw [hn0]
    cases hd with
    | sl _ _ _ _ _ _ cap' hb hcap hle c' t' hhh hss =>
      have hn0':min m len=0:=hn0
      cases a<;>simp [Builtin.copy_,run_underlying ht,sizeOf,typeInfo,hi,Builtin.lenOf,Builtin.firstCells,storeCells,loadCells,loadCellsFrom,hn0',goInt]<;>rfl
    | slEnd _ _ _ _ a' =>
      cases a<;>cases a'<;>simp [Builtin.copy_,run_underlying ht,sizeOf,typeInfo,hi,Builtin.lenOf,Builtin.firstCells,storeCells,loadCells,loadCellsFrom,goInt]<;>rfl
  · have hmn : ¬ m=0:=fun q=>hn0 (by subst q;exact Nat.zero_min _)
    rcases hv with q | ⟨bl,o,rfl,news,hnl,hnews,hone,hrel⟩
    · exact absurd q hmn
    have hle:Nat.min m len≤news.length:=by rw [hnl,Nat.mul_one];exact Nat.min_le_left _ _
    have hvs:cv ρ w l (news.take (Nat.min m len)):=by
      have key:∀ (l:List AV) (us:List Value),l.length=us.length→(∀ (j:Nat) (v:AV) (u:Value),l[j]? = some v→us[j]? = some u→VR ρ w v u)→cv ρ w l us:=by
        intro l
        induction l with
        | nil=>intro us h1 _;have:us=[]:=List.length_eq_zero_iff.1 h1.symm;subst this;exact .nil
        | cons v l ih =>
          intro us h1 h2
          cases us with
          | nil=>simp at h1
          | cons u us=>exact .cons _ _ _ _ (h2 0 v u rfl rfl) (ih us (by simpa using h1) fun j v' u' q1 q2=>h2 (j+1) v' u' (by simpa using q1) (by simpa using q2))
      refine key _ _ (by rw [l1,List.length_take];omega) fun j v u q1 q2=>?_
      have hj:j<Nat.min m len:=by
        rcases Nat.lt_or_ge j (Nat.min m len) with z | z
        · exact z
        · rw [List.getElem?_eq_none (by omega)] at q1;cases q1
      have:=l2 j hj
      rw [Nat.zero_add,q1] at this
      obtain ⟨u',r1,r2⟩:=hrel j v this
      rw [List.getElem?_take,if_pos hj,r1] at q2
      cases q2
      exact r2
    cases hd with
    | slEnd=>exact absurd (Nat.min_zero m) hn0
    | sl _ _ _ _ _ _ cap' hb hcap hle' c' t'' hhh hss =>
      obtain ⟨w',r1,r2,r3⟩:=sz (P:=P) (x0:=0) (j:=0) hh hg hvs h2 hw ho.2
      refine ⟨w',?_,r2,r3⟩
      have hf:=run_firstCells_some (P:=P) w 1 (Nat.min m len) ⟨bl,o,none⟩ m c (news.take (Nat.min m len)) (by rw [List.length_take];omega) (fun j v hj=>by
        rw [List.getElem?_take] at hj
        split at hj
        · exact hnews j v hj
        · cases hj)
      simp only [Nat.add_zero] at r1
      have hf':(Builtin.firstCells 1 (min m len) (.slice (some ⟨bl,o,none⟩) m c)).run P w=.ok (news.take (min m len)).toArray w:=hf
      have r1':(storeCells ⟨ρ.at_ b',i*kk,none⟩ (news.take (min m len)) 0).run P w=.ok () w':=r1
      have hm:((Nat.min m len:Nat):Int)=((min m len:Nat):Int):=rfl
      simp [Builtin.copy_,run_underlying ht,sizeOf,typeInfo,hi,hsz,Builtin.lenOf,hf',r1',goInt,hm]
def aaj:AV→Bool
  | .nsl | .esl | .zsl _=>true
  | _=>false
theorem aak{ρ:ae}{w:World}{x:AV}{u:Value}(h:VR ρ w x u)(hv:aaj x=true) :∃ a c,u=.slice a 0 c:=by
  cases h<;>first | exact ⟨_,_,rfl⟩ | cases hv
def M9(P:Program)(g:Nat→Option aB)(t:TypeId)(d x:AV) :Option (Nat×Nat×aB×List Bool×List Nat) :=
  match aaj x with
  | false=>M8 P g t d x
  | true=>match P.underlying t,d with
    | some (.slice e),.sl b _ _ _ _ _=>match P.info? e,g b with
      | some _,some blk=>some (0,b,blk,[],[b])
      | _,_=>none
    | _,_=>none
theorem RL{P:Program}{ρ:ae}{w:World}{h:bC}{n:Nat}(hh:HR ρ w h n){t t' T:TypeId}{d x:AV}{d' x':Value}(hd:VR ρ w d d')(hx:VR ρ w x x'){k b:Nat}{blk:aB}{obs:List Bool}{rs:List Nat} 
    (hc:M9 P (bf h) t d x=some (k,b,blk,obs,rs)) (ho:ay obs):∃ w',(Builtin.copy_ #[t,t'] T #[d',x']).run P w=.ok (.int .i64 (k:Int)) w'∧HR ρ w' (fM h b blk) n∧gO ρ.live w w':=by
  unfold M9 at hc
  split at hc
  · exact RK hh hd hx hc ho
  · rename_i hvx
    obtain ⟨a,c,rfl⟩:=aak hx hvx
    split at hc
    case h_2=>cases hc
    rename_i e b' kk es i len cap ht
    split at hc
    case h_2=>cases hc
    rename_i inf blk0 hi hg
    simp only [Option.some.injEq,Prod.mk.injEq] at hc
    obtain ⟨rfl,rfl,rfl,rfl,rfl⟩:=hc
    refine ⟨w,?_,hh.same hg,gO.refl _ _⟩
    cases hd with
    | sl _ _ _ _ _ _ cap' hb hcap hle c' t' hhh hss =>
      cases a<;>simp [Builtin.copy_,run_underlying ht,sizeOf,typeInfo,hi,Builtin.lenOf,Builtin.firstCells,storeCells,loadCells,loadCellsFrom,goInt]<;>rfl
    | slEnd _ _ _ _ a' =>
      cases a<;>cases a'<;>simp [Builtin.copy_,run_underlying ht,sizeOf,typeInfo,hi,Builtin.lenOf,Builtin.firstCells,storeCells,loadCells,loadCellsFrom,goInt]<;>rfl
def adc(l:List Int) :ByteArray:=l.foldl (fun r n=>r.push (UInt8.ofNat n.toNat)) ByteArray.empty
def Y0(P:Program)(g:Nat→Option aB)(s d:TypeId)(x:AV) :Option (ByteArray×List Bool×List Nat) :=
  match P.underlying s,P.underlying d with
  | some (.slice e),some .string =>
    match P.underlying e,RE g x with
    | some (.int .u8),some (m,es,.ns k ys,obs,rs)=>bif Nat.beq es 1&&cr k .u8 then some (adc ys,obs,rs) else none
    | _,_=>none
  | _,_=>none
theorem VN{P:Program}{ρ:ae}{w:World}{h:bC}{n:Nat}(hh:HR ρ w h n){s d:TypeId}{x:AV}{x':Value}(hx:VR ρ w x x'){t:ByteArray}{obs:List Bool}{rs:List Nat} 
    (hc:Y0 P (bf h) s d x=some (t,obs,rs)) (ho:ay obs):(convert s d x').run P w=.ok (.string t) w:=by
  unfold Y0 at hc
  split at hc
  case h_2=>cases hc
  rename_i e hs hd
  split at hc
  case h_2=>cases hc
  rename_i m es k ys obs' rs' he hsrc
  cases h1:Nat.beq es 1&&cr k .u8 with
  | false=>rw [h1] at hc;cases hc
  | true =>
  rw [h1] at hc
  simp only [Bool.and_eq_true] at h1
  have hes:=Nat.eq_of_beq_eq_true h1.1
  have hk:k=.u8:=by simpa [cr] using h1.2
  subst hes hk
  simp only [cond_true,Option.some.injEq,Prod.mk.injEq] at hc
  obtain ⟨rfl,rfl,rfl⟩:=hc
  have hS:=Hy hh hx hsrc ho
  obtain ⟨a,c,rfl,hv⟩:=hS.val
  have hlen:ys.length=m:=by
    have:=hS.count
    rw [Nat.mul_one] at this
    exact this
  rw [run_convert_bytes_string w s d e a m c hs he hd]
  rcases hv with h0 | ⟨bl,o,rfl,news,hnl,hnews,hone,hrel⟩
  · subst h0
    have hy:ys=[]:=List.length_eq_zero_iff.1 hlen
    subst hy
    cases a with
    | none=>rfl
    | some a=>exact run_bytesToString w a 0 c [] (by simp [loadCells,loadCellsFrom])
  · have hnews':news=ys.map (Value.int .u8):=by
      refine List.ext_getElem? fun j=>?_
      rw [List.getElem?_map]
      cases hj:ys[j]? with
      | none =>
        rw [List.getElem?_eq_none_iff] at hj
        rw [List.getElem?_eq_none (by omega)];rfl
      | some z =>
        obtain ⟨u,q1,q2⟩:=hrel j (.int .u8 z) (by show (ys[j]?).map _=_;rw [hj];rfl)
        rw [q1]
        cases q2
        rfl
    subst hnews'
    refine run_bytesToString w ⟨bl,o,none⟩ m c ys ?_
    have hf:=run_firstCells_some (P:=P) w 1 m ⟨bl,o,none⟩ m c (ys.map (Value.int .u8)) (by rw [hnl]) hnews
    simpa [Builtin.firstCells] using hf
def DY(P:Program)(g:Nat→Option aB)(t:TypeId)(x:AV)(lo hi:Option AV) :Option (AV×List Bool×List Nat) :=
  match P.underlying t,x with
  | some (.array n e),.ptr b 1 0 0 =>
    match g b,P.info? e,DP hi n,DP lo 0 with
    | some (.ns k xs),some ie,some h,some l =>
      bif Nat.beq ie.size 1 then some (.sl b 1 1 l.toNat (h.toNat-l.toNat) (n-l.toNat),[vg h n,vg l h.toNat,mW n xs.length],[b]) else none
    | _,_,_,_=>none
  | _,_=>none
theorem Ov{P:Program}{ρ:ae}{w:World}{hp:bC}{m:Nat}(hh:HR ρ w hp m){e:Operand→AV}{g:Operand→Value}(hops:∀ x,VR ρ w (e x) (g x)){t:TypeId}{x:AV}{x':Value}{lo hi:Option Operand}{v:AV}{obs:List Bool}{rs:List Nat} 
    (hx:VR ρ w x x') (h:DY P (bf hp) t x (lo.map e) (hi.map e)=some (v,obs,rs)) (ho:ay obs):iz P ρ w (Instr.sliceAt t x' (lo.map g) (hi.map g) none) v:=by
  unfold DY at h
  split at h
  case h_2=>cases h
  rename_i n el b hu
  split at h
  case h_2=>cases h
  rename_i k xs ie hh' ll hg hi' e1 e2
  cases hb1:Nat.beq ie.size 1 with
  | false=>rw [hb1] at h;cases h
  | true =>
  rw [hb1] at h
  simp only [cond_true,Option.some.injEq,Prod.mk.injEq] at h
  obtain ⟨rfl,rfl,rfl⟩:=h
  have hsz:ie.size=1:=Nat.eq_of_beq_eq_true hb1
  have b1:=hD ho.1
  have b2:=hD ho.2.1
  have b3:n≤xs.length:=by have:=ho.2.2.1;unfold mW at this;exact of_decide_eq_true this
  have hce:P.cellsOf el=1:=by simp [Program.cellsOf,hi',hsz]
  cases hx with
  | ptr _ _ _ _ hbo =>
  obtain ⟨hl,hr,c,ty,hc,hcv⟩:=hh.real hg hbo
  have hn:n≤c.size:=by
    rcases Nat.eq_zero_or_pos n with z | z
    · omega
    · have hlt:n-1<xs.length:=by omega
      obtain ⟨u,q,_⟩:=hcv (n-1) (.int k (xs[n-1]'hlt)) (by show (xs[n-1]?).map _=_;rw [List.getElem?_eq_getElem hlt];rfl)
      have:=(Array.getElem?_eq_some_iff.1 q).1
      omega
  have run:=jo (P:=P) (w:=w) false n n (lo.map g) (hi.map g) ll hh' (ly hops e2) (ly hops e1) b1 ⟨b2.1,by omega⟩
  have run2:(Instr.sliceAt t (.pointer (some ⟨ρ.at_ b,0*1+0,none⟩)) (lo.map g) (hi.map g) none).run P w=.ok (.slice (some (if n=ll.toNat then ⟨ρ.at_ b,0*1+0,none⟩ else (Addr.add ⟨ρ.at_ b,0*1+0,none⟩ (ll.toNat*P.cellsOf el)))) (hh'.toNat-ll.toNat) (n-ll.toNat)) w:=by
    simp only [Instr.sliceAt,Sem.run_bind,run_underlying hu,Result.andThen]
    simp [Instr.sureAddr,run,run_sizeOf w hi',hce,hsz,Sem.run_bind,Result.andThen,Sem.run_pure,Go.asAddr]
  refine .plain run2 ?_
  by_cases q:n=ll.toNat
  · rw [if_pos q]
    have z1:hh'.toNat-ll.toNat=0:=by omega
    have z2:n-ll.toNat=0:=by omega
    rw [z1,z2]
    exact .slEnd _ _ _ _ _
  · rw [if_neg q,kb,hce]
    have:0*1+0+ll.toNat*1=ll.toNat*1:=by omega
    rw [this]
    exact .sl _ _ _ _ _ _ _ hbo (Nat.le_refl _) (by omega) c ty hc (by omega)
theorem Ow{P:Program}{g g':Nat→Option aB}{t:TypeId}{x:AV}{lo hi:Option AV}{r:AV×List Bool×List Nat}(h:DY P g t x lo hi=some r)(hg:∀ b∈r.2.2,g' b=g b) :DY P g' t x lo hi=some r:=by
  unfold DY at h ⊢
  split at h
  case h_2=>cases h
  rename_i n el b hu
  split at h
  case h_2=>cases h
  rename_i k xs ie hh' ll hgb hi' e1 e2
  cases hb1:Nat.beq ie.size 1 with
  | false=>rw [hb1] at h;cases h
  | true =>
  rw [hb1] at h
  simp only [cond_true,Option.some.injEq] at h
  subst h
  have:g' b=some (.ns k xs):=by rw [hg b (by simp)];exact hgb
  simp only [this,hi',e1,e2,hb1,cond_true]
def cT.like:cT→cT→Bool
  | .i k _,.i k' _=>cr k k'
  | .s _,.s _=>true
  | .p k _ _,.p k' _ _=>cr k k'
  | _,_=>false
def cT.same:cT→cT→Bool
  | .i _ n,.i _ m=>n==m
  | .s a,.s b=>decide (a=b)
  | .p _ x y,.p _ x' y'=>x==x'&&y==y'
  | _,_=>false
def cT.fits:TypeDesc→cT→Bool
  | .int _,.i ..=>true
  | .string,.s _=>true
  | _,_=>false
def B5(k:cT) :List cT→Bool
  | []=>true
  | q::l=>k.like q&&B5 k l
def HF:List cT→Bool
  | []=>true
  | q::l=>(l.all fun r=>!q.same r)&&HF l
def acH:AV→Option cT
  | .int k n=>some (.i k n)
  | .str s=>some (.s s)
  | .agg [.int k x,.int k' y]=>bif cr k k' then some (.p k x y) else none
  | _=>none
def HG(P:Program)(kt:TypeId) :cT→Bool
  | .p k _ _=>match P.underlying kt with
    | some (.array 2 et)=>match P.underlying et,(P.info? et).map (·.size) with
      | some (.int _),some 1=>true
      | _,_=>false
    | _=>false
  | _=>false
def aal:Value→AV
  | .agg c=>.agg (c.toList.map fk)
  | v=>fk v
def okV(cok:Bool)(v:AV)(b:Bool) :AV:=bif cok then .tup [v,.bool true b] else v
def B6(cok:Bool)(k:cT) :List cT→List AV→List rH
  | q::ks,v::vs=>⟨okV cok v true,[],[k.same q]⟩::B6 cok k ks vs
  | _,_=>[]
def Ox(P:Program)(t:TypeId)(x k:AV)(cok:Bool) :List rH :=
  match P.underlying t,x,acH k with
  | some (.map kt et),.gmap ks vs,some key =>
    match P.underlying kt,(P.info? et).bind (·.zero) with
    | some d,some z=>bif (key.fits d||HG P kt key)&&B5 key ks&&HF ks then B6 cok key ks vs++[⟨okV cok (aal z) false,[],ks.map fun q=>!key.same q⟩] else []
    | _,_=>[]
  | _,_,_=>[]
theorem HH{P:Program}{w:World}{t:TypeId}{n:Nat}(h:(P.info? t).map (·.size)=some n) :(sizeOf t).run P w=.ok n w:=by
  obtain ⟨i,h1,h2⟩:=Option.map_eq_some_iff.1 h
  subst h2
  simp [sizeOf,typeInfo,Sem.run_bind,h1]
theorem B7{P:Program}{w:World}{et:TypeId}{k:IntKind}(he:P.underlying et=some (.int k)){cs:Array Value}{off:Nat}{v:Value}(hc:cs[off]? = some v) :(part et cs off).run P w=.ok v w:=by
  unfold part
  simp [isAgg,Sem.run_bind,run_underlying he,hc]
theorem abI{P:Program}{w:World}{kt et:TypeId}{k:IntKind}(hu:P.underlying kt=some (.array 2 et))(he:P.underlying et=some (.int k))(hs:(P.info? et).map (·.size)=some 1)(j:IntKind)(x y x' y':Int)(n:Nat) :
    (Op.equalIn (n+2) kt (.agg #[.int j x,.int j y]) (.agg #[.int j x',.int j y'])).run P w=.ok (x==x'&&y==y') w:=by
  unfold Op.equalIn
  rw [Sem.run_bind,run_underlying hu]
  simp only [Result.andThen_ok,Sem.run_bind,HH hs]
  have e1:∀ a b,(Op.equalIn (n+1) et (.int j a) (.int j b)).run P w=.ok (a==b) w:=fun a b=>by
    unfold Op.equalIn
    rw [Sem.run_bind,run_underlying he]
    simp
  have p0:∀ a b:Int,(part et #[.int j a,.int j b] 0).run P w=.ok (.int j a) w:=fun a b=>B7 he rfl
  have p1:∀ a b:Int,(part et #[.int j a,.int j b] 1).run P w=.ok (.int j b) w:=fun a b=>B7 he rfl
  simp [Std.Legacy.Range.forIn_eq_forIn_range',Std.Legacy.Range.size,List.range',Sem.run_bind,p0,p1,e1]
  cases h1:(x==x')<;>cases h2:(y==y')<;>simp_all [Sem.run_bind,p0,p1,e1]
theorem HI{P:Program}{w:World}{kt et:TypeId}{k:IntKind}(hu:P.underlying kt=some (.array 2 et))(he:P.underlying et=some (.int k))(hs:(P.info? et).map (·.size)=some 1)(j:IntKind)(x y:Int)(b:Bool)(n:Nat) :
    (Instr.checkKey b (n+2) kt (.agg #[.int j x,.int j y])).run P w=.ok () w:=by
  unfold Instr.checkKey
  rw [Sem.run_bind,run_underlying hu]
  have p0:∀ a b:Int,(part et #[.int j a,.int j b] 0).run P w=.ok (.int j a) w:=fun a b=>B7 he rfl
  have p1:∀ a b:Int,(part et #[.int j a,.int j b] 1).run P w=.ok (.int j b) w:=fun a b=>B7 he rfl
  have c1:∀ a,(Instr.checkKey b (n+1) et (.int j a)).run P w=.ok () w:=fun a=>by
    unfold Instr.checkKey
    rw [Sem.run_bind,run_underlying he]
    rfl
  simp [Std.Legacy.Range.forIn_eq_forIn_range',Std.Legacy.Range.size,List.range',Sem.run_bind,HH hs,p0,p1,c1]
theorem Na{P:Program}{kt:TypeId}{key:cT}(h:HG P kt key=true) :∃ k x y et k',key=.p k x y∧P.underlying kt=some (.array 2 et)∧P.underlying et=some (.int k')∧(P.info? et).map (·.size)=some 1:=by
  unfold HG at h
  split at h
  case h_2=>cases h
  rename_i k x y
  split at h
  case h_2=>cases h
  rename_i et hu
  split at h
  case h_2=>cases h
  rename_i k' he hs
  exact ⟨k,x,y,et,k',rfl,hu,he,hs⟩
theorem ny{k:cT} :∀ {l:List cT},B5 k l=true→∀ q∈l,k.like q=true
  | [],_,q,h=>by cases h
  | r::l,h,q,hq=>by
    simp only [B5,Bool.and_eq_true] at h
    rcases List.mem_cons.1 hq with rfl | hq
    · exact h.1
    · exact ny h.2 q hq
theorem RM(ρ:ae)(w:World)(v:Value) :VR ρ w (aal v) v:=by
  unfold aal
  split
  · exact .agg _ _ (vj ρ w _)
  · exact pk ρ w v
theorem aam{ρ:ae}{w:World}{k:AV}{k':Value}{key:cT}(h:VR ρ w k k')(hk:acH k=some key) :k'=key.val:=by
  unfold acH at hk
  split at hk
  · cases hk;cases h;rfl
  · cases hk;cases h;rfl
  · rename_i k x k' y
    cases hs:cr k k' with
    | false=>rw [hs] at hk;cases hk
    | true =>
      rw [hs] at hk
      have hkk:k=k':=by simpa [cr] using hs
      subst hkk
      cases hk
      cases h with | agg _ c h =>
      obtain ⟨c⟩:=c
      cases h with | cons _ _ _ _ h1 h2 =>
      cases h2 with | cons _ _ _ _ h2 h3 =>
      cases h3;cases h1;cases h2;rfl
  · cases hk
theorem uY{k q:cT}(h:k.like q=true) :k.same q=true↔q.val=k.val:=by
  cases k with
  | i k n =>
    cases q with
    | i k' m =>
      have:k=k':=by simpa [cT.like,cr] using h
      subst this
      simp only [cT.same,cT.val,beq_iff_eq,Value.int.injEq,true_and]
      exact ⟨fun e=>e.symm,fun e=>e.symm⟩
    | s b=>cases h
    | p=>cases h
  | p k x y =>
    cases q with
    | p k' x' y' =>
      have:k=k':=by simpa [cT.like,cr] using h
      subst this
      simp only [cT.same,cT.val,Bool.and_eq_true,beq_iff_eq]
      exact ⟨fun ⟨h1,h2⟩=>by rw [h1,h2],fun h=>by simp at h;exact ⟨h.1.symm,h.2.symm⟩⟩
    | i=>cases h
    | s=>cases h
  | s a =>
    cases q with
    | i k' m=>cases h
    | p=>cases h
    | s b =>
      simp only [cT.same,cT.val,decide_eq_true_eq,Value.string.injEq]
      exact ⟨fun e=>e.symm,fun e=>e.symm⟩
theorem acI(a b:ByteArray) :(a==b)=decide (a=b):=by
  have e:(a==b)=(a.data==b.data):=rfl
  rw [e]
  by_cases h:a=b
  · subst h;simp
  · rw [decide_eq_false h]
    have:a.data≠b.data:=fun c=>h (by cases a;cases b;simp at c;subst c;rfl)
    simpa using this
theorem abJ{d:TypeDesc}{k q:cT}(hf:k.fits d=true)(h:k.like q=true) :Instr.sameNow d k.val q.val=some (k.same q):=by
  cases k with
  | i k n =>
    cases q with
    | i k' m =>
      have:k=k':=by simpa [cT.like,cr] using h
      subst this
      cases d<;>first | (cases hf;done) | simp [cT.val,Instr.sameNow,cT.same]
    | s b=>cases h
    | p=>cases h
  | p k x y=>cases d<;>cases hf
  | s a =>
    cases q with
    | i k' m=>cases h
    | p=>cases h
    | s b =>
      cases d<;>first | (cases hf;done) | (simp only [cT.val,Instr.sameNow,cT.same,acI])
theorem B8{d:TypeDesc}{key:cT}(hf:key.fits d=true) :∀ (es:List MapEntry) (i:Nat),(∀ e∈es,∃ q:cT,key.like q=true∧e.key=q.val) →
    (Instr.findNow d key.val es i=some none∧∀ e∈es,e.key≠key.val)∨∃ j e,e∈es∧e.key=key.val∧Instr.findNow d key.val es i=some (some (j,e.val))
  | [],i,_=>.inl ⟨rfl,fun e h=>by cases h⟩
  | e::es,i,h=>by
    obtain ⟨q,hq,he⟩:=h e (by simp)
    have hn:Instr.sameNow d key.val e.key=some (key.same q):=by rw [he];exact abJ hf hq
    cases hs:key.same q with
    | true =>
      refine .inr ⟨i,e,by simp,by rw [he];exact (uY hq).1 hs,?_⟩
      simp only [Instr.findNow,hn,hs]
    | false =>
      have hne:e.key≠key.val:=by rw [he];intro c;rw [(uY hq).2 c] at hs;cases hs
      rcases B8 hf es (i+1) (fun e he=>h e (by simp [he])) with ⟨q1,q2⟩ | ⟨j,e',q1,q2,q3⟩
      · refine .inl ⟨by simp only [Instr.findNow,hn,hs];exact q1,fun e' he'=>?_⟩
        rcases List.mem_cons.1 he' with rfl | he'
        · exact hne
        · exact q2 e' he'
      · exact .inr ⟨j,e',by simp [q1],q2,by simp only [Instr.findNow,hn,hs];exact q3⟩
theorem B9{P:Program}{w:World}{kt et:TypeId}{k':IntKind}(hu:P.underlying kt=some (.array 2 et))(he:P.underlying et=some (.int k'))(hs:(P.info? et).map (·.size)=some 1){k:IntKind}{x y:Int} :∀ (es:List MapEntry) (i:Nat),(∀ e∈es,∃ q:cT,(cT.p k x y).like q=true∧e.key=q.val) →
    ((Instr.findAsking kt (cT.p k x y).val es i).run P w=.ok none w∧∀ e∈es,e.key≠(cT.p k x y).val)∨∃ j e,e∈es∧e.key=(cT.p k x y).val∧(Instr.findAsking kt (cT.p k x y).val es i).run P w=.ok (some (j,e.val)) w
  | [],i,_=>.inl ⟨by simp [Instr.findAsking],fun e h=>by cases h⟩
  | e::es,i,h=>by
    obtain ⟨q,hq,hk⟩:=h e (by simp)
    obtain ⟨k2,x',y',rfl⟩:∃ k2 x' y',q=.p k2 x' y':=by cases q<;>first | exact ⟨_,_,_,rfl⟩ | cases hq
    have hkk:k=k2:=by simpa [cT.like,cr] using hq
    subst hkk
    have heq:(Op.equal kt (cT.p k x y).val e.key).run P w=.ok (x==x'&&y==y') w:=by
      rw [hk];exact abI hu he hs k x y x' y' _
    have hfa:(Instr.findAsking kt (cT.p k x y).val (e::es) i).run P w=if (x==x'&&y==y')=true then .ok (some (i,e.val)) w else (Instr.findAsking kt (cT.p k x y).val es (i+1)).run P w:=by
      rw [Instr.findAsking]
      simp only [Sem.run_bind,heq,Result.andThen_ok]
      split<;>simp
    cases hb:(x==x'&&y==y') with
    | true =>
      refine .inr ⟨i,e,by simp,?_,by rw [hfa,hb];rfl⟩
      simp only [Bool.and_eq_true,beq_iff_eq] at hb
      rw [hk,hb.1,hb.2]
    | false =>
      have hne:e.key≠(cT.p k x y).val:=by
        rw [hk]
        intro c
        simp [cT.val] at c
        rw [c.1,c.2] at hb
        simp at hb
      rw [hb] at hfa
      simp only [Bool.false_eq_true,if_false] at hfa
      rcases B9 hu he hs es (i+1) (fun e he=>h e (by simp [he])) with ⟨q1,q2⟩ | ⟨j,e',q1,q2,q3⟩
      · refine .inl ⟨by rw [hfa];exact q1,fun e' he'=>?_⟩
        rcases List.mem_cons.1 he' with rfl | he'
        · exact hne
        · exact q2 e' he'
      · exact .inr ⟨j,e',by simp [q1],q2,by rw [hfa];exact q3⟩
theorem Y1{P:Program}{w:World}{kt:TypeId}{d:TypeDesc}(hu:P.underlying kt=some d){key:cT}(hf:key.fits d=true)(b:Bool)(n:Nat) :(Instr.checkKey b (n+1) kt key.val).run P w=.ok () w:=by
  unfold Instr.checkKey
  rw [Sem.run_bind,run_underlying hu]
  cases key<;>cases d<;>first | (cases hf;done) | rfl
theorem Nb{P:Program}{w:World}{kt:TypeId}{d:TypeDesc}(hu:P.underlying kt=some d){key:cT}(hf:(key.fits d||HG P kt key)=true)(b:Bool)(n:Nat) :(Instr.checkKey b (n+2) kt key.val).run P w=.ok () w:=by
  rcases Bool.or_eq_true _ _ ▸ hf with h | h
  · exact Y1 hu h b (n+1)
  · obtain ⟨k,x,y,et,k',rfl,h1,h2,h3⟩:=Na h
    exact HI h1 h2 h3 k x y b n
theorem Ca{P:Program}{w:World}{kt:TypeId}{d:TypeDesc}(hu:P.underlying kt=some d){key:cT}(hf:(key.fits d||HG P kt key)=true)(es:List MapEntry)(h:∀ e∈es,∃ q:cT,key.like q=true∧e.key=q.val) :
    ((Instr.findKey kt key.val es).run P w=.ok none w∧∀ e∈es,e.key≠key.val)∨∃ j e,e∈es∧e.key=key.val∧(Instr.findKey kt key.val es).run P w=.ok (some (j,e.val)) w:=by
  unfold Instr.findKey
  rcases Bool.or_eq_true _ _ ▸ hf with hk | hk
  · rcases B8 hk es 0 h with ⟨q1,q2⟩ | ⟨j,e,q1,q2,q3⟩
    · exact .inl ⟨by simp only [Sem.run_bind,run_underlying hu,Result.andThen_ok,q1];rfl,q2⟩
    · exact .inr ⟨j,e,q1,q2,by simp only [Sem.run_bind,run_underlying hu,Result.andThen_ok,q3];rfl⟩
  · obtain ⟨k,x,y,et,k',rfl,h1,h2,h3⟩:=Na hk
    have hd:d=.array 2 et:=by rw [hu] at h1;exact Option.some.inj h1
    subst hd
    cases es with
    | nil=>exact .inl ⟨by simp only [Sem.run_bind,run_underlying hu,Result.andThen_ok,Instr.findNow];rfl,fun e h=>by cases h⟩
    | cons e es =>
      have hn:Instr.findNow (.array 2 et) (cT.p k x y).val (e::es) 0=none:=rfl
      simp only [Sem.run_bind,run_underlying hu,Result.andThen_ok,hn]
      exact B9 h1 h2 h3 (e::es) 0 h
theorem vt{cok:Bool}{k:cT} :∀ {ks:List cT} {vs:List AV} {r:rH},r∈B6 cok k ks vs→∃ (i:Nat) (q:cT) (v:AV),ks[i]? = some q∧vs[i]? = some v∧r=⟨okV cok v true,[],[k.same q]⟩
  | q::ks,v::vs,r,h=>by
    simp only [B6,List.mem_cons] at h
    rcases h with rfl | h
    · exact ⟨0,q,v,rfl,rfl,rfl⟩
    · obtain ⟨i,q',v',h1,h2,h3⟩:=vt h
      exact ⟨i+1,q',v',by simpa using h1,by simpa using h2,h3⟩
  | [],_,r,h=>by cases h
  | _::_,[],r,h=>by cases h
theorem AN:∀ {l:List cT},HF l=true→∀ {i j:Nat} {q r:cT},l[i]? = some q→l[j]? = some r→i<j→q.same r=false
  | [],_,i,j,q,r,h1,_,_=>by simp at h1
  | x::l,hn,i,j,q,r,h1,h2,hlt=>by
    simp only [HF,Bool.and_eq_true,List.all_eq_true,Bool.not_eq_true'] at hn
    cases j with
    | zero=>omega
    | succ j =>
      cases i with
      | zero =>
        simp at h1 h2;subst h1
        exact hn.1 r (List.mem_of_getElem? h2)
      | succ i=>exact AN hn.2 (i:=i) (j:=j) (by simpa using h1) (by simpa using h2) (by omega)
theorem HJ{P:Program}{w:World}{t kt et:TypeId}(ht:P.underlying t=some (.map kt et)){bl cl:Nat}{es:Array MapEntry}(hh:w.heap[bl]? = some (.map es cl)){key:cT}(hck:∀ b,(Instr.checkKey b 10000 kt key.val).run P w=.ok () w) 
    {r:Option (Nat×Value)} (hfk:(Instr.findKey kt key.val es.toList).run P w=.ok r w) {z:Value} (hz:(zeroValue et).run P w=.ok z w) (cok:Bool) :
    (Instr.lookup t (.map (some bl)) key.val cok).run P w=.ok (if cok then .tuple #[(r.map Prod.snd).getD z,.bool r.isSome] else (r.map Prod.snd).getD z) w:=by
  unfold Instr.lookup
  simp only [Sem.run_bind,run_underlying ht,Result.andThen_ok]
  have hg:(getObj bl).run P w=.ok (.map es cl) w:=by simp [getObj,Sem.run,hh]
  simp only [Sem.run_bind,hg,Result.andThen_ok,Sem.run_pure,hck]
  simp only [hfk,Result.andThen_ok]
  cases r with
  | none=>simp only [Sem.run_bind,hz,Result.andThen_ok,Sem.run_pure];cases cok<;>rfl
  | some p=>obtain ⟨j,v⟩:=p;simp only [Sem.run_bind,Result.andThen_ok,Sem.run_pure];cases cok<;>rfl
theorem Kq{P:Program}{ρ:ae}{w:World}{t:TypeId}{x k:AV}{x' k':Value}{cok:Bool}{r:rH}(hx:VR ρ w x x')(hk:VR ρ w k k')(h:r∈Ox P t x k cok)(ho:ay r.obs) :
    iz P ρ w (Instr.lookup t x' k' cok) r.v:=by
  unfold Ox at h
  split at h
  case h_2=>cases h
  rename_i kt et ks vs key ht hkey
  split at h
  case h_2=>cases h
  rename_i d z hd hz
  cases hb:(key.fits d||HG P kt key)&&B5 key ks&&HF ks with
  | false=>rw [hb] at h;cases h
  | true =>
  rw [hb] at h
  simp only [cond_true,List.mem_append,List.mem_singleton] at h
  simp only [Bool.and_eq_true] at hb
  obtain ⟨⟨hf,hl⟩,hn⟩:=hb
  have hkv:=aam hk hkey
  subst hkv
  cases hx with | gmap _ _ bl es cl u ha hb' hh hin hex hv hlen hkept =>
  simp only [Option.bind_eq_some_iff] at hz
  obtain ⟨inf,hi,hz⟩:=hz
  have hzv:(zeroValue et).run P w=.ok z w:=by simp [zeroValue,typeInfo,hi,hz]
  have hes:∀ e∈es.toList,∃ q:cT,key.like q=true∧e.key=q.val:=fun e he=>by
    obtain ⟨i,q,h1,h2,_⟩:=hin e he
    exact ⟨q,ny hl q (List.mem_of_getElem? h1),h2⟩
  rcases Ca hd hf es.toList hes with ⟨q1,q2⟩ | ⟨j,e,q1,q2,q3⟩
  · have run:=HJ ht hh (fun b=>Nb hd hf b 9998) q1 hzv cok
    rcases h with h | rfl
    · obtain ⟨i,q,v,h1,h2,rfl⟩:=vt h
      obtain ⟨e,he,h3,_⟩:=hex i q h1
      exact absurd (h3.trans ((uY (ny hl q (List.mem_of_getElem? h1))).1 ho.1)) (q2 e he)
    · refine .plain run ?_
      cases cok
      · exact RM ρ w z
      · exact .tup _ #[_,_] (.cons _ _ _ _ (RM ρ w z) (.cons _ _ _ _ (.bool _ _) .nil))
  · have run:=HJ ht hh (fun b=>Nb hd hf b 9998) q3 hzv cok
    obtain ⟨i,q,h1,h2,h3⟩:=hin e q1
    have hsame:key.same q=true:=(uY (ny hl q (List.mem_of_getElem? h1))).2 (h2.symm.trans q2)
    rcases h with h | rfl
    · obtain ⟨i',q',v,k1,k2,rfl⟩:=vt h
      have hij:i=i':=by
        have l1:=ny hl q (List.mem_of_getElem? h1)
        have l2:=ny hl q' (List.mem_of_getElem? k1)
        have e1:=(uY l1).1 hsame
        have e2:=(uY l2).1 ho.1
        have lk:∀ {a b:cT},key.like a=true→key.like b=true→a.val=b.val→a.same b=true:=by
          intro a b ha hb e
          cases key<;>cases a<;>cases b<;>simp_all [cT.like,cT.same,cT.val]
        rcases Nat.lt_trichotomy i i' with c | c | c
        · have:=AN hn h1 k1 c
          rw [lk l1 l2 (e1.trans e2.symm)] at this;cases this
        · exact c
        · have:=AN hn k1 h1 c
          rw [lk l2 l1 (e2.trans e1.symm)] at this;cases this
      subst hij
      refine .plain run ?_
      have hvr:VR ρ w v e.val:=by rw [h3];exact hv i v k2
      cases cok
      · exact hvr
      · exact .tup _ #[_,_] (.cons _ _ _ _ hvr (.cons _ _ _ _ (.bool _ _) .nil))
    · exfalso
      have:∀ (l:List cT),ay (l.map fun q=>!key.same q)→∀ q∈l,key.same q=false:=by
        intro l
        induction l with
        | nil=>intro _ q hq;cases hq
        | cons a l ih =>
          intro h q hq
          simp only [List.map_cons,ay,Bool.not_eq_true'] at h
          rcases List.mem_cons.1 hq with rfl | hq
          · exact h.1
          · exact ih h.2 q hq
      have:=this ks ho q (List.mem_of_getElem? h1)
      rw [hsame] at this;cases this
inductive F3 where
  | sqrt | bits | frombits | add64 | sub64 | idxb | cntb
def acJ(s:ByteArray)(c:Int) :Int:=match (List.range s.size).find? fun i=>s[i]! == c.toNat.toUInt8 with
  | some i=>(i:Int)
  | none=>-1
def acK(s:ByteArray)(c:Int) :Int:=s.foldl (fun n x=>if x==c.toNat.toUInt8 then n+1 else n) (0:Int)
def xL:F3→Array Value→Sem Value
  | .sqrt=>Extern.MathSqrt.sqrt
  | .bits=>Extern.MathFloatBits.float64bits
  | .frombits=>Extern.MathFloatBits.float64frombits
  | .add64=>fun args=>do
    let (x, y, c) ← Extern.MathBitsCarry.three "Add64" args
    pure (Extern.MathBitsCarry.pair ((x+y+c)%Extern.MathBitsCarry.m64) ((x+y+c)/Extern.MathBitsCarry.m64))
  | .sub64=>fun args=>do
    let (x, y, b) ← Extern.MathBitsCarry.three "Sub64" args
    pure (Extern.MathBitsCarry.pair ((x+Extern.MathBitsCarry.m64-y-b)%Extern.MathBitsCarry.m64) (if x<y+b then 1 else 0))
  | .idxb=>Extern.BytealgIndexByte.indexByte
  | .cntb=>Extern.BytealgCount.count
def abK(k:F3)(args:List AV) :List rH :=
  match k,args with
  | .sqrt,[.flt _ x]=>[⟨.flt false (Z0 x),[],[]⟩]
  | .bits,[.flt true x]=>[⟨.int .u64 x,[],[]⟩]
  | .bits,[.flt false x]=>[⟨.int .u64 x,[],[!isNaN x]⟩,⟨.nan,[],[isNaN x]⟩]
  | .frombits,[.int .u64 n]=>[⟨.flt true n.toNat,[],[]⟩]
  | .add64,[.int _ x,.int _ y,.int _ c]=>[⟨.tup [.int .u64 (((x.toNat+y.toNat+c.toNat)%18446744073709551616:Nat):Int),.int .u64 (((x.toNat+y.toNat+c.toNat)/18446744073709551616:Nat):Int)],[],[mW c.toNat 1]⟩]
  | .sub64,[.int _ x,.int _ y,.int _ c]=>[⟨.tup [.int .u64 (((x.toNat+18446744073709551616-y.toNat-c.toNat)%18446744073709551616:Nat):Int),.int .u64 (bif Nat.blt x.toNat (y.toNat+c.toNat) then 1 else 0)],[],[mW c.toNat 1]⟩]
  | .idxb,[.str s,.int .u8 c]=>[⟨.int .i64 (acJ s c),[],[]⟩]
  | .cntb,[.str s,.int .u8 c]=>[⟨.int .i64 (acK s c),[],[]⟩]
  | _,_=>[]
abbrev dQ:=Option (List Nat)
structure aan where
  mask:List Bool
  keep:Bool
abbrev ev:=FuncId→List aB→List AV→dQ→Option (gd×List Bool×dQ)
structure uR where
  P:Program
  ext:FuncId→Option F3
  mode:FuncId→aan
  wrap:Bool
structure uR.Ok (C:uR):Prop where
  mixed:C.P.follows .mixedOrders=true
  enter:∀ (f:FuncId) (fn:Func) (args:Array Value) (w:World),C.P.funcs[f]? = some fn→fn.body.isSome=true→(callFunc f args).run C.P w=.ok (.enter f args) w
  ext:∀ (f:FuncId) (k:F3) (args:Array Value) (w:World),C.ext f=some k→(callFunc f args).run C.P w=(do pure (Next.value (←xL k args)):Sem Next).run C.P w
def HK(P:Program)(run:ev) :Prop :=
  ∀ f lent args p r obs p',run f lent args p=some (r,obs,p')→ay obs→∀ (ρ:ae) (w:World) (us:List Value),gV ρ w lent→cv ρ w args us →
    (∃ fn,P.funcs[f]? = some fn∧fn.body.isSome=true)∧Calls P f us.toArray w fun e w'=>∃ u,e=.returned u∧gO ρ.live w w'∧r.Holds ρ w w' lent.length u
structure Y2 where
  v:AV
  sets:List (Nat×Option aB)
  reads:List Nat
  obs:List Bool
  path:dQ
def Oy:List Bool→Bool
  | []=>true
  | b::l=>b&&Oy l
theorem DZ:∀ {l:List Bool},Oy l=true→ay l
  | [],_=>trivial
  | b::l,h=>by simp only [Oy,Bool.and_eq_true] at h;exact ⟨h.1,DZ h.2⟩
def vu(alts:List rH)(p:dQ) :Option (rH×dQ) :=
  match alts,p with
  | [a],p=>some (a,p)
  | alts,none=>(alts.find? fun a=>Oy a.obs).map fun a=>(a,none)
  | alts,some (k::r)=>(alts[k]?).map fun a=>(a,some r)
  | _,_=>none
theorem tw{alts:List rH}{p p':dQ}{a:rH}(h:vu alts p=some (a,p')) :a∈alts:=by
  unfold vu at h
  split at h
  · simp only [Option.some.injEq,Prod.mk.injEq] at h;rw [←h.1];simp
  · simp only [Option.map_eq_some_iff,Prod.mk.injEq] at h;obtain ⟨b,h1,rfl,_⟩:=h;exact List.mem_of_find?_eq_some h1
  · simp only [Option.map_eq_some_iff,Prod.mk.injEq] at h;obtain ⟨b,h1,rfl,_⟩:=h;exact List.mem_of_getElem? h1
  · cases h
def gP:Nat:=100000
mutual
def Oz:AV→List Nat
  | .ptr b ..=>[b]
  | .sl b ..=>[b]
  | .fn _ l1 l2=>hH l1++hH l2
  | .agg l | .tup l=>hH l
  | .iface _ v=>Oz v
  | _=>[]
def hH:List AV→List Nat
  | []=>[]
  | v::l=>Oz v++hH l
end
def abL:aB→List Nat
  | .vs l=>hH l
  | _=>[]
def qO:List Nat→Nat→Bool
  | [],_=>false
  | k::l,b=>bif Nat.beq k b then true else qO l b
def lA(g:Nat→Option aB) :Nat→List Nat→List Nat→List Nat
  | 0,_,acc=>acc
  | _+1,[],acc=>acc
  | n+1,b::t,acc=>match qO acc b with
    | true=>lA g n t acc
    | false=>lA g n ((match g b with | some d=>abL d | none=>[])++t) (acc++[b])
def nL:List Bool→List AV→List AV
  | true::m,v::l=>v::nL m l
  | false::m,_::l=>nL m l
  | _,_=>[]
def jq(σ:Nat→Option Nat)(g:Nat→Option aB) :List Bool→List AV→List AV×List Nat
  | _,[]=>([],[])
  | true::m,v::l=>let s:=jq σ g m l;(Hc σ v::s.1,s.2)
  | false::m,v::l=>let r:=DW σ g gP v;let s:=jq σ g m l;(r.1::s.1,r.2++s.2)
  | [],v::l=>let r:=DW σ g gP v;let s:=jq σ g [] l;(r.1::s.1,r.2++s.2)
theorem tx{ρ τ:ae}{w:World}{h:bC}{m:Nat}{σ:Nat→Option Nat}(hh:HR ρ w h m)(L:RI ρ τ w h σ) :∀ (k:List Bool) {l:List AV} {c:List Value},cv ρ w l c→cv τ w (jq σ (bf h) k l).1 c
  | k,[],c,hv=>by cases hv;cases k<;>exact .nil
  | true::k,v::l,c,hv=>by cases hv with | cons _ u _ c' h1 h2=>exact .cons _ _ _ _ (iN L h1) (tx hh L k h2)
  | false::k,v::l,c,hv=>by cases hv with | cons _ u _ c' h1 h2=>exact .cons _ _ _ _ (Ot hh L _ h1) (tx hh L k h2)
  | [],v::l,c,hv=>by cases hv with | cons _ u _ c' h1 h2=>exact .cons _ _ _ _ (Ot hh L _ h1) (tx hh L [] h2)
def vv:List Nat→Bool
  | []=>true
  | k::l=>bif qO l k then false else vv l
def nM(g:Nat→Option aB)(nid:Nat) :List Nat→Bool
  | []=>true
  | b::l=>(match g b with | some _=>Nat.blt b nid||Nat.ble (nid+qv) b | none=>false)&&nM g nid l
theorem AO:∀ {l:List Nat} {i b:Nat},l[i]? = some b→qO l b=true
  | [],i,b,h=>by simp at h
  | k::l,0,b,h=>by simp at h;subst h;simp [qO,nF]
  | k::l,i+1,b,h=>by
    simp only [qO]
    cases Nat.beq k b with
    | true=>rfl
    | false=>simp only [cond_false];exact AO (i:=i) (by simpa using h)
theorem vw:∀ {l:List Nat},vv l=true→∀ {i j b:Nat},l[i]? = some b→l[j]? = some b→i=j
  | [],_,i,j,b,h1,_=>by simp at h1
  | k::l,hn,i,j,b,h1,h2=>by
    simp only [vv] at hn
    cases e:qO l k with
    | true=>rw [e] at hn;cases hn
    | false =>
      rw [e] at hn;simp only [cond_false] at hn
      cases i with
      | zero =>
        cases j with
        | zero=>rfl
        | succ j=>simp at h1 h2;subst h1;rw [AO h2] at e;cases e
      | succ i =>
        cases j with
        | zero=>simp at h1 h2;subst h2;rw [AO h1] at e;cases e
        | succ j=>have:=vw hn (i:=i) (j:=j) (b:=b) (by simpa using h1) (by simpa using h2);omega
theorem ul{g:Nat→Option aB}{nid:Nat} :∀ {l:List Nat},nM g nid l=true→∀ b,b∈l→(∃ d,g b=some d)∧(b<nid∨nid+qv≤b)
  | [],_,b,hb=>by cases hb
  | k::l,h,b,hb=>by
    simp only [nM,Bool.and_eq_true] at h
    rcases List.mem_cons.1 hb with rfl | q
    · have:=h.1
      cases e:g b with
      | none=>rw [e] at this;cases this
      | some d =>
        rw [e] at this
        simp only [Bool.or_eq_true] at this
        refine ⟨⟨d,rfl⟩,this.imp (fun q=>by simpa [Nat.blt_eq] using q) (fun q=>Nat.le_of_ble_eq_true q)⟩
    · exact ul h.2 b q
def xM(e:Operand→AV)(f:Operand)(args:Array Operand) :Option (FuncId×List AV) :=
  match e f with
  | .fn (.func fid) first caps=>some (fid,first++args.toList.map e++caps)
  | _=>none
def HL(C:uR)(run:ev)(g:Nat→Option aB)(nid:Nat)(p:dQ)(fid:FuncId)(vals:List AV) :Option Y2 :=
  let bs:=lA g gP (hH (nL (C.mode fid).mask vals)) []
  let la:=jq (kY bs 0) g (C.mode fid).mask vals
  bif vv bs&&nM g nid bs then
    match run fid (qN (kY bs 0) g bs) la.1 p with
    | some (r,obs,p') =>
      bif Nat.ble r.own.length (bs.length+qv) then
        some { v:=lz (fc bs nid) r.v,sets:=jp (fc bs nid) 0 r.own,reads:=bs++la.2,obs,path:=p' }
      else none
    | none=>none
  else none
def VO(C:uR)(run:ev)(e:Operand→AV)(g:Nat→Option aB)(nid:Nat)(p:dQ)(op:Op) :Option Y2 :=
  match sx C.wrap C.P e op with
  | some (v,obs)=>some { v,sets:=[],reads:=[],obs,path:=p }
  | none =>
    match op with
    | .load t x=>(zP C.P g t (e x)).map fun r=>{ v:=r.1,sets:=[],reads:=r.2.2,obs:=r.2.1,path:=p }
    | .convert t d x=>(Y0 C.P g t d (e x)).map fun r=>{ v:=.str r.1,sets:=[],reads:=r.2.2,obs:=r.2.1,path:=p }
    | .slice t x lo hi none=>(DY C.P g t (e x) (lo.map e) (hi.map e)).map fun r=>{ v:=r.1,sets:=[],reads:=r.2.2,obs:=r.2.1,path:=p }
    | .store t x v=>(AG C.P g t (e x) (e v)).map fun r=>{ v:=.any,sets:=[(r.1,some r.2.1)],reads:=[r.1],obs:=r.2.2,path:=p }
    | .lookup t x k cok=>(vu (Ox C.P t (e x) (e k) cok) p).map fun r=>{ v:=r.1.v,sets:=[],reads:=[],obs:=r.1.obs,path:=r.2 }
    | .alloc t=>(Oe C.P nid t).map fun r=>{ v:=r.1,sets:=[(nid,some r.2)],reads:=[],obs:=[],path:=p }
    | .box t x=>(abG C.P nid t (e x)).map fun r=>{ v:=r.1,sets:=[(nid,some r.2)],reads:=[],obs:=[],path:=p }
    | .makeSlice t l c=>(aac C.P nid t (e l) (e c)).map fun r=>{ v:=r.1,sets:=[(nid,some r.2.1)],reads:=[],obs:=r.2.2,path:=p }
    | .build t parts=>(VG C.P t (parts.toList.map fun x=>(x.1,e x.2))).map fun v=>{ v,sets:=[],reads:=[],obs:=[],path:=p }
    | .buildSlice t len parts=>(xH C.P nid t len (parts.toList.map fun x=>(x.1,e x.2))).map fun r=>{ v:=r.1,sets:=[(nid,some r.2)],reads:=[],obs:=[],path:=p }
    | .call { callee:=.builtin .append,args,argTypes } =>
      match args.toList,argTypes.toList with
      | [s,x],[t,t']=>bif Nat.beq t t' then
          match zc C.P g nid t (e s) (e x) with
          | some (alts,rs)=>(vu alts p).map fun r=>{ v:=r.1.v,sets:=r.1.sets,reads:=rs,obs:=r.1.obs,path:=r.2 }
          | none=>none
        else match zd C.P g nid t t' (e s) (e x) with
          | some (alts,rs)=>(vu alts p).map fun r=>{ v:=r.1.v,sets:=r.1.sets,reads:=rs,obs:=r.1.obs,path:=r.2 }
          | none=>none
      | _,_=>none
    | .call { callee:=.builtin .copy,args,argTypes } =>
      match args.toList,argTypes.toList with
      | [s,x],[t,_]=>(M9 C.P g t (e s) (e x)).map fun r=>{ v:=.int .i64 (r.1:Int),sets:=[(r.2.1,some r.2.2.1)],reads:=r.2.2.2.2,obs:=r.2.2.2.1,path:=p }
      | _,_=>none
    | .call { callee:=.value f,args,.. } =>
      match xM e f args with
      | some (fid,l) =>
        match C.ext fid with
        | some k=>(vu (abK k l) p).map fun r=>{ v:=r.1.v,sets:=[],reads:=[],obs:=r.1.obs,path:=r.2 }
        | none=>HL C run g nid p fid l
      | none=>none
    | _=>none
def um(p:dQ)(r:Option (AV×List Bool)) :Option Y2:=match r with | some (v,obs)=>some { v,sets:=[],reads:=[],obs,path:=p } | none=>none
def acL(P:Program)(g:Nat→Option aB)(p:dQ)(t:TypeId)(v:AV) :Option Y2:=(zP P g t v).map fun r=>{ v:=r.1,sets:=[],reads:=r.2.2,obs:=r.2.1,path:=p }
def abM(P:Program)(g:Nat→Option aB)(p:dQ)(t:TypeId)(x v:AV) :Option Y2:=(AG P g t x v).map fun r=>{ v:=.any,sets:=[(r.1,some r.2.1)],reads:=[r.1],obs:=r.2.2,path:=p }
def abN(P:Program)(nid:Nat)(p:dQ)(t:TypeId) :Option Y2:=(Oe P nid t).map fun r=>{ v:=r.1,sets:=[(nid,some r.2)],reads:=[],obs:=[],path:=p }
def ade(P:Program)(nid:Nat)(p:dQ)(t:TypeId)(x:AV) :Option Y2:=(abG P nid t x).map fun r=>{ v:=r.1,sets:=[(nid,some r.2)],reads:=[],obs:=[],path:=p }
def adf(C:uR)(run:ev)(e:Operand→AV)(g:Nat→Option aB)(nid:Nat)(p:dQ)(f:Operand)(args:Array Operand) :Option Y2 :=
  match xM e f args with
  | some (fid,l) =>
    match C.ext fid with
    | some k=>(vu (abK k l) p).map fun r=>{ v:=r.1.v,sets:=[],reads:=[],obs:=r.1.obs,path:=r.2 }
    | none=>HL C run g nid p fid l
  | none=>none
def acM(C:uR)(run:ev)(e:Operand→AV)(g:Nat→Option aB)(nid:Nat)(p:dQ)(c:Call) :Option Y2 :=
  match c.callee with
  | .value f=>adf C run e g nid p f c.args
  | _=>VO C run e g nid p (.call c)
def opF(C:uR)(run:ev)(e:Operand→AV)(g:Nat→Option aB)(nid:Nat)(p:dQ)(op:Op) :Option Y2 :=
  match op with
  | .move x=>some { v:=e x,sets:=[],reads:=[],obs:=[],path:=p }
  | .assign x=>some { v:=e x,sets:=[],reads:=[],obs:=[],path:=p }
  | .binOp op t x y _=>um p (Z4 C.wrap C.P op t (e x) (e y))
  | .unOp op _ x=>um p (unA op (e x))
  | .load t x=>acL C.P g p t (e x)
  | .store t x v=>abM C.P g p t (e x) (e v)
  | .fieldAddr s x f=>um p (xi (vh C.P s (e x) f))
  | .field t x f=>um p (xi (N6 C.P t (e x) f))
  | .indexAddr t x ix=>um p (vi C.P t (e x) (e ix))
  | .alloc t=>abN C.P nid p t
  | .box t x=>ade C.P nid p t (e x)
  | .call c=>acM C run e g nid p c
  | op=>VO C run e g nid p op
theorem aao(C:uR)(run:ev)(e:Operand→AV)(g:Nat→Option aB)(nid:Nat)(p:dQ)(op:Op) :opF C run e g nid p op=VO C run e g nid p op:=by
  cases op with
  | binOp op t x y _=>simp only [opF,VO,sx,um]
  | unOp op t x=>simp only [opF,VO,sx,um]
  | fieldAddr s x f=>simp only [opF,VO,sx,um]
  | field s x f=>simp only [opF,VO,sx,um]
  | indexAddr s x f=>simp only [opF,VO,sx,um]
  | call c =>
    obtain ⟨callee,args,ats⟩:=c
    cases callee<;>rfl
  | _=>rfl
theorem RN{x:Nat}(h:isNaN x=true) :FloatKind.f64.format.sqrt x=none:=by
  obtain ⟨s,t,e⟩:=uU h
  simp [Ieee.Format.sqrt,e,Ieee.Datum.root]
theorem HM{ρ:ae}{w:World}{k1 k2 k3:IntKind}{x y z:Int}{c:Array Value}(hl:cv ρ w [.int k1 x,.int k2 y,.int k3 z] c.toList) :c = #[.int k1 x,.int k2 y,.int k3 z]:=by
  have h:c.toList=[.int k1 x,.int k2 y,.int k3 z]:=by
    generalize c.toList=l at hl
    cases hl with | cons _ u1 _ _ h1 t1 =>
    cases t1 with | cons _ u2 _ _ h2 t2 =>
    cases t2 with | cons _ u3 _ _ h3 t3 =>
    cases t3;cases h1;cases h2;cases h3;rfl
  rw [←c.toArray_toList,h]
theorem Nc{P:Program}{w:World}(name:String){k1 k2 k3:IntKind}{x y z:Int}(hz:z.toNat≤1) :(Extern.MathBitsCarry.three name #[.int k1 x,.int k2 y,.int k3 z]).run P w=.ok (x.toNat,y.toNat,z.toNat) w:=by
  have e:Extern.MathBitsCarry.three name #[.int k1 x,.int k2 y,.int k3 z]=(do
      if z.toNat > 1 then unsupported (.noEntry ("extern/math/bits." ++ name ++ ": a carry that is neither 0 nor 1"))
      pure (x.toNat,y.toNat,z.toNat):Sem (Nat×Nat×Nat)):=rfl
  rw [e,if_neg (by omega)]
  rfl
theorem VP{P:Program}{ρ:ae}{w:World}{k:F3}{l:List AV}{c:Array Value}{r:rH}(hl:cv ρ w l c.toList)(h:r∈abK k l)(ho:ay r.obs) :iz P ρ w (xL k c) r.v:=by
  have one:∀ {a:AV},cv ρ w [a] c.toList→∃ u,c = #[u]∧VR ρ w a u:=by
    intro a h
    generalize hc:c.toList=l at h
    cases h with | cons _ u _ _ h1 h2=>cases h2;exact ⟨u,by rw [←hc],h1⟩
  unfold abK at h
  split at h
  · simp only [List.mem_singleton] at h;subst h
    obtain ⟨u,rfl,hu⟩:=one hl
    cases hu with | flt _ _ y hf =>
    rename_i ex x
    have es:xL .sqrt #[.float .f64 y]=(match FloatKind.f64.format.sqrt y with
      | some r=>pure (.float .f64 r)
      | none=>do pure (.float .f64 (←choose (.nanBits .f64 y y)))):=rfl
    rw [es]
    have e:FloatKind.f64.format.sqrt y=FloatKind.f64.format.sqrt x:=by
      rcases hf with rfl | ⟨_,h2,h3⟩
      · rfl
      · rw [RN h2,RN h3]
    cases hr:FloatKind.f64.format.sqrt y with
    | some r=>exact ⟨.float .f64 r,w.drawn,rfl,.flt _ _ _ (.inl (by rw [e] at hr;simp [Z0,hr]))⟩
    | none=>exact ⟨_,w.drawn+1,rfl,.flt _ _ _ (.inr ⟨rfl,by rw [e] at hr;simp [Z0,hr,Hm],XY y y _⟩)⟩
  · simp only [List.mem_singleton] at h;subst h
    obtain ⟨u,rfl,hu⟩:=one hl
    cases hu with | flt _ _ y hf =>
    rcases hf with rfl | ⟨h1,_⟩
    · exact ⟨_,w.drawn,rfl,.int _ _⟩
    · cases h1
  · simp only [List.mem_cons,List.not_mem_nil,or_false] at h
    obtain ⟨u,rfl,hu⟩:=one hl
    cases hu with | flt _ _ y hf =>
    rcases h with rfl | rfl
    · rcases hf with rfl | ⟨_,h2,_⟩
      · exact ⟨_,w.drawn,rfl,.int _ _⟩
      · have:=ho.1;rw [h2] at this;cases this
    · have hy:isNaN y=true:=by
        rcases hf with rfl | ⟨_,_,h3⟩
        · exact ho.1
        · exact h3
      exact ⟨_,w.drawn,rfl,.nan _ hy⟩
  · simp only [List.mem_singleton] at h;subst h
    obtain ⟨u,rfl,hu⟩:=one hl
    cases hu
    exact ⟨_,w.drawn,rfl,.flt _ _ _ (.inl rfl)⟩
  · simp only [List.mem_singleton] at h;subst h
    have hz:=ho.1
    replace hz:=of_decide_eq_true hz
    cases HM hl
    refine ⟨_,w.drawn,?_,.tup _ #[_,_] (.cons _ _ _ _ (.int _ _) (.cons _ _ _ _ (.int _ _) .nil))⟩
    simp only [xL, Sem.run_bind, Nc "Add64" hz, Result.andThen_ok]
    rfl
  · simp only [List.mem_singleton] at h;subst h
    have hz:=ho.1
    replace hz:=of_decide_eq_true hz
    cases HM hl
    refine ⟨_,w.drawn,?_,.tup _ #[_,_] (.cons _ _ _ _ (.int _ _) (.cons _ _ _ _ (.int _ _) .nil))⟩
    simp only [xL, Sem.run_bind, Nc "Sub64" hz, Result.andThen_ok]
    rename_i x _ y _ z
    have e:(bif Nat.blt x.toNat (y.toNat+z.toNat) then (1:Int) else 0)=Int.ofNat (if x.toNat<y.toNat+z.toNat then 1 else 0):=by
      by_cases q:x.toNat<y.toNat+z.toNat
      · rw [if_pos q,show Nat.blt x.toNat (y.toNat+z.toNat)=true by rw [Nat.blt_eq];exact q];rfl
      · rw [if_neg q]
        have:Nat.blt x.toNat (y.toNat+z.toNat)=false:=by
          cases h:Nat.blt x.toNat (y.toNat+z.toNat) with
          | false=>rfl
          | true=>rw [Nat.blt_eq] at h;exact absurd h q
        rw [this];rfl
    rw [e]
    rfl
  · simp only [List.mem_singleton] at h;subst h
    rename_i s b
    obtain ⟨u,rfl⟩:∃ u,c=u:=⟨c,rfl⟩
    have hc:c = #[.string s,.int .u8 b]:=by
      have h:c.toList=[.string s,.int .u8 b]:=by
        generalize c.toList=l at hl
        cases hl with | cons _ u1 _ _ h1 t1 =>
        cases t1 with | cons _ u2 _ _ h2 t2 =>
        cases t2;cases h1;cases h2;rfl
      rw [←c.toArray_toList,h]
    subst hc
    refine ⟨.int .i64 (acJ s b),w.drawn,?_,.int _ _⟩
    have e:xL .idxb #[.string s,.int .u8 b]=(match (List.range s.size).find? fun i=>s[i]! == b.toNat.toUInt8 with
      | some i=>pure (goInt i)
      | none=>pure (goInt (-1))):=rfl
    rw [e]
    unfold acJ
    cases (List.range s.size).find? fun i=>s[i]! == b.toNat.toUInt8<;>rfl
  · simp only [List.mem_singleton] at h;subst h
    rename_i s b
    have hc:c = #[.string s,.int .u8 b]:=by
      have h:c.toList=[.string s,.int .u8 b]:=by
        generalize c.toList=l at hl
        cases hl with | cons _ u1 _ _ h1 t1 =>
        cases t1 with | cons _ u2 _ _ h2 t2 =>
        cases t2;cases h1;cases h2;rfl
      rw [←c.toArray_toList,h]
    subst hc
    refine ⟨.int .i64 (acK s b),w.drawn,?_,.int _ _⟩
    have e:xL .cntb #[.string s,.int .u8 b]=(do
      let b' ← Extern.Bytes.bytesOf (.string s)
      let c ← Extern.Bytes.asByte (.int .u8 b)
      pure (goInt (b'.foldl (fun n x=>if x==c then n+1 else n) (0:Nat)))):=rfl
    rw [e]
    simp [Extern.Bytes.bytesOf,Extern.Bytes.asByte,Sem.run_bind,Sem.run_pure,goInt,acK]
  · simp at h
theorem Y3{C:uR}(hC:C.Ok){run:ev}(hrun:HK C.P run){e:Operand→AV}{h:bC}{nid:Nat}{p:dQ}{o:Oper}{r:Y2}(hr:VO C run e (bf h) nid p o.op=some r)(ho:ay r.obs) 
    {ρ:ae} {w:World} {n:Nat} (hh:HR ρ w h n) (hid:∀ x,nid≤x→x<nid+qv→¬ ρ.ok x) (hn0:nid+qv≤n) {a:Act} (hops:∀ x,VR ρ w (e x) (a.eval x)) {next:Act→World→Prop} {Q:Exit→Act→World→Prop}
    (hK:∀ ρ' w' u,jZ ρ ρ' w→gO ρ.live w w'→HR ρ' w' (cu r.sets h) n→VR ρ' w' r.v u→(∀ b,ρ'.ok b→ρ.ok b∨(nid≤b∧b<nid+qv))→next (a.put o.dst u) w'):o.wp C.P a w next Q:=by
  have hS:0<qv:=by decide
  have hb : ¬ ρ.ok nid:=hid nid (Nat.le_refl _) (by omega)
  have hn:nid<n:=by omega
  have one:∀ {b:Nat},b=nid→nid≤b∧b<nid+qv:=fun e=>by omega
  have plain:∀ {v:AV},(∃ u k,(execOp a.eval o).run C.P w=.ok (.value u) { w with drawn:=k }∧VR ρ w v u)→r.v=v→r.sets=[]→o.wp C.P a w next Q:=by
    intro v ⟨u,k,h1,h2⟩ hv hs
    unfold Oper.wp
    rw [h1]
    have E:=jZ.refl ρ w
    have W:=gO.drawn ρ.live w k
    exact hK ρ _ u E W (by rw [hs];exact hh.drawn k) (by rw [hv];exact h2.mono E W) (fun b q=>.inl q)
  have made:∀ {s:Sem Value} {v:AV} {h':bC},(execOp a.eval o).run C.P w=(do pure (Next.value (←s)):Sem Next).run C.P w→xj C.P ρ w h n nid s v h'→r.v=v→cu r.sets h=h'→o.wp C.P a w next Q:=by
    intro s v h' he ⟨u,w',ρ',h1,h2,h3,h4,h5,h6⟩ hv hs
    unfold Oper.wp
    rw [he,cA h1]
    exact hK ρ' w' u h2 h3 (by rw [hs];exact h4) (by rw [hv];exact h5) (fun b q=>(h6 b q).imp id one)
  unfold VO at hr
  split at hr
  · rename_i v obs hp
    simp only [Option.some.injEq] at hr;subst hr
    exact plain (Oa hops hp ho) rfl rfl
  · rename_i hpo
    clear hpo
    generalize hop:o.op=op at hr
    split at hr
    · rename_i t x
      simp only [Option.map_eq_some_iff] at hr
      obtain ⟨⟨v,obs,rs⟩,hl,rfl⟩:=hr
      obtain ⟨u,k,h1,h2⟩:=Rv (P:=C.P) hh (hops x) hl ho
      exact plain ⟨u,k,by simp only [execOp,hop];exact cA h1,h2⟩ rfl rfl
    · rename_i t d x
      simp only [Option.map_eq_some_iff] at hr
      obtain ⟨⟨z,obs,rs⟩,hc,rfl⟩:=hr
      exact plain ⟨.string z,w.drawn,by simp only [execOp,hop];exact cA (VN hh (hops x) hc ho),.str _⟩ rfl rfl
    · rename_i t x lo hi
      simp only [Option.map_eq_some_iff] at hr
      obtain ⟨⟨v,obs,rs⟩,hc,rfl⟩:=hr
      obtain ⟨u,k,q1,q2⟩:=Ov (P:=C.P) hh hops (hops x) hc ho
      exact plain ⟨u,k,by simp only [execOp,hop];exact cA q1,q2⟩ rfl rfl
    · rename_i t x v
      simp only [Option.map_eq_some_iff] at hr
      obtain ⟨⟨b,d,obs⟩,hl,rfl⟩:=hr
      obtain ⟨w',h1,h2,h3⟩:=Ob (P:=C.P) hh (hops x) (hops v) hl ho
      unfold Oper.wp
      have:(execOp a.eval o).run C.P w=.ok .skip w':=by
        simp only [execOp,hop];rw [Sem.run_bind,h1];rfl
      rw [this]
      exact hK ρ w' undef (jZ.refl _ _) h3 h2 (.any _) (fun b q=>.inl q)
    · rename_i t x k cok
      simp only [Option.map_eq_some_iff] at hr
      obtain ⟨⟨a,_⟩,hl,rfl⟩:=hr
      obtain ⟨u,kk,q1,q2⟩:=Kq (P:=C.P) (hops x) (hops k) (tw hl) ho
      exact plain ⟨u,kk,by simp only [execOp,hop];exact cA q1,q2⟩ rfl rfl
    · rename_i t
      simp only [Option.map_eq_some_iff] at hr
      obtain ⟨⟨v,d⟩,hl,rfl⟩:=hr
      exact made (by simp only [execOp,hop]) (Of hh hb hn hl true) rfl rfl
    · rename_i t x
      simp only [Option.map_eq_some_iff] at hr
      obtain ⟨⟨v,d⟩,hl,rfl⟩:=hr
      exact made (by simp only [execOp,hop]) (VE hh hb hn (hops x) hl) rfl rfl
    · rename_i t l c
      simp only [Option.map_eq_some_iff] at hr
      obtain ⟨⟨v,d,obs⟩,hl,rfl⟩:=hr
      exact made (by simp only [execOp,hop]) (Rx hh hb hn (hops l) (hops c) hl ho) rfl rfl
    · rename_i t parts
      simp only [Option.map_eq_some_iff] at hr
      obtain ⟨v,hl,rfl⟩:=hr
      have h1:(parts.toList.map fun x=>(x.1,e x.2)).map Prod.fst=(parts.map fun (x:Nat×Operand)=>(x.1,a.eval x.2)).toList.map Prod.fst:=by simp
      have h2:cv ρ w ((parts.toList.map fun x=>(x.1,e x.2)).map Prod.snd) ((parts.map fun (x:Nat×Operand)=>(x.1,a.eval x.2)).toList.map Prod.snd):=by
        have:=cv.map hops (parts.toList.map Prod.snd)
        simpa [Function.comp_def] using this
      obtain ⟨u,k,q1,q2⟩:=Ol (P:=C.P) h1 h2 hl
      exact plain ⟨u,k,by simp only [execOp,hop];exact cA q1,q2⟩ rfl rfl
    · rename_i t len parts
      simp only [Option.map_eq_some_iff] at hr
      obtain ⟨⟨v,d⟩,hl,rfl⟩:=hr
      have h1:(parts.toList.map fun x=>(x.1,e x.2)).map Prod.fst=(parts.map fun (x:Nat×Operand)=>(x.1,a.eval x.2)).toList.map Prod.fst:=by simp
      have h2:cv ρ w ((parts.toList.map fun x=>(x.1,e x.2)).map Prod.snd) ((parts.map fun (x:Nat×Operand)=>(x.1,a.eval x.2)).toList.map Prod.snd):=by
        have:=cv.map hops (parts.toList.map Prod.snd)
        simpa [Function.comp_def] using this
      exact made (by simp only [execOp,hop]) (BY hh hb hn h1 h2 hl) rfl rfl
    · rename_i args argTypes
      split at hr
      case h_2=>cases hr
      rename_i s x t t' e1 e2
      cases ht:Nat.beq t t' with
      | false =>
        rw [ht] at hr
        simp only [cond_false] at hr
        split at hr
        case h_2=>cases hr
        rename_i alts rs ha
        simp only [Option.map_eq_some_iff] at hr
        obtain ⟨⟨alt,p'⟩,hp,rfl⟩:=hr
        have ea:args = #[s,x]:=by rw [←e1]
        have et:argTypes = #[t,t']:=by rw [←e2]
        subst ea;subst et
        have hm:=Ko hh hb hn (hops s) (hops x) ha (tw hp) ho o.type
        refine made (s:=Builtin.append_ #[t,t'] o.type #[a.eval s,a.eval x]) ?_ hm rfl rfl
        simp only [execOp,hop]
        rw [gT a.eval .append #[s,x] #[t,t'] o.type _ rfl]
        simp [invoke,builtin]
      | true =>
      rw [ht] at hr
      have:=Nat.eq_of_beq_eq_true ht
      subst this
      simp only [cond_true] at hr
      split at hr
      case h_2=>cases hr
      rename_i alts rs ha
      simp only [Option.map_eq_some_iff] at hr
      obtain ⟨⟨alt,p'⟩,hp,rfl⟩:=hr
      have ea:args = #[s,x]:=by rw [←e1]
      have et:argTypes = #[t,t]:=by rw [←e2]
      subst ea;subst et
      have hm:=Kn hh hb hn (hops s) (hops x) ha (tw hp) ho o.type
      refine made (s:=Builtin.append_ #[t,t] o.type #[a.eval s,a.eval x]) ?_ hm rfl rfl
      simp only [execOp,hop]
      rw [gT a.eval .append #[s,x] #[t,t] o.type _ rfl]
      simp [invoke,builtin]
    · rename_i args argTypes
      split at hr
      case h_2=>cases hr
      rename_i s x t t' e1 e2
      simp only [Option.map_eq_some_iff] at hr
      obtain ⟨⟨k,b,d,obs,rs⟩,hc,rfl⟩:=hr
      have ea:args = #[s,x]:=by rw [←e1]
      have et:argTypes = #[t,t']:=by rw [←e2]
      subst ea;subst et
      obtain ⟨w',h1,h2,h3⟩:=RL (P:=C.P) (T:=o.type) (t':=t') hh (hops s) (hops x) hc ho
      refine made (s:=Builtin.copy_ #[t,t'] o.type #[a.eval s,a.eval x]) ?_ ⟨_,w',ρ,h1,jZ.refl _ _,h3,h2,.int _ _,fun b q=>.inl q⟩ rfl rfl
      simp only [execOp,hop]
      rw [gT a.eval .copy #[s,x] #[t,t'] o.type _ rfl]
      simp [invoke,builtin]
    · rename_i f args ats
      split at hr
      case h_2=>cases hr
      rename_i fid l hca
      unfold xM at hca
      split at hca
      case h_2=>cases hca
      rename_i fid' first caps hef
      simp only [Option.some.injEq,Prod.mk.injEq] at hca
      obtain ⟨rfl,rfl⟩:=hca
      have hf:=hops f
      rw [hef] at hf
      generalize hgf:a.eval f=gf at hf
      cases hf with | fn _ _ _ c1 c2 v1 v2 =>
      have hargs:cv ρ w (first++args.toList.map e++caps) (c1++args.map a.eval++c2).toList:=by
        simp only [Array.toList_append,Array.toList_map]
        exact cv.append v2 (cv.append (cv.map hops args.toList) v1)
      have hex:∀ w0,(execOp a.eval o).run C.P w0=(callFunc fid' (c1++args.map a.eval++c2)).run C.P w0:=by
        intro w0
        simp only [execOp,hop,resolve,hgf,Deferred.ofValue]
        rfl
      split at hr
      · rename_i k hk
        simp only [Option.map_eq_some_iff] at hr
        obtain ⟨⟨a,_⟩,hl,rfl⟩:=hr
        obtain ⟨u,kk,q1,q2⟩:=VP (P:=C.P) hargs (tw hl) ho
        refine plain ⟨u,kk,?_,q2⟩ rfl rfl
        rw [hex,hC.ext fid' k _ w hk]
        exact cA q1
      · unfold HL at hr
        simp only at hr
        generalize hbs:lA (bf h) gP (hH (nL (C.mode fid').mask (first++args.toList.map e++caps))) []=bs at hr
        cases hlen:(vv bs&&nM (bf h) nid bs) with
        | false=>rw [hlen] at hr;cases hr
        | true =>
        rw [hlen] at hr
        simp only [cond_true] at hr
        rw [Bool.and_eq_true] at hlen
        split at hr
        case h_2=>cases hr
        rename_i r' obs p' hl
        cases hle:Nat.ble r'.own.length (bs.length+qv) with
        | false=>rw [hle] at hr;cases hr
        | true =>
        rw [hle] at hr
        simp only [cond_true,Option.some.injEq] at hr;subst hr
        have hLs:RJ h bs:=⟨fun q1 q2=>vw hlen.1 q1 q2,fun b q=>(ul hlen.2 b q).1⟩
        have L:=X9 hh hLs
        have hcall:=hrun fid' _ _ p r' obs p' hl ho
        obtain ⟨⟨fn,hfn,hbody⟩,hcalls⟩:=hcall (ρ.lend bs) w _ (VM hh hLs) (tx hh L _ hargs)
        unfold Oper.wp
        rw [hex,hC.enter fid' fn _ w hfn hbody]
        simp only [Oper.upon]
        have hl2:(c1++args.map a.eval++c2).toList.toArray=c1++args.map a.eval++c2:=by simp
        rw [hl2] at hcalls
        refine hcalls.mono ?_
        rintro e' w' ⟨u,rfl,W,ρ',E,hbk,H,hv⟩
        rw [pO] at hbk
        obtain ⟨q1,q2,q3,q4,q5⟩:=aai hh hLs hid (fun b q=>(ul hlen.2 b q).2) hn0 (Nat.le_of_ble_eq_true hle) W E hbk H hv
        exact hK _ w' u q1 q2 q3 q4 q5
    · cases hr
def FW(ro:Option Nat) :Fence:={ Fence.wide with round:=ro }
theorem adg(ro:Option Nat)(f:FuncId) :(FW ro).fn f:=trivial
theorem Hd{ro:Option Nat}{n:Nat} :(FW ro).depth.isSome=true→1≤n:=fun h=>by simp [FW,Fence.wide] at h
theorem VQ{ro:Option Nat}{n:Nat}{P:Program}{f:FuncId}{args:Array Value}{w:World}{R:Ending→World→Prop}(h:Calls P f args w R) :CallsIn (FW ro) n P f args w R :=
  callsIn_wide.2 h
theorem OA{P:Program}{o:Oper}{a:Act}{w:World}{next:Act→World→Prop}{Q:Exit→Act→World→Prop}{ro:Option Nat}{n:Nat}(hd:∀ c,o.op ≠ .defer c)(h:o.wp P a w next Q) :o.wpIn (FW ro) n P a w next Q:=by
  refine ⟨fun _ _=>trivial,?_⟩
  have e:(FW ro).round=ro:=rfl
  rw [e,Oper.semAt_eq ro a.eval o hd]
  unfold Oper.wp at h
  generalize (execOp a.eval o).run P w=r at h ⊢
  cases r with
  | ok x w' =>
    cases x with
    | value v=>exact h
    | skip=>exact h
    | defer d=>exact h
    | enter f args=>exact ⟨Hd,VQ h⟩
    | row row args =>
      refine ⟨Hd,fun c cs _=>?_⟩
      obtain ⟨v,w2,h1,h2⟩:=h c cs
      exact ⟨v,w2,h1,stepsIn_wide.2 h2⟩
    | _=>exact h.elim
  | halt x w'=>cases x<;>exact h
structure sB (w w':World):Prop where
  os:w'.os=w.os
  tape:w'.tape=w.tape
  output:w'.output=w.output
  size:w'.heap.size=w.heap.size
  same:∀ b:Nat,w'.heap[b]? = w.heap[b]?∨((∃ o,w.heap[b]? = some o∧((∃ r,o=Obj.loop r)∨∃ r,o=Obj.deferred r))∧∃ o,w'.heap[b]? = some o∧((∃ r,o=Obj.loop r)∨∃ r,o=Obj.deferred r))
theorem sB.cells{w w':World}(h:sB w w'){b:Nat}{c:Array Value}{t:TypeId}{z:Nat×Nat}(hb:w.heap[b]? = some (.cells c t z)) :w'.heap[b]? = some (.cells c t z):=by
  rcases h.same b with q | ⟨⟨o,h1,h2⟩,_⟩
  · rw [q];exact hb
  · rw [hb] at h1;cases h1
    rcases h2 with ⟨r,h2⟩ | ⟨r,h2⟩<;>cases h2
theorem sB.map{w w':World}(h:sB w w'){b:Nat}{es:Array MapEntry}{cl:Nat}(hb:w.heap[b]? = some (.map es cl)) :w'.heap[b]? = some (.map es cl):=by
  rcases h.same b with q | ⟨⟨o,h1,h2⟩,_⟩
  · rw [q];exact hb
  · rw [hb] at h1;cases h1
    rcases h2 with ⟨r,h2⟩ | ⟨r,h2⟩<;>cases h2
theorem sB.cell{w w':World}(h:sB w w'){a:Addr}{u:Value}(hu:w.cell? a=some u) :w'.cell? a=some u:=by
  have key:w'.heap[a.block]? = w.heap[a.block]?:=by
    rcases h.same a.block with q | ⟨⟨o,h1,h2⟩,_⟩
    · exact q
    · exfalso
      unfold World.cell? at hu
      rw [h1] at hu
      rcases h2 with ⟨r,rfl⟩ | ⟨r,rfl⟩<;>simp at hu
  rw [uh key];exact hu
theorem sB.put{w:World}{b:Nat}{o o':Obj}(h:w.heap[b]? = some o)(ho:(∃ r,o=Obj.loop r)∨∃ r,o=Obj.deferred r)(ho':(∃ r,o'=Obj.loop r)∨∃ r,o'=Obj.deferred r) :sB w (w.putObj b o'):=by
  refine ⟨rfl,rfl,rfl,by simp,fun c=>?_⟩
  by_cases e:c=b
  · subst e
    exact .inr ⟨⟨o,h,ho⟩,o',World.putObj_heap_same (Array.getElem?_eq_some_iff.1 h).1,ho'⟩
  · exact .inl (World.putObj_heap_other e)
theorem sB.wle{M:Nat→Prop}{w w':World}(h:sB w w')(hM:∀ b,b<w.heap.size→¬ M b→w'.heap[b]? = w.heap[b]?) :gO M w w' :=
  ⟨h.os,h.tape,h.output,Nat.le_of_eq h.size.symm,hM,fun b c t z hc=>⟨c,h.cells hc,rfl⟩⟩
theorem VR.soft{ρ:ae}{w w':World}(W:sB w w'){v:AV}{u:Value}(h:VR ρ w v u) :VR ρ w' v u:=by
  induction h using VR.rec (motive_2:=fun l c _=>cv ρ w' l c) with
  | int k n=>exact .int k n
  | bool kn b=>exact .bool kn b
  | flt ex x y h=>exact .flt ex x y h
  | str s=>exact .str s
  | nptr=>exact .nptr
  | ptr b k i j hb=>exact .ptr b k i j hb
  | iptr bw d k i j bl o u ha hb hc hv hr hk hg ih=>exact .iptr bw d k i j bl o u ha (by rw [W.size];exact hb) (fun x v hx=>W.cell (hc x v hx)) ih hr hk hg
  | nsl=>exact .nsl
  | esl a=>exact .esl a
  | zsl a c=>exact .zsl a c
  | nan n h=>exact .nan n h
  | sl b k es i len cap cap' hb hcap hl c t hh hs=>exact .sl b k es i len cap cap' hb hcap hl c t (W.cells hh) hs
  | slEnd b k es i a=>exact .slEnd b k es i a
  | imm bw d k es i len cap bl o u ha hb hc hv hl hr hk hg ih=>exact .imm bw d k es i len cap bl o u ha (by rw [W.size];exact hb) (fun x v hx=>W.cell (hc x v hx)) ih hl hr hk hg
  | immEnd bw d k es i cap a hr hk hg=>exact .immEnd bw d k es i cap a hr hk hg
  | fn f l1 l2 c1 c2 h1 h2 i1 i2=>exact .fn f l1 l2 c1 c2 i1 i2
  | nfn=>exact .nfn
  | gmap ks vs bl es cl u ha hb hh hin hex hv hl hk ih=>exact .gmap ks vs bl es cl u ha (by rw [W.size];exact hb) (W.map hh) hin hex ih hl hk
  | gvar c bl t fr ha hb hh=>exact .gvar c bl t fr ha (by rw [W.size];exact hb) (W.cells hh)
  | agg l c h ih=>exact .agg l c ih
  | tup l c h ih=>exact .tup l c ih
  | iface t v u h ih=>exact .iface t v u ih
  | niface=>exact .niface
  | yld b L h=>exact .yld b L h
  | any u=>exact .any u
  | nil=>exact cv.nil
  | cons v u l c h t i1 i2=>exact cv.cons v u l c i1 i2
theorem cv.soft{ρ:ae}{w w':World}(W:sB w w') :∀ {l:List AV} {c:List Value},cv ρ w l c→cv ρ w' l c
  | _,_,.nil=>.nil
  | _,_,.cons v u l c h t=>.cons v u l c (h.soft W) (cv.soft W t)
theorem HR.soft{ρ:ae}{w w':World}{h:bC}{n:Nat}(W:sB w w')(hh:HR ρ w h n) :HR ρ w' h n :=
  ⟨fun b d e=>(hh.cell b d e).imp (fun ⟨q1,q2,q3,c,t,q4,q5⟩=>⟨q1,q2,q3,c,t,W.cells q4,fun x v hx=>by obtain ⟨u,k1,k2⟩:=q5 x v hx;exact ⟨u,k1,k2.soft W⟩⟩) id,hh.inj,hh.fresh,
   fun bl hl=>by rw [W.size];exact hh.liveLt bl hl,fun j bl hl=>by rw [W.size];exact hh.outLt j bl hl,hh.lt,fun x hx=>(hh.rom x hx).soft W⟩
mutual
def AV.noYld:AV→Bool
  | .yld _=>false
  | .fn _ l1 l2=>nN l1&&nN l2
  | .agg l | .tup l=>nN l
  | .iface _ v=>v.noYld
  | _=>true
def nN:List AV→Bool
  | []=>true
  | v::l=>v.noYld&&nN l
end
mutual
theorem dt:∀ (v:AV),v.foreign=true→v.noYld=true
  | .fn _ l1 l2,h=>by simp only [AV.foreign,AV.noYld,Bool.and_eq_true] at h ⊢;exact ⟨kg l1 h.1,kg l2 h.2⟩
  | .agg l,h=>by simp only [AV.foreign,AV.noYld] at h ⊢;exact kg l h
  | .tup l,h=>by simp only [AV.foreign,AV.noYld] at h ⊢;exact kg l h
  | .iface _ v,h=>by simp only [AV.foreign,AV.noYld] at h ⊢;exact dt v h
  | .yld _,h=>by simp [AV.foreign] at h
  | .int ..,_ | .bool ..,_ | .flt ..,_ | .str _,_ | .nptr,_ | .ptr ..,_ | .iptr ..,_ | .nsl,_ | .esl,_ | .zsl _,_ | .nan,_ | .sl ..,_ | .imm ..,_ | .nfn,_ | .gmap ..,_ | .gvar _,_ | .niface,_ | .any,_=>rfl
theorem kg:∀ (l:List AV),bB l=true→nN l=true
  | [],_=>rfl
  | v::l,h=>by simp only [bB,nN,Bool.and_eq_true] at h ⊢;exact ⟨dt v h.1,kg l h.2⟩
end
theorem HN:∀ {l:List AV},nN l=true→∀ (x:Nat) (v:AV),l[x]? = some v→v.noYld=true
  | [],_,x,v,h=>by simp at h
  | a::l,ha,0,v,h=>by simp at h;subst h;simp only [nN,Bool.and_eq_true] at ha;exact ha.1
  | a::l,ha,x+1,v,h=>by simp only [nN,Bool.and_eq_true] at ha;exact HN ha.2 x v (by simpa using h)
def ae.pinned(ρ:ae)(x:Nat×Option (Nat×Nat)) :ae:={ ρ with pin:=x }
theorem VR.pinned{ρ:ae}{w:World}(x:Nat×Option (Nat×Nat)){v:AV}{u:Value}(h:VR ρ w v u) :v.noYld=true→VR (ρ.pinned x) w v u:=by
  induction h using VR.rec (motive_2:=fun l c _=>nN l=true→cv (ρ.pinned x) w l c) with
  | int k n=>exact fun _=>.int k n
  | bool kn b=>exact fun _=>.bool kn b
  | flt ex x y h=>exact fun _=>.flt ex x y h
  | str s=>exact fun _=>.str s
  | nptr=>exact fun _=>.nptr
  | ptr b k i j hb=>exact fun _=>VR.ptr (ρ:=ρ.pinned x) b k i j hb
  | iptr bw d k i j bl o u ha hb hc hv hr hk hg ih=>exact fun _=>.iptr bw d k i j bl o u ha hb hc (fun x v hx=>ih x v hx (dt v (aV hr hg x v hx))) hr hk hg
  | nsl=>exact fun _=>.nsl
  | esl a=>exact fun _=>.esl a
  | zsl a c=>exact fun _=>.zsl a c
  | nan n h=>exact fun _=>.nan n h
  | sl b k es i len cap cap' hb hcap hl c t hh hs=>exact fun _=>VR.sl (ρ:=ρ.pinned x) b k es i len cap cap' hb hcap hl c t hh hs
  | slEnd b k es i a=>exact fun _=>.slEnd b k es i a
  | imm bw d k es i len cap bl o u ha hb hc hv hl hr hk hg ih=>exact fun _=>.imm bw d k es i len cap bl o u ha hb hc (fun x v hx=>ih x v hx (dt v (aV hr hg x v hx))) hl hr hk hg
  | immEnd bw d k es i cap a hr hk hg=>exact fun _=>.immEnd bw d k es i cap a hr hk hg
  | fn f l1 l2 c1 c2 h1 h2 i1 i2=>intro hk;simp only [AV.noYld,Bool.and_eq_true] at hk;exact .fn f l1 l2 c1 c2 (i1 hk.1) (i2 hk.2)
  | nfn=>exact fun _=>.nfn
  | gmap ks vs bl es cl u ha hb hh hin hex hv hl hk ih=>exact fun _=>.gmap ks vs bl es cl u ha hb hh hin hex (fun x v hx=>ih x v hx (dt v (gh (nw hk x v hx)))) hl hk
  | gvar c bl t fr ha hb hh=>exact fun _=>.gvar c bl t fr ha hb hh
  | agg l c h ih=>intro hk;exact .agg l c (ih hk)
  | tup l c h ih=>intro hk;exact .tup l c (ih hk)
  | iface t v u h ih=>intro hk;exact .iface t v u (ih hk)
  | niface=>exact fun _=>.niface
  | yld b L h=>intro hk;simp [AV.noYld] at hk
  | any u=>exact fun _=>.any u
  | nil=>exact cv.nil
  | cons v u l c h t i1 i2=>rename_i hk;simp only [nN,Bool.and_eq_true] at hk;exact cv.cons v u l c (i1 hk.1) (i2 hk.2)
theorem cv.pinned{ρ:ae}{w:World}(x:Nat×Option (Nat×Nat)) :∀ {l:List AV} {c:List Value},cv ρ w l c→nN l=true→cv (ρ.pinned x) w l c
  | _,_,.nil,_=>.nil
  | _,_,.cons v u l c h t,hk=>by simp only [nN,Bool.and_eq_true] at hk;exact .cons v u l c (h.pinned x hk.1) (cv.pinned x t hk.2)
def VS:aB→Bool
  | .vs l=>nN l
  | _=>true
def D0:bC→Bool
  | []=>true
  | x::l=>VS x.2&&D0 l
theorem HO:∀ {h:bC} {b:Nat} {d:aB},D0 h=true→bf h b=some d→VS d=true
  | [],b,d,_,h=>by simp [eB,dv] at h
  | (a1,a2)::l,b,d,hc,h=>by
    simp only [D0,Bool.and_eq_true] at hc
    simp only [eB,dv] at h
    cases e:Nat.beq a1 b with
    | true=>rw [e] at h;simp only [cond_true,Option.some.injEq] at h;rw [←h];exact hc.1
    | false=>rw [e] at h;exact HO hc.2 h
theorem Kr{d:aB}(hr:d.recKept)(hk:VS d=true)(x:Nat)(v:AV)(hx:d.cell? x=some v) :v.noYld=true:=by
  cases d with
  | vs l=>exact HN hk x v hx
  | fl xs=>exact dt v (aV (d:=.fl xs) hr rfl x v hx)
  | ns k xs=>exact dt v (aV (d:=.ns k xs) hr rfl x v hx)
  | bs xs=>exact dt v (aV (d:=.bs xs) hr rfl x v hx)
  | ss xs=>exact dt v (aV (d:=.ss xs) hr rfl x v hx)
  | rows k m get=>exact dt v (aV (d:=.rows k m get) hr rfl x v hx)
  | cols m cs=>exact dt v (aV (d:=.cols m cs) hr rfl x v hx)
theorem HR.pinned{ρ:ae}{w:World}{h:bC}{n:Nat}(x:Nat×Option (Nat×Nat))(hh:HR ρ w h n)(hc:D0 h=true) :HR (ρ.pinned x) w h n :=
  ⟨fun b d e=>(hh.cell b d e).imp (fun ⟨q1,q2,q3,c,t,q4,q5⟩=>⟨q1,q2,q3,c,t,q4,fun y v hx=>by
      obtain ⟨u,k1,k2⟩:=q5 y v hx
      exact ⟨u,k1,k2.pinned x (Kr q3 (HO hc e) y v hx)⟩⟩) id,hh.inj,hh.fresh,hh.liveLt,hh.outLt,hh.lt,
   fun y hy=>(hh.rom y hy).pinned x (dt _ (gh (Rom.kept y hy)))⟩
theorem VR.noPin{ρ:ae}{w:World}(hp:ρ.pin.2=none)(x:Nat×Option (Nat×Nat)){v:AV}{u:Value}(h:VR ρ w v u) :VR (ρ.pinned x) w v u:=by
  induction h using VR.rec (motive_2:=fun l c _=>cv (ρ.pinned x) w l c) with
  | int k n=>exact .int k n
  | bool kn b=>exact .bool kn b
  | flt ex x y h=>exact .flt ex x y h
  | str s=>exact .str s
  | nptr=>exact .nptr
  | ptr b k i j hb=>exact VR.ptr (ρ:=ρ.pinned x) b k i j hb
  | iptr bw d k i j bl o u ha hb hc hv hr hk hg ih=>exact .iptr bw d k i j bl o u ha hb hc ih hr hk hg
  | nsl=>exact .nsl
  | esl a=>exact .esl a
  | zsl a c=>exact .zsl a c
  | nan n h=>exact .nan n h
  | sl b k es i len cap cap' hb hcap hl c t hh hs=>exact VR.sl (ρ:=ρ.pinned x) b k es i len cap cap' hb hcap hl c t hh hs
  | slEnd b k es i a=>exact .slEnd b k es i a
  | imm bw d k es i len cap bl o u ha hb hc hv hl hr hk hg ih=>exact .imm bw d k es i len cap bl o u ha hb hc ih hl hr hk hg
  | immEnd bw d k es i cap a hr hk hg=>exact .immEnd bw d k es i cap a hr hk hg
  | fn f l1 l2 c1 c2 h1 h2 i1 i2=>exact .fn f l1 l2 c1 c2 i1 i2
  | nfn=>exact .nfn
  | gmap ks vs bl es cl u ha hb hh hin hex hv hl hk ih=>exact .gmap ks vs bl es cl u ha hb hh hin hex ih hl hk
  | gvar c bl t fr ha hb hh=>exact .gvar c bl t fr ha hb hh
  | agg l c h ih=>exact .agg l c ih
  | tup l c h ih=>exact .tup l c ih
  | iface t v u h ih=>exact .iface t v u ih
  | niface=>exact .niface
  | yld b L h=>rw [hp] at h;cases h
  | any u=>exact .any u
  | nil=>exact cv.nil
  | cons v u l c h t i1 i2=>exact cv.cons v u l c i1 i2
theorem cv.noPin{ρ:ae}{w:World}(hp:ρ.pin.2=none)(x:Nat×Option (Nat×Nat)) :∀ {l:List AV} {c:List Value},cv ρ w l c→cv (ρ.pinned x) w l c
  | _,_,.nil=>.nil
  | _,_,.cons v u l c h t=>.cons v u l c (h.noPin hp x) (cv.noPin hp x t)
theorem HR.noPin{ρ:ae}{w:World}{h:bC}{n:Nat}(hp:ρ.pin.2=none)(x:Nat×Option (Nat×Nat))(hh:HR ρ w h n) :HR (ρ.pinned x) w h n :=
  ⟨fun b d e=>(hh.cell b d e).imp (fun ⟨q1,q2,q3,c,t,q4,q5⟩=>⟨q1,q2,q3,c,t,q4,fun y v hx=>by obtain ⟨u,k1,k2⟩:=q5 y v hx;exact ⟨u,k1,k2.noPin hp x⟩⟩) id,hh.inj,hh.fresh,hh.liveLt,hh.outLt,hh.lt,
   fun y hy=>(hh.rom y hy).noPin hp x⟩
theorem jn.shut{ρ:ae}{w:World} :∀ {ds:List Deferred},jn ρ w ds→∀ {D:Nat},(∀ e∈ds,e ≠ { target:=.collected D,args:=#[] })→∀ {o:Obj},jn ρ (w.putObj D o) ds
  | [],h,D,_,o=>by simpa [jn] using h
  | d::ds,⟨⟨E,h1,hb,h2,h3,h4,h5⟩,h⟩,D,hn,o=>by
    have hne:E≠D:=fun e=>hn d (by simp) (by rw [h1,e])
    exact ⟨⟨E,h1,hb,by simpa using h2,h3,(World.putObj_heap_other hne).trans h4,h5⟩,jn.shut h fun e he=>hn e (by simp [he])⟩
theorem xN{P:Program}{fn:Func}{tmps:Array Value}{R:Ending→World→Prop}{ro:Option Nat}{n:Nat}{ρ:ae} :∀ (ds:List Deferred) {w:World},jn ρ w ds →
    (∀ w',sB w w'→(∀ b,b<ρ.pin.1→w'.heap[b]? = w.heap[b]?)→(∀ b,ρ.live b→w'.heap[b]? = w.heap[b]?)→∃ v,(results fn tmps).run P w'=.ok v w'∧R (.returned v) w')→LeavesInM (FW ro) n P fn tmps R ds .returning w
  | [],w,hm,h=>by
    obtain ⟨v,h1,h2⟩:=h w ⟨rfl,rfl,rfl,rfl,fun _=>.inl rfl⟩ (fun _ _=>rfl) (fun _ _=>rfl)
    exact ⟨v,h1,h2⟩
  | d::ds,w,⟨⟨D,h1,hb,h2,h3,h4,h5⟩,hm⟩,h=>by
    have S:=sB.put h4 (.inr ⟨_,rfl⟩) (o':=.deferred none) (.inr ⟨_,rfl⟩)
    refine ⟨by simp,.inl ⟨D,w.putObj D (.deferred none),by rw [h1],run_takeDeferred h4,xN ds (hm.shut h5) fun w' S' hb' hl'=>h w' ?_ (fun b q=>?_) (fun b q=>?_)⟩⟩
    · refine ⟨S'.os,S'.tape,S'.output,S'.size.trans S.size,fun b=>?_⟩
      rcases S'.same b with q | ⟨⟨o,q1,q2⟩,q3⟩
      · rcases S.same b with r | ⟨r1,r2⟩
        · exact .inl (q.trans r)
        · rw [←q] at r2;exact .inr ⟨r1,r2⟩
      · rcases S.same b with r | ⟨r1,r2⟩
        · rw [r] at q1;exact .inr ⟨⟨o,q1,q2⟩,q3⟩
        · exact .inr ⟨r1,q3⟩
    · rw [hb' b q];exact World.putObj_heap_other (by omega)
    · rw [hl' b q];exact World.putObj_heap_other (fun e=>h3 (e ▸ q))
structure pP where
  v:AV
  sets:List (Nat×Option aB)
  reads:List Nat
def zf(ops:Array Oper)(j:Nat) :Option Nat:=(ops[j]?).bind (·.dst)
def vx(ops:Array Oper)(o:Oper)(T:List AV) :Option Bool :=
  match o.guard with
  | none=>some true
  | some (j,want) =>
    match zf ops j with
    | none=>some false
    | some d =>
      match abF T d with
      | some (.bool true b)=>some (b==want)
      | some (.tup _) | none=>some false
      | _=>none
def OB(ops:Array Oper)(i:Nat) :Bool:=ops.toList.any fun o=>match o.guard with | some (j,_)=>Nat.beq j i | none=>false
def He(v:AV)(p:dQ) :Option (Bool×List Bool×dQ) :=
  match v,p with
  | .bool true b,p=>some (b,[],p)
  | .bool false b,none=>some (b,[],none)
  | .bool false b,some (k::r)=>some (Nat.beq k 1,[b==Nat.beq k 1],some r)
  | _,_=>none
theorem AP{ρ:ae}{w:World}{v:AV}{u:Value}{p p':dQ}{b:Bool}{obs:List Bool}(hv:VR ρ w v u)(h:He v p=some (b,obs,p'))(ho:ay obs) :u=.bool b:=by
  unfold He at h
  split at h
  · simp only [Option.some.injEq,Prod.mk.injEq] at h;obtain ⟨rfl,rfl,rfl⟩:=h;cases hv;rfl
  · simp only [Option.some.injEq,Prod.mk.injEq] at h;obtain ⟨rfl,rfl,rfl⟩:=h;cases hv;rfl
  · simp only [Option.some.injEq,Prod.mk.injEq] at h;obtain ⟨rfl,rfl,rfl⟩:=h;cases hv
    have:=ho.1
    simp only [beq_iff_eq] at this
    rw [this]
  · cases h
def qw(ops:Array Oper)(i:Nat)(v:AV)(p:dQ) :Option (AV×List Bool×dQ) :=
  bif OB ops i then (He v p).map fun r=>(.bool true r.1,r.2.1,r.2.2) else some (v,[],p)
def Cb(C:uR)(run:ev)(ops:Array Oper)(n0 i:Nat)(o:Oper)(T:List AV)(h:bC)(p:dQ) :Option (pP×List Bool×dQ) :=
  match vx ops o T with
  | none=>none
  | some false=>some ({ v:=.tup [],sets:=[],reads:=[] },[],p)
  | some true =>
    match opF C run (ZX T) (bf h) (n0+i*qv) p o.op with
    | none=>none
    | some r =>
      match qw ops i r.v r.path with
      | none=>none
      | some (v,obs,p')=>some ({ v,sets:=r.sets,reads:=r.reads },r.obs++obs,p')
def AQ(T:List AV)(d:Option Nat)(v:AV) :List AV :=
  match d with
  | some d=>YQ T d v
  | none=>T
theorem OC{ρ:ae}{w:World}{T:List AV}{a:Act}{v:AV}{u:Value}(h:cv ρ w T a.tmps.toList)(hv:VR ρ w v u)(d:Option Nat) :cv ρ w (AQ T d v) (a.put d u).tmps.toList:=by
  cases d with
  | none=>exact h
  | some d=>simp only [AQ,yX,Act.put,Array.toList_setIfInBounds];exact h.set hv d
theorem vy{ρ:ae}{w:World}{ops:Array Oper}{o:Oper}{T:List AV}{a:Act}(h:cv ρ w T a.tmps.toList){b:Bool}(hw:vx ops o T=some b) :Region.wanted o (yielded ops a.tmps)=b:=by
  unfold vx at hw
  simp only [NZ] at hw
  unfold Region.wanted
  split at hw
  · rename_i hg;cases hw;simp [hg]
  · rename_i j want hg
    simp only [hg]
    unfold zf at hw
    split at hw
    · rename_i hs;cases hw;simp [yielded,hs]
    · rename_i d hs
      split at hw
      · rename_i b' hT
        cases hw
        obtain ⟨u,h1,h2⟩:=h.get d _ hT
        rw [Array.getElem?_toList] at h1
        cases h2
        simp only [yielded,hs,Option.bind_some,h1]
        cases b'<;>cases want<;>rfl
      · rename_i l hT
        cases hw
        obtain ⟨u,h1,h2⟩:=h.get d _ hT
        rw [Array.getElem?_toList] at h1
        cases h2
        simp [yielded,hs,h1]
      · rename_i hT
        cases hw
        have : a.tmps[d]? = none := by
          have hl:=h.length
          rw [Array.getElem?_eq_none]
          have : T.length ≤ d := by rcases Nat.lt_or_ge d T.length with q | q; · rw [List.getElem?_eq_getElem q] at hT; cases hT
                                    · exact q
          simp at hl;omega
        simp [yielded,hs,this]
      · cases hw
theorem HR.congr{ρ:ae}{w:World}{h h':bC}{n:Nat}(hh:HR ρ w h n)(e:∀ b,bf h' b=bf h b) :HR ρ w h' n :=
  ⟨fun b d q=>hh.cell b d (by rw [←e];exact q),fun b c d f q r=>hh.inj b c d f (by rw [←e];exact q) (by rw [←e];exact r),hh.fresh,hh.liveLt,hh.outLt,hh.lt,hh.rom⟩
theorem Y4{C:uR}{run:ev}{e:Operand→AV}{g:Nat→Option aB}{nid:Nat}{p:dQ}{c:Call} :VO C run e g nid p (.defer c)=none:=rfl
theorem Fe{C:uR}(hC:C.Ok){run:ev}(hrun:HK C.P run){ops:Array Oper}{n0 i:Nat}{o:Oper}(hi:ops[i]? = some o){T:List AV}{h:bC}{p p':dQ}{r:pP}{obs:List Bool} 
    (hr:Cb C run ops n0 i o T h p=some (r,obs,p')) (ho:ay obs) {ρ:ae} {w:World} {n:Nat} (hh:HR ρ w h n) (hid:∀ x,n0+i*qv≤x→x<n0+i*qv+qv→¬ ρ.ok x) (hn:n0+i*qv+qv≤n) {a:Act} (hT:cv ρ w T a.tmps.toList)
    {ro:Option Nat} {nn:Nat} {K:Act→World→Prop} {Q:Exit→Act→World→Prop}
    (hK:∀ ρ' w' a',jZ ρ ρ' w→gO ρ.live w w'→HR ρ' w' (cu r.sets h) n→a'.defers=a.defers→cv ρ' w' (AQ T o.dst r.v) a'.tmps.toList→(∀ b,ρ'.ok b→ρ.ok b∨(n0+i*qv≤b∧b<n0+i*qv+qv))→K a' w'):wpOpIn (FW ro) nn C.P ops Q i K a w:=by
  have dput:∀ u,(a.put o.dst u).defers=a.defers:=by intro u;cases hdst:o.dst<;>simp [Act.put]
  unfold Cb at hr
  simp only [aao] at hr
  unfold wpOpIn
  simp only [hi]
  split at hr
  · cases hr
  · rename_i hw
    simp only [Option.some.injEq,Prod.mk.injEq] at hr;obtain ⟨rfl,rfl,rfl⟩:=hr
    rw [vy hT hw]
    simp only [Bool.false_eq_true,if_false]
    exact ⟨fun _ _=>trivial,hK ρ w _ (jZ.refl _ _) (gO.refl _ _) hh (dput _) (OC hT (.tup _ _ .nil) o.dst) (fun b q=>.inl q)⟩
  · rename_i hw
    rw [vy hT hw]
    simp only [if_true]
    split at hr
    · cases hr
    · rename_i r' hop
      split at hr
      · cases hr
      · rename_i v obs' p'' hg
        simp only [Option.some.injEq,Prod.mk.injEq] at hr;obtain ⟨rfl,rfl,rfl⟩:=hr
        rw [be] at ho
        refine OA (fun c e=>by rw [e,Y4] at hop;cases hop) (Y3 hC hrun hop ho.1 hh hid hn (fun x=>xD hh.rom hT x) ?_)
        intro ρ' w' u E W hh' hv hok
        refine hK ρ' w' _ E W hh' (dput _) (OC (hT.mono E W) ?_ o.dst) hok
        unfold qw at hg
        cases hgd:OB ops i with
        | false=>rw [hgd] at hg;simp only [cond_false,Option.some.injEq,Prod.mk.injEq] at hg;rw [←hg.1];exact hv
        | true =>
          rw [hgd] at hg
          simp only [cond_true,Option.map_eq_some_iff,Prod.mk.injEq] at hg
          obtain ⟨⟨b,ob,pp⟩,hd',rfl,rfl,rfl⟩:=hg
          rw [AP hv hd' ho.2]
          exact .bool _ _
structure YI where
  b:Nat
  saved:List AV
  ps:Array Tmp
  assign:Code
  body:Code
def ae.wm(ρ:ae)(y:Option YI)(b:Nat) :Prop:=ρ.live b∨(y.isSome=true∧∃ k,ρ.pin.2=some (b,k))
theorem abO{ρ:ae}{b:Nat} :ρ.wm none b↔ρ.live b:=by simp [ae.wm]
theorem abP{ρ ρ':ae}{w:World}{y:Option YI}(E:jZ ρ ρ' w){b:Nat}(hb:b<w.heap.size)(h:ρ'.wm y b) :ρ.wm y b :=
  h.imp (E.new b hb) fun ⟨q,k,r⟩=>⟨q,k,by rw [←E.pin];exact r⟩
structure Hf (y:Option YI) (ρ:ae) (w:World) (ρ':ae) (w':World):Prop where
  ext:jZ ρ ρ' w
  wle:gO (ρ.wm y) w w'
  vr:∀ v u,VR ρ w v u→VR ρ' w' v u
  marks:∀ ds,jn ρ w ds→jn ρ' w' ds
theorem Hf.of{y:Option YI}{ρ ρ':ae}{w w':World}(E:jZ ρ ρ' w)(W:gO ρ.live w w') :Hf y ρ w ρ' w' :=
  ⟨E,W.mono fun _ _ q=>.inl q,fun v u h=>h.mono E W,fun ds h=>h.mono E W⟩
theorem Hf.refl(y:Option YI)(ρ:ae)(w:World) :Hf y ρ w ρ w:=.of (jZ.refl _ _) (gO.refl _ _)
theorem Hf.trans{y:Option YI}{ρ ρ1 ρ2:ae}{w w1 w2:World}(h:Hf y ρ w ρ1 w1)(k:Hf y ρ1 w1 ρ2 w2) :Hf y ρ w ρ2 w2 :=
  ⟨h.ext.trans k.ext h.wle.size,h.wle.trans k.wle (fun _ hx q=>abP h.ext hx q),fun v u q=>k.vr v u (h.vr v u q),fun ds q=>k.marks ds (h.marks ds q)⟩
theorem Hf.live{ρ ρ':ae}{w w':World}(h:Hf none ρ w ρ' w') :gO ρ.live w w':=h.wle.mono fun _ _ q=>abO.1 q
theorem cv.stp{ρ ρ':ae}{w w':World}(h:∀ v u,VR ρ w v u→VR ρ' w' v u) :∀ {l:List AV} {c:List Value},cv ρ w l c→cv ρ' w' l c
  | _,_,.nil=>.nil
  | _,_,.cons v u l c a t=>.cons v u l c (h v u a) (cv.stp h t)
theorem jn.soft{ρ:ae}{w:World}{L:Nat}{r:Loop}(hL:w.heap[L]? = some (.loop r)){o:Obj} :∀ {ds:List Deferred},jn ρ w ds→jn ρ (w.putObj L o) ds
  | [],h=>by simpa [jn] using h
  | d::ds,⟨⟨D,h1,hb,h2,h3,h4,h5⟩,h⟩=>⟨⟨D,h1,hb,by simpa using h2,h3,(World.putObj_heap_other (fun e=>by rw [e,hL] at h4;cases h4)).trans h4,h5⟩,jn.soft hL h⟩
def RO(ρ:ae)(w:World)(L:Nat)(y:YI)(s:LoopState)(pe:Option Code) :Prop :=
  ∃ rec:Loop,w.heap[L]? = some (.loop rec)∧rec.state=s∧rec.pending=pe∧rec.params=y.ps∧rec.assign=y.assign∧rec.body=y.body∧cv ρ w y.saved rec.tmps.toList
def Cc:Option aB→Option (LoopState×Option Code)
  | some (.vs [])=>some (.ready,none)
  | some (.fl [])=>some (.done,some .ret)
  | some (.rows id 0 _)=>some (.done,some (.exit id))
  | _=>none
def qx(y:Option YI)(ρ:ae)(w:World)(h:bC)(m:Nat) :Prop :=
  match y with
  | none=>True
  | some y=>¬ ρ.ok y.b∧y.b<m∧∃ L,ρ.pin.2=some (L,y.b)∧¬ ρ.live L∧∃ s pe,Cc (bf h y.b)=some (s,pe)∧RO ρ w L y s pe
theorem RO.mono{ρ ρ':ae}{w w':World}{L:Nat}{y:YI}{s:LoopState}{pe:Option Code}(h:RO ρ w L y s pe)(E:jZ ρ ρ' w)(W:gO ρ.live w w')(hL : ¬ ρ.live L) :RO ρ' w' L y s pe:=by
  obtain ⟨rec,h1,h2,h3,h4,h5,h6,h7⟩:=h
  exact ⟨rec,(W.same L (Array.getElem?_eq_some_iff.1 h1).1 hL).trans h1,h2,h3,h4,h5,h6,h7.mono E W⟩
theorem qx.mono{y:Option YI}{ρ ρ':ae}{w w':World}{h h':bC}{m:Nat}(hp:qx y ρ w h m)(E:jZ ρ ρ' w)(W:gO ρ.live w w')(hb:∀ yi,y=some yi→ρ'.ok yi.b→ρ.ok yi.b∨m≤yi.b)(hg:∀ yi,y=some yi→bf h' yi.b=bf h yi.b) :qx y ρ' w' h' m:=by
  cases y with
  | none=>trivial
  | some y =>
    obtain ⟨h1,h2,L,h3,h4,s,pe,h5,h6⟩:=hp
    have hlt:L<w.heap.size:=by obtain ⟨rec,q,_⟩:=h6;exact (Array.getElem?_eq_some_iff.1 q).1
    refine ⟨fun q=>(hb y rfl q).elim h1 (by omega),h2,L,by rw [E.pin];exact h3,fun q=>h4 (E.new L hlt q),s,pe,by rw [hg y rfl];exact h5,h6.mono E W h4⟩
theorem qx.le{y:Option YI}{ρ:ae}{w:World}{h:bC}{m m':Nat}(hp:qx y ρ w h m)(hm:m≤m') :qx y ρ w h m':=by
  cases y with
  | none=>trivial
  | some y=>obtain ⟨h1,h2,h3⟩:=hp;exact ⟨h1,Nat.lt_of_lt_of_le h2 hm,h3⟩
abbrev Y5:=List AV→bC→Nat→dQ→Option (AV×bC×Nat×List Bool×dQ)
def VT(P:Program)(y:Option YI)(yr:Y5) :Prop :=
  ∀ args h nx p v h' nx' obs p',yr args h nx p=some (v,h',nx',obs,p')→ay obs→∃ yi,y=some yi∧∀ (ρ:ae) (w:World) (us:Array Value) (m:Nat),HR ρ w h nx→ρ.pin.1≤w.heap.size→qx y ρ w h m→m≤nx→cv ρ w args us.toList →
    ∀ (L:Nat),ρ.pin.2=some (L,yi.b)→∃ rec:Loop,w.heap[L]? = some (.loop rec)∧us.size=rec.params.size∧∀ (ro:Option Nat) (nn:Nat) (R:Ending→World→Prop),
      (∀ ρ' w' u,Hf y ρ w ρ' w'→HR ρ' w' h' nx'→qx y ρ' w' h' m→VR ρ' w' v u→(∀ b,ρ'.ok b→ρ.ok b∨nx≤b)→nx≤nx'→R (.returned u) w') →
      RoundIn (FW ro) nn P L rec.fn ((rec.params.zip us).foldl (fun tmps (t,a)=>tmps.setIfInBounds t a) rec.tmps) rec.assign rec.body w R
def Yc(ops:Array Oper)(o:Oper)(T:List AV) :Option (List AV) :=
  match o.op with
  | .call { callee:=.value f,args,.. } =>
    match ZX T f with
    | .yld _=>match vx ops o T with
      | some true=>some (args.toList.map (ZX T))
      | _=>none
    | _=>none
  | _=>none
def sC(y:Option YI)(s:List (Nat×Option aB)) :Bool :=
  match y with
  | none=>true
  | some y=>!(qO (s.map Prod.fst) y.b)
theorem Cd{y:Option YI}{s:List (Nat×Option aB)}(h:sC y s=true)(hp:bC) :∀ yi,y=some yi→bf (cu s hp) yi.b=bf hp yi.b:=by
  intro yi e
  subst e
  simp only [sC,Bool.not_eq_true'] at h
  have key:∀ (s:List (Nat×Option aB)) (hp:bC),qO (s.map Prod.fst) yi.b=false→bf (cu s hp) yi.b=bf hp yi.b:=by
    intro s
    induction s with
    | nil=>intro hp _;rfl
    | cons x s ih =>
      intro hp h
      obtain ⟨c,d⟩:=x
      simp only [List.map_cons,qO] at h
      cases e:Nat.beq c yi.b with
      | true=>rw [e] at h;cases h
      | false =>
        rw [e] at h
        simp only [cond_false] at h
        have hne : ¬ c=yi.b:=fun q=>by rw [q,nF] at e;cases e
        cases d with
        | some d=>simp only [cu];rw [ih _ h,cN,if_neg hne]
        | none=>simp only [cu];rw [ih _ h,nt,if_neg hne]
  exact key s hp h
def D1(C:uR)(run:ev)(y:Option YI)(yr:Y5)(ops:Array Oper)(n0:Nat) :Nat→List Oper→List AV→bC→Nat→dQ→Option (List AV×bC×Nat×List Bool×dQ)
  | _,[],T,h,nx,p=>some (T,h,nx,[],p)
  | i,o::l,T,h,nx,p =>
    match Yc ops o T with
    | some args =>
      match yr args h nx p with
      | none=>none
      | some (v,h1,nx1,obs1,p1) =>
        match qw ops i v p1 with
        | none=>none
        | some (v,obs2,p2) =>
          match D1 C run y yr ops n0 (i+1) l (AQ T o.dst v) h1 nx1 p2 with
          | none=>none
          | some (T',h',nx',obs',p'')=>some (T',h',nx',obs1++obs2++obs',p'')
    | none =>
      match Cb C run ops n0 i o T h p with
      | none=>none
      | some (r,obs,p') =>
        bif sC y r.sets then
          match D1 C run y yr ops n0 (i+1) l (AQ T o.dst r.v) (cu r.sets h) nx p' with
          | none=>none
          | some (T',h',nx',obs',p'')=>some (T',h',nx',obs++obs',p'')
        else none
structure HP (ρ:ae) (w:World) (n:Nat) (st:aG) (ρ':ae) (a':Act) (w':World):Prop where
  ext:jZ ρ ρ' w
  wle:gO ρ.live w w'
  sr:SR ρ' st a' w'
  le:n≤st.next
  back:∀ b,ρ'.ok b→ρ.ok b∨n≤b
theorem HQ{ρ:ae}{w:World}{ops:Array Oper}{i:Nat}{v v':AV}{u:Value}{p p':dQ}{obs:List Bool}(hv:VR ρ w v u)(hg:qw ops i v p=some (v',obs,p'))(ho:ay obs) :VR ρ w v' u:=by
  unfold qw at hg
  cases hgd:OB ops i with
  | false=>rw [hgd] at hg;simp only [cond_false,Option.some.injEq,Prod.mk.injEq] at hg;rw [←hg.1];exact hv
  | true =>
    rw [hgd] at hg
    simp only [cond_true,Option.map_eq_some_iff,Prod.mk.injEq] at hg
    obtain ⟨⟨b,ob,pp⟩,hd',rfl,rfl,rfl⟩:=hg
    rw [AP hv hd' ho]
    exact .bool _ _
theorem vz{C:uR}(hC:C.Ok){run:ev}(hrun:HK C.P run){y:Option YI}{yr:Y5}(hyr:VT C.P y yr){ops:Array Oper}{n0:Nat}{ro:Option Nat}{nn:Nat}{Q:Exit→Act→World→Prop} :∀ (l:List Oper) (i:Nat) {T T':List AV} {h h':bC} {nx nx':Nat} {p p':dQ} {obs:List Bool},
    (∀ j,l[j]? = ops[i+j]?)→D1 C run y yr ops n0 i l T h nx p=some (T',h',nx',obs,p')→ay obs→∀ {ρ:ae} {w:World},HR ρ w h nx→n0+ops.size*qv≤nx→qx y ρ w h n0→ρ.pin.1≤w.heap.size→(∀ b,ρ.ok b→b<n0+i*qv∨n0+ops.size*qv≤b)→∀ {a:Act},cv ρ w T a.tmps.toList →
    (∀ ρ' w' a',Hf y ρ w ρ' w'→HR ρ' w' h' nx'→nx≤nx'→qx y ρ' w' h' n0→a'.defers=a.defers→cv ρ' w' T' a'.tmps.toList→(∀ b,ρ'.ok b→ρ.ok b∨n0≤b)→Q .normal a' w')→wpOpsIn (FW ro) nn C.P ops Q (List.range' i l.length) a w
  | [],i,T,T',h,h',nx,nx',p,p',obs,hl,hr,ho,ρ,w,hh,hnx,hpin,hpn,hok,a,hT,hQ=>by
    simp only [D1,Option.some.injEq,Prod.mk.injEq] at hr;obtain ⟨rfl,rfl,rfl,rfl,rfl⟩:=hr
    simp only [List.length_nil,List.range'_zero,wpOpsIn]
    exact hQ ρ w a (Hf.refl _ _ _) hh (Nat.le_refl _) hpin rfl hT (fun b q=>.inl q)
  | o::l,i,T,T',h,h',nx,nx',p,p',obs,hl,hr,ho,ρ,w,hh,hnx,hpin,hpn,hok,a,hT,hQ=>by
    have hi:ops[i]? = some o:=by have:=hl 0;simpa using this.symm
    have hlt:i<ops.size:=(Array.getElem?_eq_some_iff.1 hi).1
    simp only [List.length_cons,List.range'_succ]
    rw [wpOpsIn_cons]
    have hS:i*qv+qv≤ops.size*qv:=by rw [←Nat.succ_mul];exact Nat.mul_le_mul_right _ hlt
    have hi1:(i+1)*qv=i*qv+qv:=Nat.succ_mul _ _
    have hl':∀ j,l[j]? = ops[i+1+j]?:=fun j=>by have:=hl (j+1);rw [show i+1+j=i+(j+1) from by omega];simpa using this
    simp only [D1] at hr
    split at hr
    · rename_i args hya
      split at hr
      case h_1=>cases hr
      rename_i v h1 nx1 obs1 p1 hy1
      split at hr
      case h_1=>cases hr
      rename_i v2 obs2 p2 hg
      split at hr
      case h_1=>cases hr
      rename_i T2 h2 nx2 obs3 p3 h3
      simp only [Option.some.injEq,Prod.mk.injEq] at hr;obtain ⟨rfl,rfl,rfl,rfl,rfl⟩:=hr
      rw [be,be] at ho
      unfold Yc at hya
      split at hya
      case h_2=>cases hya
      rename_i f avs ats hop
      split at hya
      case h_2=>cases hya
      rename_i b hef
      split at hya
      case h_2=>cases hya
      rename_i hw
      simp only [Option.some.injEq] at hya;subst hya
      have hf:=xD hh.rom hT f
      rw [hef] at hf
      generalize hgf:a.eval f=gf at hf
      cases hf with | yld _ L hL =>
      obtain ⟨yi,rfl,hyr1⟩:=hyr _ _ _ _ _ _ _ _ _ hy1 ho.1.1
      have hb:b=yi.b:=by
        obtain ⟨_,_,L',q,_⟩:=hpin
        rw [hL] at q;cases q;rfl
      subst hb
      obtain ⟨rec,hrec,hsz,hround⟩:=hyr1 ρ w (avs.map a.eval) n0 hh hpn hpin (by omega) (by rw [Array.toList_map];exact cv.map (fun x=>xD hh.rom hT x) avs.toList) L hL
      unfold wpOpIn
      simp only [hi]
      rw [vy hT hw]
      simp only [if_true]
      refine ⟨fun _ _=>trivial,?_⟩
      have hex:(o.semAt (FW ro).round a.eval).run C.P w=.ok (.round L rec.fn ((rec.params.zip (avs.map a.eval)).foldl (fun tmps (t,a)=>tmps.setIfInBounds t a) rec.tmps) rec.assign rec.body) w:=by
        rw [Oper.semAt_eq _ _ _ (fun c e=>by rw [hop] at e;cases e)]
        have:=run_yield (P:=C.P) (args:=avs.map a.eval) hrec hsz
        simp only [execOp,hop,resolve,hgf,Deferred.ofValue]
        simpa [invoke,Sem.run_bind,Result.andThen] using this
      rw [hex]
      refine ⟨Hd,hround ro _ _ fun ρ' w' u S hh' hpin' hv hok' hle=>?_⟩
      refine vz hC hrun hyr l (i+1) hl' h3 ho.2 hh' (by omega) hpin' (by rw [S.ext.pin];exact Nat.le_trans hpn S.wle.size) (fun b q=>?_) (OC (cv.stp S.vr hT) (HQ hv hg ho.1.2) o.dst) ?_
      · rcases hok' b q with q | q
        · rcases hok b q with q | q
          · exact .inl (by omega)
          · exact .inr q
        · exact .inr (by omega)
      · intro ρ'' w'' a'' S' hh'' hle' hpin'' hd'' hT'' hb''
        refine hQ ρ'' w'' a'' (S.trans S') hh'' (by omega) hpin'' (hd''.trans (by cases hdst:o.dst<;>simp [Act.put])) hT'' (fun b q=>?_)
        rcases hb'' b q with q | q
        · rcases hok' b q with q | q
          · exact .inl q
          · exact .inr (by omega)
        · exact .inr q
    · split at hr
      case h_1=>cases hr
      rename_i r obs1 p1 h1
      cases hkp:sC y r.sets with
      | false=>rw [hkp] at hr;cases hr
      | true =>
      rw [hkp] at hr
      simp only [cond_true] at hr
      split at hr
      case h_1=>cases hr
      rename_i T2 h2 nx2 obs2 p2 h3
      simp only [Option.some.injEq,Prod.mk.injEq] at hr;obtain ⟨rfl,rfl,rfl,rfl,rfl⟩:=hr
      rw [be] at ho
      refine Fe hC hrun hi h1 ho.1 hh (fun x h1 h2 q=>by have:=hok _ q;omega) (by omega) hT ?_
      intro ρ' w' a' E W hh' hd' hT' hok'
      have S:=Hf.of (y:=y) E W
      refine vz hC hrun hyr l (i+1) hl' h3 ho.2 hh' hnx (hpin.mono E W (fun yi e q=>?_) (Cd hkp h)) (by rw [E.pin];exact Nat.le_trans hpn W.size) (fun b q=>?_) hT' ?_
      · rcases hok' _ q with q | q
        · exact .inl q
        · exact .inr (by omega)
      · rcases hok' b q with q | q
        · rcases hok b q with q | q
          · exact .inl (by omega)
          · exact .inr q
        · exact .inl (by omega)
      intro ρ'' w'' a'' S' hh'' hle' hpin'' hd'' hT'' hb''
      exact hQ ρ'' w'' a'' (S.trans S') hh'' hle' hpin'' (hd''.trans hd') hT'' (fun b q=>by
        rcases hb'' b q with q | q
        · rcases hok' b q with q | q
          · exact .inl q
          · exact .inr (by omega)
        · exact .inr q)
theorem zg{e e':Operand→AV}{l:List Operand}(h:∀ x∈l,e x=e' x) :l.map e=l.map e':=List.map_congr_left h
theorem OD{wr:Bool}{P:Program}{e e':Operand→AV}{op:Op}(h:∀ x∈op.operands,e x=e' x) :sx wr P e op=sx wr P e' op:=by
  unfold sx
  split
  all_goals simp only [Op.operands,Call.operands] at h
  case h_1=>rw [h _ (by simp)]
  case h_2=>rw [h _ (by simp)]
  case h_3=>rw [h _ (by simp),h _ (by simp),h _ (by simp)]
  case h_4=>rw [h _ (by simp)]
  case h_5=>rw [h _ (by simp),h _ (by simp)]
  case h_6=>rw [h _ (by simp)]
  case h_7=>rw [h _ (by simp)]
  case h_8=>rw [h _ (by simp)]
  case h_9 =>
    rename_i fn first caps
    rw [zg (l:=first.toList) (fun x hx=>h x (by simp at hx;simp [hx])),zg (l:=caps.toList) (fun x hx=>h x (by simp at hx;simp [hx]))]
  case h_10 =>
    rename_i t x lo hi
    rw [h x (by simp)]
    cases lo<;>cases hi<;>simp only [Option.map_none,Option.map_some]<;>first | rfl | (rw [h _ (by simp),h _ (by simp)]) | (rw [h _ (by simp)])
  case h_11 =>
    rename_i t x lo hi mx
    rw [h x (by simp),h mx (by simp)]
    cases lo<;>cases hi<;>simp only [Option.map_none,Option.map_some]<;>first | rfl | (rw [h _ (by simp),h _ (by simp)]) | (rw [h _ (by simp)])
  case h_12=>rw [h _ (by simp)]
  case h_13=>rw [h _ (by simp)]
  case h_14=>rw [h _ (by simp),h _ (by simp)]
  case h_15=>rw [h _ (by simp),h _ (by simp)]
  case h_16=>rw [h _ (by simp)]
  case h_17 =>
    rename_i xs ts
    split
    · rename_i x t hx ht
      have:xs = #[x]:=by rw [←hx]
      subst this
      rw [h x (by simp)]
    · rfl
  case h_18 =>
    rename_i xs ts
    split
    · rename_i x l hx
      have:xs=(x::l).toArray:=by rw [←hx]
      subst this
      rw [h x (by simp),zg (l:=l) (fun y hy=>h y (by simp [hy]))]
    · rfl
  case h_19 =>
    rename_i xs ts
    split
    · rename_i x l hx
      have:xs=(x::l).toArray:=by rw [←hx]
      subst this
      rw [h x (by simp),zg (l:=l) (fun y hy=>h y (by simp [hy]))]
    · rfl
  case h_20=>rfl
theorem RP{P:Program}{g g':Nat→Option aB}{t:TypeId}{x:AV}{r:AV×List Bool×List Nat}(h:zP P g t x=some r)(hg:∀ b∈r.2.2,g' b=g b) :zP P g' t x=some r:=by
  unfold zP at h ⊢
  simp only at h ⊢
  split at h
  · rename_i b w i j
    split at h
    · rename_i d hd
      simp only [Option.map_eq_some_iff] at h
      obtain ⟨r',h1,rfl⟩:=h
      have:g' b=some d:=by rw [hg b (by simp)];exact hd
      simp only [this,h1];rfl
    · cases h
  · exact h
  · cases h
theorem OE{P:Program}{g g':Nat→Option aB}{t:TypeId}{x v:AV}{r:Nat×aB×List Bool}(h:AG P g t x v=some r)(hg:g' r.1=g r.1) :AG P g' t x v=some r:=by
  unfold AG at h ⊢
  split at h
  · rename_i b w i j l inf h1 h2
    split at h
    · rename_i d hd
      cases e:Nat.beq l.length inf.size with
      | false=>rw [e] at h;cases h
      | true =>
        rw [e] at h
        simp only [cond_true,Option.map_eq_some_iff] at h
        obtain ⟨r',h3,rfl⟩:=h
        have:g' b=some d:=by rw [hg];exact hd
        simp only [h1,this,e,cond_true,h3];rfl
    · cases h
  · cases h
theorem AR{g g':Nat→Option aB}{x:AV}{r:Nat×Nat×aB×List Bool×List Nat}(h:RE g x=some r)(hg:∀ b∈r.2.2.2.2,g' b=g b) :RE g' x=some r:=by
  unfold RE at h ⊢
  split at h
  · rename_i b w es i len cap
    split at h
    · rename_i d hd
      simp only [Option.map_eq_some_iff] at h
      obtain ⟨r',h1,rfl⟩:=h
      have:g' b=some d:=by rw [hg b (by simp)];exact hd
      simp only [this,h1];rfl
    · cases h
  · exact h
  · cases h
theorem un{P:Program}{g g':Nat→Option aB}{nid:Nat}{e:TypeId}{inf:TypeInfo}{s:AV}{m es':Nat}{nb:aB}{obs:List Bool}{rs:List Nat}{r:List rH×List Nat}(h:vm P g nid e inf s m es' nb obs rs=some r)(hg:∀ b∈r.2,g' b=g b) :
    vm P g' nid e inf s m es' nb obs rs=some r∧∀ b∈rs,b∈r.2:=by
  unfold vm at h ⊢
  split at h
  · refine ⟨h,?_⟩
    cases hes:Nat.beq es' inf.size with
    | false=>rw [hes] at h;cases h
    | true =>
      rw [hes] at h
      simp only [cond_true,Option.some.injEq] at h;subst h
      exact fun b hb=>hb
  · refine ⟨h,?_⟩
    cases hes:Nat.beq es' inf.size with
    | false=>rw [hes] at h;cases h
    | true =>
      rw [hes] at h
      simp only [cond_true,Option.some.injEq] at h;subst h
      exact fun b hb=>hb
  · rename_i b w es len cap
    split at h
    case h_2=>cases h
    rename_i d hd
    cases hes:(Nat.beq es inf.size&&Nat.beq es' es) with
    | false=>rw [hes] at h;cases h
    | true =>
    rw [hes] at h
    simp only [cond_true] at h
    split at h
    case h_2=>cases h
    rename_i old obs' hsub
    simp only [Option.map_eq_some_iff] at h
    obtain ⟨d',happ,rfl⟩:=h
    have h2:g' b=some d:=by rw [hg b (by simp)];exact hd
    refine ⟨?_,fun b hb=>by simp [hb]⟩
    simp only [h2,cond_true,hsub,happ,hes];rfl
  · cases h
theorem Ks{P:Program}{g g':Nat→Option aB}{nid:Nat}{t t':TypeId}{s x:AV}{r:List rH×List Nat}(h:zd P g nid t t' s x=some r)(hg:∀ b∈r.2,g' b=g b) :zd P g' nid t t' s x=some r:=by
  unfold zd at h ⊢
  split at h
  case h_2=>cases h
  rename_i e y ht ht'
  split at h
  case h_2=>cases h
  rename_i inf he hi
  split at h
  case h_2=>cases h
  rename_i z hz
  cases hzs:(Nat.beq z.cells.size inf.size&&Nat.beq inf.size 1) with
  | false=>rw [hzs] at h;cases h
  | true =>
  rw [hzs] at h
  simp only [cond_true] at h ⊢
  exact (un h hg).1
theorem Kt{P:Program}{g g':Nat→Option aB}{nid:Nat}{t:TypeId}{s x:AV}{r:List rH×List Nat}(h:zc P g nid t s x=some r)(hg:∀ b∈r.2,g' b=g b) :zc P g' nid t s x=some r:=by
  unfold zc at h ⊢
  split at h
  case h_2=>cases h
  rename_i e ht
  split at h
  case h_2=>cases h
  rename_i inf hi
  split at h
  case h_2=>cases h
  rename_i z hz
  cases hzs:Nat.beq z.cells.size inf.size with
  | false=>rw [hzs] at h;cases h
  | true =>
  rw [hzs] at h
  simp only [cond_true] at h ⊢
  split at h
  · exact h
  · exact h
  · exact h
  · exact h
  · split at h
    case h_2=>cases h
    rename_i m es nb obs rs hs
    have q:∀ b∈rs,b∈r.2:=(un (g':=g) h (fun _ _=>rfl)).2
    have:=AR (g':=g') hs (fun b hb=>hg b (q b hb))
    simp only [this]
    exact (un h hg).1
mutual
theorem vA {σ:Nat→Option Nat} {g g':Nat→Option aB}:∀ (n:Nat) (v:AV),(∀ b∈(DW σ g n v).2,g' b=g b)→DW σ g' n v=DW σ g n v
  | 0,_,_=>rfl
  | n + 1, v, h => by
    cases v<;>simp only [DW] at h ⊢
    · rename_i b w i j
      cases hs:σ b with
      | some c=>rfl
      | none =>
      rw [hs] at h
      simp only at h ⊢
      have hb:g' b=g b:=by
        cases q:g b with
        | none=>rw [q] at h;have:=h b (by simp);rw [this,q]
        | some d=>rw [q] at h;have:=h b (by simp);rw [this,q]
      rw [hb]
      cases q:g b with
      | none=>rfl
      | some d =>
        rw [q] at h
        have:=HS (σ:=σ) (g:=g) (g':=g') n d (fun b' hb'=>h b' (by simp only [List.mem_cons];exact .inr hb'))
        simp only [this]
    · rename_i b w es i len cap
      cases hs:σ b with
      | some c=>rfl
      | none =>
      rw [hs] at h
      simp only at h ⊢
      have hb:g' b=g b:=by
        cases q:g b with
        | none=>rw [q] at h;have:=h b (by simp);rw [this,q]
        | some d=>rw [q] at h;have:=h b (by simp);rw [this,q]
      rw [hb]
      cases q:g b with
      | none=>rfl
      | some d =>
        rw [q] at h
        have:=HS (σ:=σ) (g:=g) (g':=g') n d (fun b' hb'=>h b' (by simp only [List.mem_cons];exact .inr hb'))
        simp only [this]
    · rename_i f l1 l2
      rw [po n l1 (fun b hb=>h b (by simp [hb])),po n l2 (fun b hb=>h b (by simp [hb]))]
    · rename_i l;rw [po n l h]
    · rename_i l;rw [po n l h]
    · rename_i t v;rw [vA n v h]
theorem po {σ:Nat→Option Nat} {g g':Nat→Option aB}:∀ (n:Nat) (l:List AV),(∀ b∈(B4 σ g n l).2,g' b=g b)→B4 σ g' n l=B4 σ g n l
  | 0,_,_=>rfl
  | n+1,[],_=>rfl
  | n+1,v::l,h=>by
    simp only [B4] at h ⊢
    rw [vA n v (fun b hb=>h b (by simp [hb])),po n l (fun b hb=>h b (by simp [hb]))]
theorem HS {σ:Nat→Option Nat} {g g':Nat→Option aB}:∀ (n:Nat) (d:aB),(∀ b∈(AL σ g n d).2,g' b=g b)→AL σ g' n d=AL σ g n d
  | 0,_,_=>rfl
  | n+1,d,h=>by
    cases d<;>simp only [AL] at h ⊢
    rename_i l;rw [po n l h]
end
theorem nO{σ:Nat→Option Nat}{g g':Nat→Option aB} :∀ (m:List Bool) (l:List AV),(∀ b∈(jq σ g m l).2,g' b=g b)→jq σ g' m l=jq σ g m l
  | m,[],_=>by cases m<;>rfl
  | true::m,v::l,h=>by
    simp only [jq] at h ⊢
    rw [nO m l h]
  | false::m,v::l,h=>by
    simp only [jq] at h ⊢
    rw [vA _ v (fun b hb=>h b (by simp [hb])),nO m l (fun b hb=>h b (by simp [hb]))]
  | [],v::l,h=>by
    simp only [jq] at h ⊢
    rw [vA _ v (fun b hb=>h b (by simp [hb])),nO [] l (fun b hb=>h b (by simp [hb]))]
theorem D2{g:Nat→Option aB} :∀ (n:Nat) (t acc:List Nat),∀ b∈acc,b∈lA g n t acc
  | 0,t,acc,b,h=>h
  | n+1,[],acc,b,h=>h
  | n+1,x::t,acc,b,h=>by
    simp only [lA]
    split
    · exact D2 n _ _ b h
    · exact D2 n _ _ b (by simp [h])
theorem xO{g g':Nat→Option aB} :∀ (n:Nat) (t acc:List Nat),(∀ b∈lA g n t acc,g' b=g b)→lA g' n t acc=lA g n t acc
  | 0,t,acc,_=>rfl
  | n+1,[],acc,_=>rfl
  | n+1,x::t,acc,h=>by
    simp only [lA] at h ⊢
    split
    · rename_i e;rw [e] at h;exact xO n _ _ h
    · rename_i e
      rw [e] at h
      simp only at h
      have hx:g' x=g x:=h x (D2 n _ _ x (by simp))
      rw [hx]
      exact xO n _ _ h
theorem Ce{σ:Nat→Option Nat}{g g':Nat→Option aB} :∀ (l:List Nat),(∀ b∈l,g' b=g b)→qN σ g' l=qN σ g l
  | [],_=>rfl
  | b::l,h=>by simp only [qN];rw [h b (by simp),Ce l (fun x hx=>h x (by simp [hx]))]
theorem xP{g g':Nat→Option aB}{nid:Nat} :∀ (l:List Nat),(∀ b∈l,g' b=g b)→nM g' nid l=nM g nid l
  | [],_=>rfl
  | b::l,h=>by simp only [nM];rw [h b (by simp),xP l (fun x hx=>h x (by simp [hx]))]
theorem RQ{C:uR}{run:ev}{g g':Nat→Option aB}{nid:Nat}{p:dQ}{fid:FuncId}{vals:List AV}{r:Y2}(h:HL C run g nid p fid vals=some r)(hg:∀ b∈r.reads,g' b=g b) :HL C run g' nid p fid vals=some r:=by
  have hreads:r.reads=lA g gP (hH (nL (C.mode fid).mask vals)) []++(jq (kY (lA g gP (hH (nL (C.mode fid).mask vals)) []) 0) g (C.mode fid).mask vals).2:=by
    unfold HL at h
    simp only at h
    generalize (vv (lA g gP (hH (nL (C.mode fid).mask vals)) [])&&nM g nid (lA g gP (hH (nL (C.mode fid).mask vals)) []))=c at h
    cases c with
    | false=>cases h
    | true =>
      simp only [cond_true] at h
      split at h
      case h_2=>cases h
      rename_i r' obs p' hl
      cases hle:Nat.ble r'.own.length ((lA g gP (hH (nL (C.mode fid).mask vals)) []).length+qv) with
      | false=>rw [hle] at h;cases h
      | true=>rw [hle] at h;simp only [cond_true,Option.some.injEq] at h;rw [←h]
  rw [hreads] at hg
  have e1:=xO (g:=g) (g':=g') gP (hH (nL (C.mode fid).mask vals)) [] (fun b hb=>hg b (by simp [hb]))
  have e2:=nO (σ:=kY (lA g gP (hH (nL (C.mode fid).mask vals)) []) 0) (g:=g) (g':=g') (C.mode fid).mask vals (fun b hb=>hg b (by simp [hb]))
  have e3:=Ce (σ:=kY (lA g gP (hH (nL (C.mode fid).mask vals)) []) 0) (g:=g) (g':=g') (lA g gP (hH (nL (C.mode fid).mask vals)) []) (fun b hb=>hg b (by simp [hb]))
  have e4:=xP (nid:=nid) (g:=g) (g':=g') (lA g gP (hH (nL (C.mode fid).mask vals)) []) (fun b hb=>hg b (by simp [hb]))
  unfold HL at h ⊢
  simp only at h ⊢
  rw [e1,e2,e3,e4]
  exact h
theorem RR{P:Program}{g g':Nat→Option aB}{t:TypeId}{s x:AV}{r:Nat×Nat×aB×List Bool×List Nat}(h:M8 P g t s x=some r)(hg:∀ b∈r.2.2.2.2,g' b=g b) :M8 P g' t s x=some r:=by
  unfold M8 at h ⊢
  split at h
  case h_2=>cases h
  rename_i e b w es i len cap ht
  split at h
  case h_2=>cases h
  rename_i inf blk m es' nb obs rs hi hb hsrc
  have hr:r.2.2.2.2=b::rs:=by
    cases h1:Nat.beq inf.size 1&&Nat.beq es' 1 with
    | false=>rw [h1] at h;cases h
    | true =>
      rw [h1] at h
      simp only [cond_true,Option.map_eq_some_iff] at h
      obtain ⟨_,_,rfl⟩:=h
      rfl
  have q1:g' b=some blk:=by rw [hg b (by rw [hr];simp)];exact hb
  have q2:=AR hsrc (g':=g') (fun c hc=>hg c (by rw [hr];exact List.mem_cons_of_mem _ hc))
  rw [hi,q1,q2]
  exact h
theorem RS{P:Program}{g g':Nat→Option aB}{t:TypeId}{s x:AV}{r:Nat×Nat×aB×List Bool×List Nat}(h:M9 P g t s x=some r)(hg:∀ b∈r.2.2.2.2,g' b=g b) :M9 P g' t s x=some r:=by
  unfold M9 at h ⊢
  cases hv:aaj x with
  | false=>rw [hv] at h;exact RR h hg
  | true =>
    rw [hv] at h
    simp only at h ⊢
    split at h
    case h_2=>cases h
    rename_i e b w es i len cap ht
    split at h
    case h_2=>cases h
    rename_i inf blk hi hb
    cases h
    have:=hg b (by simp)
    simp only [hi,this,hb]
theorem VU{P:Program}{g g':Nat→Option aB}{s d:TypeId}{x:AV}{r:ByteArray×List Bool×List Nat}(h:Y0 P g s d x=some r)(hg:∀ b∈r.2.2,g' b=g b) :Y0 P g' s d x=some r:=by
  unfold Y0 at h ⊢
  split at h
  case h_2=>cases h
  rename_i e hs hd
  split at h
  case h_2=>cases h
  rename_i m es k ys obs rs he hsrc
  have hr:r.2.2=rs:=by
    cases h1:Nat.beq es 1&&cr k .u8 with
    | false=>rw [h1] at h;cases h
    | true =>
      rw [h1] at h
      simp only [cond_true,Option.some.injEq] at h
      rw [←h]
  have q2:=AR hsrc (g':=g') (fun c hc=>hg c (by rw [hr];exact hc))
  rw [he,q2]
  exact h
theorem Y6{C:uR}{run:ev}{e e':Operand→AV}{g g':Nat→Option aB}{nid:Nat}{p:dQ}{op:Op}{r:Y2}(h:VO C run e g nid p op=some r)(he:∀ x∈op.operands,e' x=e x)(hg:∀ b∈r.reads,g' b=g b) :
    VO C run e' g' nid p op=some r:=by
  unfold VO at h ⊢
  rw [OD he]
  split at h
  · exact h
  · rename_i hp
    clear hp
    split at h
    all_goals simp only [Op.operands,Call.operands] at he
    · rename_i t x
      simp only [Option.map_eq_some_iff] at h ⊢
      obtain ⟨r',h1,rfl⟩:=h
      exact ⟨r',by rw [he x (by simp)];exact RP h1 hg,rfl⟩
    · rename_i t d x
      simp only [Option.map_eq_some_iff] at h ⊢
      obtain ⟨r',h1,rfl⟩:=h
      exact ⟨r',by rw [he x (by simp)];exact VU h1 hg,rfl⟩
    · rename_i t x lo hi
      have h1:lo.map e'=lo.map e:=by
        cases lo with
        | none=>rfl
        | some y=>simp only [Option.map_some];rw [he y (by simp)]
      have h2:hi.map e'=hi.map e:=by
        cases hi with
        | none=>rfl
        | some y=>simp only [Option.map_some];rw [he y (by simp)]
      simp only [Option.map_eq_some_iff] at h ⊢
      obtain ⟨r',q,rfl⟩:=h
      exact ⟨r',by rw [he x (by simp),h1,h2];exact Ow q hg,rfl⟩
    · rename_i t x v
      simp only [Option.map_eq_some_iff] at h ⊢
      obtain ⟨r',h1,rfl⟩:=h
      exact ⟨r',by rw [he x (by simp),he v (by simp)];exact OE h1 (hg _ (by simp)),rfl⟩
    · rename_i t x k cok;rw [he x (by simp),he k (by simp)];exact h
    · exact h
    · rename_i t x;rw [he x (by simp)];exact h
    · rename_i t l c;rw [he l (by simp),he c (by simp)];exact h
    · rename_i t parts
      have:(parts.toList.map fun x=>(x.1,e' x.2))=(parts.toList.map fun x=>(x.1,e x.2)):=List.map_congr_left fun x hx=>by rw [he x.2 (by simp;exact ⟨x.1,by simpa using hx⟩)]
      rw [this];exact h
    · rename_i t len parts
      have:(parts.toList.map fun x=>(x.1,e' x.2))=(parts.toList.map fun x=>(x.1,e x.2)):=List.map_congr_left fun x hx=>by rw [he x.2 (by simp;exact ⟨x.1,by simpa using hx⟩)]
      rw [this];exact h
    · rename_i args ats
      split at h
      case h_2=>cases h
      rename_i s x t t' e1 e2
      have ea:args = #[s,x]:=by rw [←e1]
      subst ea
      cases ht:Nat.beq t t' with
      | false =>
        rw [ht] at h
        simp only [cond_false] at h ⊢
        rw [he s (by simp),he x (by simp)]
        split at h
        case h_2=>cases h
        rename_i alts rs ha
        simp only [Option.map_eq_some_iff] at h ⊢
        obtain ⟨r',h1,rfl⟩:=h
        have:=Ks (g':=g') ha hg
        simp only [this,Option.map_eq_some_iff]
        exact ⟨r',h1,rfl⟩
      | true =>
      rw [ht] at h
      simp only [cond_true] at h ⊢
      rw [he s (by simp),he x (by simp)]
      split at h
      case h_2=>cases h
      rename_i alts rs ha
      simp only [Option.map_eq_some_iff] at h ⊢
      obtain ⟨r',h1,rfl⟩:=h
      have:=Kt (g':=g') ha hg
      simp only [this,Option.map_eq_some_iff]
      exact ⟨r',h1,rfl⟩
    · rename_i args ats
      split at h
      case h_2=>cases h
      rename_i s x t t' e1 e2
      have ea:args = #[s,x]:=by rw [←e1]
      subst ea
      rw [he s (by simp),he x (by simp)]
      simp only [Option.map_eq_some_iff] at h ⊢
      obtain ⟨r',h1,rfl⟩:=h
      exact ⟨r',RS h1 hg,rfl⟩
    · rename_i f args ats
      have hf:e' f=e f:=he f (by simp)
      have hargs:args.toList.map e'=args.toList.map e:=List.map_congr_left fun x hx=>he x (by simp at hx;simp [hx])
      split at h
      case h_2=>cases h
      rename_i fid l hca
      have:xM e' f args=some (fid,l):=by
        unfold xM at hca ⊢
        rw [hf,hargs];exact hca
      simp only [this]
      split at h
      · exact h
      · exact RQ h hg
    · cases h
def VV(l:List Operand) :List Nat:=l.filterMap fun | .tmp t=>some t | _=>none
def mu(ops:Array Oper)(o:Oper) :List Nat :=
  (match o.dst with | some d=>[d] | none=>[])++(VV o.op.operands.toList++(match o.guard with | some (j,_)=>(match zf ops j with | some d=>[d] | none=>[]) | none=>[]))
def iO(s:List (Nat×Option aB)) :List Nat:=s.map Prod.fst
def pQ(ms:List Nat)(o:Oper) :Nat:=o.after.toList.foldl (fun m e=>bif Region.binds .any e then m ||| (2^e.on ||| ms.getD e.on 0) else m) 0
def VW(x:Nat) :List Nat→Bool
  | []=>false
  | y::l=>Nat.beq x y||VW x l
def AS:List Nat→List Nat→Bool
  | [],_=>true
  | x::l,m=>!VW x m&&AS l m
theorem HT{x:Nat} :∀ {l:List Nat},VW x l=true↔x∈l
  | []=>by simp [VW]
  | y::l=>by simp [VW,HT (l:=l)]
theorem zh{l m:List Nat}(h:AS l m=true) :∀ x,x∈l→x∈m→False:=by
  induction l with
  | nil=>intro x hx;cases hx
  | cons y l ih =>
    simp only [AS,Bool.and_eq_true,Bool.not_eq_true'] at h
    intro x hx hm
    rcases List.mem_cons.1 hx with rfl | hx
    · have:=HT.2 hm;rw [this] at h;cases h.1
    · exact ih h.2 x hx hm
def nP(ops:Array Oper)(o:Oper)(r:pP)(o':Oper)(r':pP) :Bool :=
  AS o.dst.toList (mu ops o')&&(AS o'.dst.toList (mu ops o)&&(AS (iO r.sets) (r'.reads++iO r'.sets)&&AS (iO r'.sets) (r.reads++iO r.sets)))
def nQ(ops:Array Oper)(mask:Nat)(o':Oper)(r':pP) :Nat→List (Oper×pP)→Bool
  | _,[]=>true
  | i,x::l=>(mask.testBit i||nP ops x.1 x.2 o' r')&&nQ ops mask o' r' (i+1) l
def AT(ops:Array Oper) :List (Oper×pP)→List Nat→List (Oper×pP)→Bool
  | _,_,[]=>true
  | pre,ms,x::l =>
    x.1.after.toList.all (fun e=>!Region.binds .any e||Nat.blt e.on pre.length) &&
    (nQ ops (pQ ms x.1) x.1 x.2 0 pre&&AT ops (pre++[x]) (ms++[pQ ms x.1]) l)
def nC(L:Nat→Bool) :Nat→List (Oper×pP)→List AV×bC→List AV×bC
  | _,[],s=>s
  | i,x::l,s=>nC L (i+1) l (bif L i then (AQ s.1 x.1.dst x.2.v,cu x.2.sets s.2) else s)
theorem Cf(T:List AV)(d:Option Nat)(v:AV)(t:Nat) :(AQ T d v)[t]? = if d=some t then (T[t]?).map (fun _=>v) else T[t]?:=by
  cases d with
  | none=>simp [AQ]
  | some d =>
    simp only [AQ,yX,Option.some.injEq]
    rw [List.getElem?_set]
    by_cases h:d=t
    · subst h
      simp only [if_true]
      by_cases hl:d<T.length
      · simp [hl]
      · simp [hl]
    · simp [h]
theorem pR{h h':bC}{b:Nat} :∀ (s:List (Nat×Option aB)) {h h':bC},bf h b=bf h' b→bf (cu s h) b=bf (cu s h') b
  | [],_,_,e=>e
  | (c,some d)::s,h,h',e=>by
    simp only [cu]
    exact pR (h:=h) (h':=h') s (by rw [cN,cN,e])
  | (c,none)::s,h,h',e=>by
    simp only [cu]
    exact pR (h:=h) (h':=h') s (by rw [nt,nt,e])
theorem pS{b:Nat} :∀ (s:List (Nat×Option aB)) {h:bC},b ∉ iO s→bf (cu s h) b=bf h b
  | [],_,_=>rfl
  | (c,some d)::s,h,hb=>by
    simp only [iO,List.map_cons,List.mem_cons,not_or] at hb
    simp only [cu]
    rw [pS s hb.2,cN,if_neg (fun e=>hb.1 e.symm)]
  | (c,none)::s,h,hb=>by
    simp only [iO,List.map_cons,List.mem_cons,not_or] at hb
    simp only [cu]
    rw [pS s hb.2,nt,if_neg (fun e=>hb.1 e.symm)]
theorem OF{L L':Nat→Bool}{t:Nat} :∀ (l:List (Oper×pP)) (i:Nat) {s s':List AV×bC},(∀ k x,l[k]? = some x→x.1.dst=some t→L (i+k)=L' (i+k))→s.1[t]? = s'.1[t]?→(nC L i l s).1[t]? = (nC L' i l s').1[t]?
  | [],_,_,_,_,e=>e
  | x::l,i,s,s',h,e=>by
    simp only [nC]
    refine OF l (i+1) (fun k y hy hd=>by have:=h (k+1) y (by simpa using hy) hd;rw [show i+1+k=i+(k+1) from by omega];exact this) ?_
    by_cases hd:x.1.dst=some t
    · have:=h 0 x (by simp) hd
      simp only [Nat.add_zero] at this
      rw [this]
      cases L' i with
      | true=>simp only [cond_true,Cf,hd,if_true,e]
      | false=>exact e
    · cases L i<;>cases L' i<;>simp only [cond_true,cond_false,Cf,if_neg hd,e]
theorem OG{L L':Nat→Bool}{b:Nat} :∀ (l:List (Oper×pP)) (i:Nat) {s s':List AV×bC},(∀ k x,l[k]? = some x→b∈iO x.2.sets→L (i+k)=L' (i+k))→bf s.2 b=bf s'.2 b→bf (nC L i l s).2 b=bf (nC L' i l s').2 b
  | [],_,_,_,_,e=>e
  | x::l,i,s,s',h,e=>by
    simp only [nC]
    refine OG l (i+1) (fun k y hy hd=>by have:=h (k+1) y (by simpa using hy) hd;rw [show i+1+k=i+(k+1) from by omega];exact this) ?_
    by_cases hd:b∈iO x.2.sets
    · have:=h 0 x (by simp) hd
      simp only [Nat.add_zero] at this
      rw [this]
      cases L' i with
      | true=>simp only [cond_true];exact pR (h:=s.2) (h':=s'.2) _ e
      | false=>exact e
    · cases L i<;>cases L' i<;>simp only [cond_true,cond_false,pS _ hd,e]
def cF:List (Oper×pP)→List AV×bC→List AV×bC
  | [],s=>s
  | x::l,s=>cF l (AQ s.1 x.1.dst x.2.v,cu x.2.sets s.2)
theorem HU(l m:List (Oper×pP))(s:List AV×bC) :cF (l++m) s=cF m (cF l s):=by
  induction l generalizing s with
  | nil=>rfl
  | cons x l ih=>simp only [List.cons_append,cF,ih]
theorem Hg:∀ (l:List (Oper×pP)) (i j:Nat) (s:List AV×bC),nC (fun k=>decide (k<i+j)) i l s=cF (l.take j) s
  | [],i,j,s=>by simp [nC,cF]
  | x::l,i,0,s=>by
    have:∀ (l:List (Oper×pP)) (i':Nat),i≤i'→∀ s,nC (fun k=>decide (k<i+0)) i' l s=s:=by
      intro l
      induction l with
      | nil=>intro _ _ s;rfl
      | cons y l ih =>
        intro i' hi s
        simp only [nC]
        have:decide (i'<i+0)=false:=by simp;omega
        rw [this];exact ih (i'+1) (by omega) s
    simp only [List.take_zero,cF]
    exact this _ i (Nat.le_refl _) s
  | x::l,i,j+1,s=>by
    simp only [nC,List.take_succ_cons,cF]
    have h1:decide (i<i+(j+1))=true:=by simp
    rw [h1]
    simp only [cond_true]
    have:=Hg l (i+1) j (AQ s.1 x.1.dst x.2.v,cu x.2.sets s.2)
    rw [show i+1+j=i+(j+1) from by omega] at this
    exact this
structure aap (ops:Array Oper) (l:List (Oper×pP)) (ms:List Nat):Prop where
  edge:∀ (j:Nat) (x:Oper×pP),l[j]? = some x→∀ e∈x.1.after,Region.binds .any e=true→e.on<j
  mask:∀ (j:Nat) (x:Oper×pP),l[j]? = some x→∃ m:Nat,ms[j]? = some m∧∀ i:Nat,m.testBit i=true→∃ e∈x.1.after,Region.binds .any e=true∧(e.on=i∨∃ m':Nat,ms[e.on]? = some m'∧m'.testBit i=true)
  pair:∀ (i j:Nat) (x y:Oper×pP),l[i]? = some x→l[j]? = some y→i<j→(∃ m:Nat,ms[j]? = some m∧m.testBit i=true)∨nP ops x.1 x.2 y.1 y.2=true
theorem HV(ms:List Nat) :∀ (es:List Edge) (m0 i:Nat),(es.foldl (fun m e=>bif Region.binds .any e then m ||| (2^e.on ||| ms.getD e.on 0) else m) m0).testBit i=true →
    m0.testBit i=true∨∃ e∈es,Region.binds .any e=true∧(e.on=i∨(ms.getD e.on 0).testBit i=true)
  | [],m0,i,h=>.inl h
  | e::es,m0,i,h=>by
    simp only [List.foldl_cons] at h
    rcases HV ms es _ i h with h | ⟨e',h1,h2,h3⟩
    · cases hb:Region.binds .any e with
      | false=>rw [hb] at h;exact .inl h
      | true =>
        rw [hb] at h
        simp only [cond_true,Nat.testBit_or,Bool.or_eq_true,Nat.testBit_two_pow,decide_eq_true_eq] at h
        rcases h with h | h | h
        · exact .inl h
        · exact .inr ⟨e,by simp,hb,.inl h⟩
        · exact .inr ⟨e,by simp,hb,.inr h⟩
    · exact .inr ⟨e',by simp [h1],h2,h3⟩
theorem zW{ops:Array Oper}{mask:Nat}{o':Oper}{r':pP} :∀ {l:List (Oper×pP)} {i:Nat},nQ ops mask o' r' i l=true→∀ k x,l[k]? = some x→mask.testBit (i+k)=true∨nP ops x.1 x.2 o' r'=true
  | [],_,_,k,x,h=>by simp at h
  | y::l,i,h,0,x,hx=>by
    simp only [nQ,Bool.and_eq_true,Bool.or_eq_true] at h
    simp at hx;subst hx;simpa using h.1
  | y::l,i,h,k+1,x,hx=>by
    simp only [nQ,Bool.and_eq_true,Bool.or_eq_true] at h
    have:=zW h.2 k x (by simpa using hx)
    rw [show i+1+k=i+(k+1) from by omega] at this;exact this
theorem Ff{ops:Array Oper} :∀ (l pre:List (Oper×pP)) (ms:List Nat),ms.length=pre.length→AT ops pre ms l=true→aap ops pre ms→∃ ms',aap ops (pre++l) ms'
  | [],pre,ms,_,_,D=>⟨ms,by simpa using D⟩
  | x::l,pre,ms,hl,h,D=>by
    simp only [AT,Bool.and_eq_true] at h
    obtain ⟨h1,h2,h3⟩:=h
    have:=Ff l (pre++[x]) (ms++[pQ ms x.1]) (by simp [hl]) h3 ?_
    · simpa using this
    have old:∀ (j:Nat) (y:Oper×pP),(pre++[x])[j]? = some y→(j<pre.length∧pre[j]? = some y)∨(j=pre.length∧y=x):=by
      intro j y hy
      rw [List.getElem?_append] at hy
      split at hy
      · rename_i q;exact .inl ⟨q,hy⟩
      · rename_i q
        have:j-pre.length=0:=by
          rcases Nat.eq_zero_or_pos (j-pre.length) with r | r
          · exact r
          · rw [List.getElem?_eq_none (by simp;omega)] at hy;cases hy
        rw [this] at hy;simp at hy;exact .inr ⟨by omega,hy.symm⟩
    have msl:∀ (j m:Nat),ms[j]? = some m→(ms++[pQ ms x.1])[j]? = some m:=by
      intro j m hm
      rw [List.getElem?_append_left (List.getElem?_eq_some_iff.1 hm).1];exact hm
    have msn:(ms++[pQ ms x.1])[pre.length]? = some (pQ ms x.1):=by
      rw [←hl,List.getElem?_append_right (Nat.le_refl _)];simp
    have hedge:∀ e∈x.1.after,Region.binds .any e=true→e.on<pre.length:=by
      intro e he hb
      have:=List.all_eq_true.1 h1 e (by simpa using he)
      rw [hb] at this
      simpa [Nat.blt_eq] using this
    refine ⟨fun j y hy=>?_,fun j y hy=>?_,fun i j a b ha hb hij=>?_⟩
    · rcases old j y hy with ⟨q,hy⟩ | ⟨rfl,rfl⟩
      · exact D.edge j y hy
      · exact hedge
    · rcases old j y hy with ⟨q,hy⟩ | ⟨rfl,rfl⟩
      · obtain ⟨m,k1,k2⟩:=D.mask j y hy
        refine ⟨m,msl j m k1,fun i hi=>?_⟩
        obtain ⟨e,e1,e2,e3⟩:=k2 i hi
        exact ⟨e,e1,e2,e3.imp id fun ⟨m',q1,q2⟩=>⟨m',msl _ m' q1,q2⟩⟩
      · refine ⟨_,msn,fun i hi=>?_⟩
        rcases HV ms y.1.after.toList 0 i hi with q | ⟨e,e1,e2,e3⟩
        · simp at q
        · refine ⟨e,by simpa using e1,e2,e3.imp id fun q=>?_⟩
          rw [List.getD_eq_getElem?_getD] at q
          cases hm:ms[e.on]? with
          | none=>rw [hm] at q;simp at q
          | some m'=>rw [hm] at q;exact ⟨m',msl _ m' hm,q⟩
    · rcases old j b hb with ⟨q,hb⟩ | ⟨rfl,rfl⟩
      · rcases old i a ha with ⟨q',ha⟩ | ⟨rfl,rfl⟩
        · exact (D.pair i j a b ha hb hij).imp (fun ⟨m,k1,k2⟩=>⟨m,msl j m k1,k2⟩) id
        · omega
      · rcases old i a ha with ⟨q',ha⟩ | ⟨rfl,rfl⟩
        · have:=zW h2 i a ha
          rw [Nat.zero_add] at this
          exact this.imp (fun k=>⟨_,msn,k⟩) id
        · omega
def HW(m i:Nat) :Bool:=Nat.beq (Nat.land (Nat.shiftRight m i) 1) 1
theorem zi(m i:Nat) :HW m i=m.testBit i:=by
  have h:Nat.land (Nat.shiftRight m i) 1=(m >>> i)%2:=Nat.and_one_is_mod _
  unfold HW
  rw [h,Nat.testBit_eq_decide_div_mod_eq,Nat.shiftRight_eq_div_pow]
  cases hq:Nat.beq (m/2^i%2) 1 with
  | true=>have:=Nat.eq_of_beq_eq_true hq;simp [this]
  | false => have : ¬ m / 2 ^ i % 2 = 1 := fun e => by rw [e] at hq; cases hq
             simp [this]
def AU:List Nat→Nat
  | []=>0
  | t::l=>Nat.lor (Nat.shiftLeft 1 t) (AU l)
theorem HX:∀ {l:List Nat} {t:Nat},t∈l→HW (AU l) t=true
  | s::l,t,h=>by
    rw [zi]
    show ((1 <<< s) ||| AU l).testBit t=true
    rw [Nat.testBit_or,Bool.or_eq_true]
    rcases List.mem_cons.1 h with rfl | h
    · left;rw [Nat.one_shiftLeft,Nat.testBit_two_pow];simp
    · right;rw [←zi];exact HX h
def Yd(d:Option Nat)(m:Nat) :Bool:=match d with | none=>true | some d=>!HW m d
theorem HY{d:Option Nat}{l:List Nat}(h:Yd d (AU l)=true) :AS d.toList l=true:=by
  cases d with
  | none=>rfl
  | some d =>
    simp only [Yd,Bool.not_eq_true'] at h
    simp only [Option.toList,AS,Bool.and_true,Bool.not_eq_true']
    cases hm:VW d l with
    | false=>rfl
    | true=>rw [HX (HT.1 hm)] at h;cases h
def xQ(r r':pP) :Bool:=AS (iO r.sets) (r'.reads++iO r'.sets)&&AS (iO r'.sets) (r.reads++iO r.sets)
def Hh(mask:Nat)(d':Option Nat)(m':Nat) :Nat→List (Option Nat×Nat)→Bool
  | _,[]=>true
  | i,x::l=>(HW mask i||(Yd x.1 m'&&Yd d' x.2))&&Hh mask d' m' (i+1) l
def OH(ops:Array Oper)(o:Oper) :Option Nat×Nat:=(o.dst,AU (mu ops o))
def OI(ops:Array Oper) :List Oper→List Nat→List Oper→Bool
  | _,_,[]=>true
  | pre,ms,o::l=>o.after.toList.all (fun e=>!Region.binds .any e||Nat.blt e.on pre.length)&&(Hh (pQ ms o) o.dst (AU (mu ops o)) 0 (pre.map (OH ops))&&OI ops (pre++[o]) (ms++[pQ ms o]) l)
def HZ:List Oper→List Nat→List Nat
  | [],_=>[]
  | o::l,ms=>pQ ms o::HZ l (ms++[pQ ms o])
def H0(mask:Nat)(r':pP) :Nat→List pP→Bool
  | _,[]=>true
  | i,r::l=>(HW mask i||xQ r r')&&H0 mask r' (i+1) l
def D3(r:pP) :Bool:=match r.sets,r.reads with | [],[]=>true | _,_=>false
def Hi:List pP→Bool
  | []=>true
  | r::l=>match r.sets with | []=>Hi l | _=>false
def RT:List pP→List Nat→List pP→Bool
  | _,_,[]=>true
  | pre,m::ms,r::l=>(D3 r||H0 m r 0 pre)&&RT (pre++[r]) ms l
  | _,[],_=>false
def Cg(ops:Array Oper)(rs:List pP) :Bool :=
  OI ops [] [] ops.toList&&(Hi rs||RT [] (HZ ops.toList []) rs)
theorem RU:∀ (l:List Nat),AS l []=true
  | []=>rfl
  | x::l=>by simp [AS,VW,RU l]
theorem D4{r r':pP}(h:D3 r'=true) :xQ r r'=true:=by
  unfold D3 at h
  split at h
  · rename_i h1 h2;simp [xQ,h1,h2,iO,AS,RU]
  · cases h
theorem Fg:∀ {l:List pP},Hi l=true→∀ r∈l,r.sets=[]
  | x::l,h,r,hr=>by
    simp only [Hi] at h
    split at h
    · rename_i hx
      rcases List.mem_cons.1 hr with rfl | hr
      · exact hx
      · exact Fg h r hr
    · cases h
theorem H3{r r':pP}(h:r.sets=[])(h':r'.sets=[]) :xQ r r'=true:=by simp [xQ,h,h',iO,AS]
theorem Fh{ops:Array Oper}{mask:Nat}{o':Oper}{r':pP} :∀ {l:List Oper} {rs:List pP} {i:Nat},Hh mask o'.dst (AU (mu ops o')) i (l.map (OH ops))=true→(∀ k r,rs[k]? = some r→HW mask (i+k)=true∨xQ r r'=true)→nQ ops mask o' r' i (l.zip rs)=true
  | [],_,_,_,_=>by simp [nQ]
  | _::_,[],_,_,_=>by simp [nQ]
  | o::l,r::rs,i,h,hd=>by
    simp only [List.map_cons,Hh,Bool.and_eq_true,Bool.or_eq_true,OH] at h
    simp only [List.zip_cons_cons,nQ,Bool.and_eq_true,Bool.or_eq_true]
    refine ⟨?_,Fh h.2 fun k r hk=>?_⟩
    · have:=hd 0 r rfl
      rw [Nat.add_zero] at this
      rcases this with q | q
      · left;rw [←zi];exact q
      · rcases h.1 with q' | q'
        · left;rw [←zi];exact q'
        · right
          simp only [xQ,Bool.and_eq_true] at q
          simp only [nP,Bool.and_eq_true]
          exact ⟨HY q'.1,HY q'.2,q.1,q.2⟩
    · have:=hd (k+1) r (by simpa using hk)
      rwa [show i+(k+1)=i+1+k from by omega] at this
theorem H4{mask:Nat}{r':pP} :∀ {l:List pP} {i:Nat},H0 mask r' i l=true→∀ k r,l[k]? = some r→HW mask (i+k)=true∨xQ r r'=true
  | [],_,_,k,r,h=>by simp at h
  | x::l,i,h,0,r,hr=>by
    simp only [H0,Bool.and_eq_true,Bool.or_eq_true] at h
    simp at hr;subst hr;simpa using h.1
  | x::l,i,h,k+1,r,hr=>by
    simp only [H0,Bool.and_eq_true,Bool.or_eq_true] at h
    have:=H4 h.2 k r (by simpa using hr)
    rwa [show i+1+k=i+(k+1) from by omega] at this
theorem Nd{ops:Array Oper} :∀ (l pre:List Oper) (rs prs:List pP) (ms:List Nat),pre.length=prs.length→l.length=rs.length→OI ops pre ms l=true →
    ((∀ r∈prs++rs,r.sets=[])∨RT prs (HZ l ms) rs=true)→AT ops (pre.zip prs) ms (l.zip rs)=true
  | [],_,_,_,_,_,_,_,_=>by simp [AT]
  | _::_,_,[],_,_,_,h,_,_=>by simp at h
  | o::l,pre,r::rs,prs,ms,hp,hl,hs,hd=>by
    simp only [OI,Bool.and_eq_true] at hs
    obtain ⟨h1,h2,h3⟩:=hs
    simp only [List.zip_cons_cons,AT,Bool.and_eq_true]
    have hz:(pre.zip prs).length=pre.length:=by simp [hp]
    have hap:(pre.zip prs)++[(o,r)]=(pre++[o]).zip (prs++[r]):=by rw [List.zip_append hp];rfl
    refine ⟨by rw [hz];exact h1,Fh h2 fun k x hk=>?_,?_⟩
    · rcases hd with hd | hd
      · exact .inr (H3 (hd x (by simp [List.mem_of_getElem? hk])) (hd r (by simp)))
      · simp only [HZ,RT,Bool.and_eq_true,Bool.or_eq_true] at hd
        rcases hd.1 with q | q
        · exact .inr (D4 q)
        · exact H4 q k x hk
    · rw [hap]
      refine Nd l (pre++[o]) rs (prs++[r]) _ (by simp [hp]) (by simpa using hl) h3 ?_
      rcases hd with hd | hd
      · left;simpa using hd
      · right
        simp only [HZ,RT,Bool.and_eq_true] at hd
        exact hd.2
theorem RV{ops:Array Oper}{rs:List pP}(hl:rs.length=ops.toList.length)(h:Cg ops rs=true) :AT ops [] [] (ops.toList.zip rs)=true:=by
  simp only [Cg,Bool.and_eq_true,Bool.or_eq_true] at h
  exact Nd ops.toList [] rs [] [] rfl hl.symm h.1 (h.2.imp (fun q=>by simpa using Fg q) id)
theorem VX{l:List Operand}{t:Nat}(h:Operand.tmp t∈l) :t∈VV l:=by
  simp only [VV,List.mem_filterMap];exact ⟨_,h,rfl⟩
theorem RW{C:uR}{run:ev}{ops:Array Oper}{n0 i:Nat}{o:Oper}{T T':List AV}{h h':bC}{p p':dQ}{r:pP}{obs:List Bool}(hr:Cb C run ops n0 i o T h p=some (r,obs,p')) 
    (hT:∀ t∈mu ops o,T'[t]? = T[t]?) (hh:∀ b∈r.reads,bf h' b=bf h b):Cb C run ops n0 i o T' h' p=some (r,obs,p'):=by
  have hw:vx ops o T'=vx ops o T:=by
    unfold vx
    simp only [NZ]
    cases hg:o.guard with
    | none=>rfl
    | some x =>
      obtain ⟨j,want⟩:=x
      simp only
      cases hs:zf ops j with
      | none=>rfl
      | some d=>simp only;rw [hT d (by simp [mu,hg,hs])]
  unfold Cb at hr ⊢
  simp only [aao] at hr ⊢
  rw [hw]
  split at hr
  · cases hr
  · exact hr
  · split at hr
    · cases hr
    · rename_i r' hop
      have:VO C run (ZX T') (bf h') (n0+i*qv) p o.op=some r':=by
        refine Y6 hop (fun x hx=>?_) (fun b hb=>?_)
        · cases x with
          | tmp t=>simp only [ZX,NY];rw [hT t (by simp only [mu,List.mem_append];exact .inr (.inl (VX (by simpa using hx))))]
          | _=>rfl
        · apply hh
          split at hr
          · cases hr
          · simp only [Option.some.injEq,Prod.mk.injEq] at hr;rw [←hr.1];exact hb
      simp only [this]
      exact hr
def H5(C:uR)(run:ev)(ops:Array Oper)(n0:Nat) :Nat→List Oper→List AV→bC→dQ→Option (List pP×List AV×bC×List Bool×dQ)
  | _,[],T,h,p=>some ([],T,h,[],p)
  | i,o::l,T,h,p =>
    match Cb C run ops n0 i o T h p with
    | none=>none
    | some (r,obs,p') =>
      match H5 C run ops n0 (i+1) l (AQ T o.dst r.v) (cu r.sets h) p' with
      | none=>none
      | some (rs,T',h',obs',p'')=>some (r::rs,T',h',obs++obs',p'')
theorem Fi{C:uR}{run:ev}{ops:Array Oper}{n0:Nat} :∀ (l:List Oper) (i:Nat) {T T':List AV} {h h':bC} {p p':dQ} {obs:List Bool} {rs:List pP},H5 C run ops n0 i l T h p=some (rs,T',h',obs,p')→ay obs →
    rs.length=l.length∧cF (l.zip rs) (T,h)=(T',h')∧∀ (j:Nat) (o:Oper),l[j]? = some o→∃ r obs' q q',rs[j]? = some r∧ay obs' ∧
      Cb C run ops n0 (i+j) o (cF ((l.zip rs).take j) (T,h)).1 (cF ((l.zip rs).take j) (T,h)).2 q=some (r,obs',q')
  | [],i,T,T',h,h',p,p',obs,rs,hr,_=>by
    simp only [H5,Option.some.injEq,Prod.mk.injEq] at hr;obtain ⟨rfl,rfl,rfl,rfl,rfl⟩:=hr
    exact ⟨rfl,rfl,fun j o h=>by simp at h⟩
  | o::l,i,T,T',h,h',p,p',obs,rs,hr,ho=>by
    simp only [H5] at hr
    split at hr
    case h_1=>cases hr
    rename_i r obs1 p1 h1
    split at hr
    case h_1=>cases hr
    rename_i rs2 T2 h2 obs2 p2 h3
    simp only [Option.some.injEq,Prod.mk.injEq] at hr;obtain ⟨rfl,rfl,rfl,rfl,rfl⟩:=hr
    rw [be] at ho
    obtain ⟨a1,a2,a3⟩:=Fi l (i+1) h3 ho.2
    refine ⟨by simp [a1],by simpa [cF] using a2,fun j o' hj=>?_⟩
    cases j with
    | zero=>simp at hj;subst hj;exact ⟨r,obs1,p,p1,by simp,ho.1,by simpa [cF] using h1⟩
    | succ j =>
      obtain ⟨r',ob,q,q',b1,b2,b3⟩:=a3 j o' (by simpa using hj)
      refine ⟨r',ob,q,q',by simpa using b1,b2,?_⟩
      rw [show i+(j+1)=i+1+j from by omega]
      simpa [cF] using b3
theorem Nf{p q:Nat→Bool} :∀ {l:List Nat} {j:Nat},j∈l→p j=true→q j=false→(∀ i,q i=true→p i=true)→l.countP q<l.countP p
  | [],_,h,_,_,_=>by cases h
  | x::l,j,h,hp,hq,hi=>by
    have mono:∀ l:List Nat,l.countP q≤l.countP p:=fun l=>List.countP_mono_left fun x _=>hi x
    simp only [List.countP_cons]
    rcases List.mem_cons.1 h with rfl | h
    · rw [hp,hq];have:=mono l;simp;omega
    · have:=Nf h hp hq hi
      by_cases hx:q x=true
      · rw [hx,hi x hx];omega
      · have hq':q x=false:=by simpa using hx
        rw [hq'];simp only [Bool.false_eq_true,if_false];split<;>omega
theorem abQ{i j y:Nat}(h1:i*qv≤y)(h2:y<i*qv+qv)(h3:j*qv≤y)(h4:y<j*qv+qv) :i=j:=by
  have hS:0<qv:=by decide
  have a:y/qv=i:=by rw [Nat.div_eq_iff hS];omega
  have b:y/qv=j:=by rw [Nat.div_eq_iff hS];omega
  omega
theorem aaq{C:uR}(hC:C.Ok){run:ev}(hrun:HK C.P run){ops:Array Oper}{n0:Nat}{T0:List AV}{h0:bC}{rs:List pP}{ms:List Nat}(D:aap ops (ops.toList.zip rs) ms)(hlen:rs.length=ops.size) 
    (each:∀ (j:Nat) (o:Oper),ops.toList[j]? = some o→∃ r obs' q q',rs[j]? = some r∧ay obs' ∧
      Cb C run ops n0 j o (cF ((ops.toList.zip rs).take j) (T0,h0)).1 (cF ((ops.toList.zip rs).take j) (T0,h0)).2 q=some (r,obs',q'))
    {ro:Option Nat} {nn:Nat} {Q:Exit→Act→World→Prop}:∀ (fuel:Nat) (listed:Array Bool),listed.size=ops.size→(∀ (j:Nat) (o:Oper),ops[j]? = some o→listed.getD j false=true→∀ e∈o.after,Region.binds .any e=true→listed.getD e.on false=true) →
      (List.range ops.size).countP (fun i=>!listed.getD i false)≤fuel→∀ {ρ:ae} {w:World} {a:Act},HR ρ w (nC (fun i=>listed.getD i false) 0 (ops.toList.zip rs) (T0,h0)).2 (n0+ops.size*qv) →
      (∀ b,ρ.ok b→b<n0∨∃ i,listed.getD i false=true∧n0+i*qv≤b∧b<n0+i*qv+qv)→cv ρ w (nC (fun i=>listed.getD i false) 0 (ops.toList.zip rs) (T0,h0)).1 a.tmps.toList →
      (∀ ρ' w' a',jZ ρ ρ' w→gO ρ.live w w'→HR ρ' w' (cF (ops.toList.zip rs) (T0,h0)).2 (n0+ops.size*qv)→a'.defers=a.defers→cv ρ' w' (cF (ops.toList.zip rs) (T0,h0)).1 a'.tmps.toList→(∀ b,ρ'.ok b→ρ.ok b∨n0≤b)→Q .normal a' w') →
      wpAnyIn (FW ro) nn C.P .any ops Q fuel listed a w:=by
  have hzl:(ops.toList.zip rs).length=ops.size:=by simp [hlen]
  have zget:∀ (j:Nat) (o:Oper) (r:pP),ops[j]? = some o→rs[j]? = some r→(ops.toList.zip rs)[j]? = some (o,r):=by
    intro j o r h1 h2
    rw [List.getElem?_zip_eq_some];exact ⟨by simpa using h1,h2⟩
  have zinv:∀ (j:Nat) (x:Oper×pP),(ops.toList.zip rs)[j]? = some x→ops[j]? = some x.1∧rs[j]? = some x.2:=by
    intro j x hx
    have:=List.getElem?_zip_eq_some.1 (show (ops.toList.zip rs)[j]? = some (x.1,x.2) from hx)
    exact ⟨by simpa using this.1,this.2⟩

  have allL:∀ (listed:Array Bool),listed.size=ops.size→(∀ i,i<ops.size→listed.getD i false=true)→nC (fun i=>listed.getD i false) 0 (ops.toList.zip rs) (T0,h0)=cF (ops.toList.zip rs) (T0,h0):=by
    intro listed hs hall
    have:∀ (l:List (Oper×pP)) (i:Nat) (s:List AV×bC),i+l.length≤ops.size→nC (fun i=>listed.getD i false) i l s=cF l s:=by
      intro l
      induction l with
      | nil=>intro _ _ _;rfl
      | cons x l ih =>
        intro i s hi
        simp only [List.length_cons] at hi
        simp only [nC,cF]
        rw [hall i (by omega)]
        exact ih (i+1) _ (by omega)
    exact this _ 0 _ (by rw [hzl];omega)

  have down:∀ (listed:Array Bool),(∀ (j:Nat) (o:Oper),ops[j]? = some o→listed.getD j false=true→∀ e∈o.after,Region.binds .any e=true→listed.getD e.on false=true) →
      ∀ (j:Nat) (o:Oper),ops[j]? = some o→(∀ e∈o.after,Region.binds .any e=true→listed.getD e.on false=true)→∀ (i m:Nat),ms[j]? = some m→m.testBit i=true→listed.getD i false=true:=by
    intro listed hcl j
    induction j using Nat.strongRecOn with
    | _ j ih =>
      intro o ho hpre i m hm hbit
      have hlt:j<ops.size:=(Array.getElem?_eq_some_iff.1 ho).1
      obtain ⟨r,hr⟩:∃ r,rs[j]? = some r:=⟨rs[j]'(by omega),List.getElem?_eq_getElem (by omega)⟩
      have hz:=zget j o r ho hr
      obtain ⟨m',k1,k2⟩:=D.mask j _ hz
      rw [hm] at k1;cases k1
      obtain ⟨e,e1,e2,e3⟩:=k2 i hbit
      have hL:=hpre e e1 e2
      rcases e3 with rfl | ⟨m'',q1,q2⟩
      · exact hL
      · have hej:=D.edge j _ hz e e1 e2
        have hon:e.on<ops.size:=by omega
        exact ih e.on hej _ (Array.getElem?_eq_getElem hon) (hcl e.on _ (Array.getElem?_eq_getElem hon) hL) i m'' q1 q2
  intro fuel
  induction fuel with
  | zero =>
    intro listed hs hcl hcnt ρ w a hh hok hT hQ
    have hall:∀ i,i<ops.size→listed.getD i false=true:=by
      intro i hi
      have h0:=List.countP_eq_zero.1 (Nat.le_zero.1 hcnt) i (List.mem_range.2 hi)
      simpa using h0
    simp only [wpAnyIn]
    refine ⟨?_,?_⟩
    · cases hr:Region.ready .any ops listed with
      | nil=>rfl
      | cons x xs =>
        have hx:x∈Region.ready .any ops listed:=by rw [hr];simp
        obtain ⟨k1,o,k2,_⟩:=mem_ready.1 hx
        have hlt:x<ops.size:=(Array.getElem?_eq_some_iff.1 k2).1
        have:=hall x hlt
        rw [Array.getD_eq_getD_getElem?,Array.getElem?_eq_getElem (by omega)] at this k1
        simp only [Option.getD_some] at this k1
        rw [this] at k1;cases k1
    · rw [allL listed hs hall] at hh hT
      exact hQ ρ w a (jZ.refl _ _) (gO.refl _ _) hh rfl hT (fun b q=>.inl q)
  | succ fuel ih =>
    intro listed hs hcl hcnt ρ w a hh hok hT hQ
    simp only [wpAnyIn]
    have sameD:∀ j,j<ops.size→listed.getD j true=listed.getD j false:=by
      intro j hj
      rw [Array.getD_eq_getD_getElem?,Array.getD_eq_getD_getElem?,Array.getElem?_eq_getElem (by omega)];rfl
    refine ⟨fun hr=>?_,fun j hj=>?_⟩
    · have hall:∀ i,i<ops.size→listed.getD i false=true:=by
        intro i
        induction i using Nat.strongRecOn with
        | _ i ihi =>
          intro hi
          cases hl:listed.getD i false with
          | true=>rfl
          | false =>
            have ho:=Array.getElem?_eq_getElem hi
            obtain ⟨r,hrr⟩:∃ r,rs[i]? = some r:=⟨rs[i]'(by omega),List.getElem?_eq_getElem (by omega)⟩
            have hz:=zget i _ r ho hrr
            have:i∈Region.ready .any ops listed:=mem_ready.2 ⟨by rw [sameD i hi];exact hl,_,ho,fun e he hb=>ihi e.on (D.edge i _ hz e he hb) (by have:=D.edge i _ hz e he hb;omega)⟩
            rw [hr] at this;cases this
      rw [allL listed hs hall] at hh hT
      exact hQ ρ w a (jZ.refl _ _) (gO.refl _ _) hh rfl hT (fun b q=>.inl q)
    · obtain ⟨k1,o,ho,hpre⟩:=mem_ready.1 hj
      have hlt:j<ops.size:=(Array.getElem?_eq_some_iff.1 ho).1
      rw [sameD j hlt] at k1
      obtain ⟨r,obs',q,q',hr,hob,hone⟩:=each j o (by simpa using ho)
      have hz:=zget j o r ho hr

      have agree:∀ (i:Nat) (x:Oper×pP),(ops.toList.zip rs)[i]? = some x→i≠j→nP ops x.1 x.2 o r=false→nP ops o r x.1 x.2=false→listed.getD i false=decide (i<j):=by
        intro i x hx hne n1 n2
        have hxi:=zinv i x hx
        rcases Nat.lt_or_gt_of_ne hne with hij | hij
        · rcases D.pair i j x (o,r) hx hz hij with ⟨m,hm,hb⟩ | hap
          · rw [down listed hcl j o ho hpre i m hm hb];simp [hij]
          · simp only at hap;rw [n1] at hap;cases hap
        · rcases D.pair j i (o,r) x hz hx hij with ⟨m,hm,hb⟩ | hap
          · have : ¬ i<j:=by omega
            simp only [this,decide_false]
            cases hl:listed.getD i false with
            | false=>rfl
            | true =>
              have:=down listed hcl i x.1 hxi.1 (hcl i x.1 hxi.1 hl) j m hm hb
              rw [k1] at this;cases this
          · simp only at hap;rw [n2] at hap;cases hap
      have napT:∀ (x:Oper×pP) (t:Nat),x.1.dst=some t→t∈mu ops o→nP ops x.1 x.2 o r=false∧nP ops o r x.1 x.2=false:=by
        intro x t hdst ht
        constructor
        · cases hap:nP ops x.1 x.2 o r with
          | false=>rfl
          | true=>simp only [nP,Bool.and_eq_true] at hap;exact (zh hap.1 t (by simp [hdst]) ht).elim
        · cases hap:nP ops o r x.1 x.2 with
          | false=>rfl
          | true=>simp only [nP,Bool.and_eq_true] at hap;exact (zh hap.2.1 t (by simp [hdst]) ht).elim
      have napH:∀ (x:Oper×pP) (b:Nat),b∈iO x.2.sets→b∈r.reads++iO r.sets→nP ops x.1 x.2 o r=false∧nP ops o r x.1 x.2=false:=by
        intro x b hx hb
        constructor
        · cases hap:nP ops x.1 x.2 o r with
          | false=>rfl
          | true=>simp only [nP,Bool.and_eq_true] at hap;exact (zh hap.2.2.1 b hx hb).elim
        · cases hap:nP ops o r x.1 x.2 with
          | false=>rfl
          | true=>simp only [nP,Bool.and_eq_true] at hap;exact (zh hap.2.2.2 b hx hb).elim
      have eqT:∀ t∈mu ops o,(nC (fun i=>listed.getD i false) 0 (ops.toList.zip rs) (T0,h0)).1[t]? = (cF ((ops.toList.zip rs).take j) (T0,h0)).1[t]?:=by
        intro t ht
        have:=Hg (ops.toList.zip rs) 0 j (T0,h0)
        rw [←this]
        refine OF _ 0 (fun k x hx hdst=>?_) rfl
        rw [Nat.zero_add,Nat.zero_add]
        by_cases hkj:k=j
        · subst hkj;rw [k1];simp
        · obtain ⟨n1,n2⟩:=napT x t hdst ht;exact agree k x hx hkj n1 n2
      have eqH:∀ b∈r.reads++iO r.sets,bf (nC (fun i=>listed.getD i false) 0 (ops.toList.zip rs) (T0,h0)).2 b=bf (cF ((ops.toList.zip rs).take j) (T0,h0)).2 b:=by
        intro b hb
        have:=Hg (ops.toList.zip rs) 0 j (T0,h0)
        rw [←this]
        refine OG _ 0 (fun k x hx fM=>?_) rfl
        rw [Nat.zero_add,Nat.zero_add]
        by_cases hkj:k=j
        · subst hkj;rw [k1];simp
        · obtain ⟨n1,n2⟩:=napH x b fM hb;exact agree k x hx hkj n1 n2
      have hloc:=RW hone eqT (fun b hb=>eqH b (by simp [hb]))

      have L'eq:∀ i,(listed.setIfInBounds j true).getD i false=if i=j then true else listed.getD i false:=by
        intro i
        by_cases hij:i=j
        · subst hij;rw [if_pos rfl,Array.getD_eq_getD_getElem?];simp [hs,hlt]
        · rw [if_neg hij];exact getD_set_ne false (fun e=>hij e.symm)
      have step1:=Hg (ops.toList.zip rs) 0 (j+1) (T0,h0)
      have hsplit:cF ((ops.toList.zip rs).take (j+1)) (T0,h0)=(AQ (cF ((ops.toList.zip rs).take j) (T0,h0)).1 o.dst r.v,cu r.sets (cF ((ops.toList.zip rs).take j) (T0,h0)).2):=by
        have hjl:j<(ops.toList.zip rs).length:=by rw [hzl];exact hlt
        have:(ops.toList.zip rs).take (j+1)=(ops.toList.zip rs).take j++[(o,r)]:=by
          rw [List.take_succ_eq_append_getElem hjl]
          have:=List.getElem?_eq_getElem hjl
          rw [hz] at this
          rw [←Option.some.inj this]
        rw [this,HU];rfl
      have newT:∀ t:Nat,(AQ (nC (fun i=>listed.getD i false) 0 (ops.toList.zip rs) (T0,h0)).1 o.dst r.v)[t]? = (nC (fun i=>(listed.setIfInBounds j true).getD i false) 0 (ops.toList.zip rs) (T0,h0)).1[t]?:=by
        intro t
        rw [Cf]
        by_cases hdst:o.dst=some t
        · rw [if_pos hdst]
          have e1:=eqT t (by simp [mu,hdst])
          rw [e1]
          have e2:(nC (fun i=>(listed.setIfInBounds j true).getD i false) 0 (ops.toList.zip rs) (T0,h0)).1[t]? = (cF ((ops.toList.zip rs).take (j+1)) (T0,h0)).1[t]?:=by
            rw [←step1]
            refine OF _ 0 (fun k x hx hd2=>?_) rfl
            rw [Nat.zero_add,Nat.zero_add,L'eq]
            by_cases hkj:k=j
            · subst hkj;simp
            · rw [if_neg hkj]
              obtain ⟨n1,n2⟩:=napT x t hd2 (by simp [mu,hdst])
              rw [agree k x hx hkj n1 n2]
              by_cases q:k<j<;>simp [q]<;>omega
          rw [e2,hsplit,Cf,if_pos hdst]
        · rw [if_neg hdst]
          refine OF _ 0 (fun k x hx hd2=>?_) rfl
          rw [Nat.zero_add,L'eq]
          by_cases hkj:k=j
          · subst hkj;rw [hz] at hx;cases hx;exact absurd hd2 hdst
          · rw [if_neg hkj]
      have newH:∀ b:Nat,bf (nC (fun i=>(listed.setIfInBounds j true).getD i false) 0 (ops.toList.zip rs) (T0,h0)).2 b=bf (cu r.sets (nC (fun i=>listed.getD i false) 0 (ops.toList.zip rs) (T0,h0)).2) b:=by
        intro b
        by_cases hb:b∈iO r.sets
        · rw [pR (h:=(nC (fun i=>listed.getD i false) 0 (ops.toList.zip rs) (T0,h0)).2) (h':=(cF ((ops.toList.zip rs).take j) (T0,h0)).2) r.sets (eqH b (by simp [hb]))]
          have e2:bf (nC (fun i=>(listed.setIfInBounds j true).getD i false) 0 (ops.toList.zip rs) (T0,h0)).2 b=bf (cF ((ops.toList.zip rs).take (j+1)) (T0,h0)).2 b:=by
            rw [←step1]
            refine OG _ 0 (fun k x hx hd2=>?_) rfl
            rw [Nat.zero_add,Nat.zero_add,L'eq]
            by_cases hkj:k=j
            · subst hkj;simp
            · rw [if_neg hkj]
              obtain ⟨n1,n2⟩:=napH x b hd2 (by simp [hb])
              rw [agree k x hx hkj n1 n2]
              by_cases q:k<j<;>simp [q]<;>omega
          rw [e2,hsplit]
        · rw [pS _ hb]
          refine OG _ 0 (fun k x hx hd2=>?_) rfl
          rw [Nat.zero_add,L'eq]
          by_cases hkj:k=j
          · subst hkj;rw [hz] at hx;cases hx;exact absurd hd2 hb
          · rw [if_neg hkj]
      have hS:j*qv+qv≤ops.size*qv:=by rw [←Nat.succ_mul];exact Nat.mul_le_mul_right _ hlt
      refine Fe hC hrun ho hloc hob hh (fun x h1 h2 hbad=>?_) (by omega) hT ?_
      · rcases hok _ hbad with q | ⟨i,q1,q2,q3⟩
        · omega
        · have:i=j:=abQ (y:=x-n0) (by omega) (by omega) (by omega) (by omega)
          subst this;rw [k1] at q1;cases q1
      intro ρ' w' a' E W hh' hd' hT' hok'
      have hlist:AQ (nC (fun i=>listed.getD i false) 0 (ops.toList.zip rs) (T0,h0)).1 o.dst r.v=(nC (fun i=>(listed.setIfInBounds j true).getD i false) 0 (ops.toList.zip rs) (T0,h0)).1:=List.ext_getElem? newT
      rw [hlist] at hT'
      refine ih (listed.setIfInBounds j true) (by simpa using hs) (fun i x hx hl e he hb=>?_) ?_ (hh'.congr newH) (fun b hb=>?_) hT' ?_
      · rw [L'eq] at hl ⊢
        by_cases hij:i=j
        · subst hij
          rw [ho] at hx;cases hx
          split
          · rfl
          · exact hpre e he hb
        · rw [if_neg hij] at hl
          split
          · rfl
          · exact hcl i x hx hl e he hb
      · have:=Nf (l:=List.range ops.size) (j:=j) (p:=fun i=>!listed.getD i false) (q:=fun i=>!(listed.setIfInBounds j true).getD i false) (List.mem_range.2 hlt) (by simp only [k1];rfl) (by simp only [L'eq,if_true];rfl)
          (fun i hi=>by
            simp only [L'eq] at hi ⊢
            split at hi
            · cases hi
            · exact hi)
        omega
      · rcases hok' b hb with q | q
        · rcases hok b q with q | ⟨i,q1,q2⟩
          · exact .inl q
          · refine .inr ⟨i,?_,q2⟩
            rw [L'eq];split
            · rfl
            · exact q1
        · exact .inr ⟨j,by rw [L'eq,if_pos rfl],q⟩
      · intro ρ'' w'' a'' E' W' hh'' hd'' hT'' hb''
        exact hQ ρ'' w'' a'' (E.trans E' W.size) (W.trans W' (fun x hx q=>E.new x hx q)) hh'' (hd''.trans hd') hT'' (fun b q=>by
          rcases hb'' b q with q | q
          · rcases hok' b q with q | q
            · exact .inl q
            · exact .inr (by omega)
          · exact .inr q)
theorem uo{d:aB}(h:d.kept=true) :d.foreign=true:=by
  cases d<;>first | rfl | exact fZ h
mutual
def Ng (g:Nat→Option aB):Nat→AV→AV
  | 0,_=>.any
  | n+1,v =>
    match v with
    | .ptr b w i j=>match g b with
      | some d=>let d':=xR g n d;bif d'.kept then .iptr .free d' w i j else .any
      | none=>.any
    | .sl b w es i len _=>match g b with
      | some d=>let d':=xR g n d;bif d'.kept then .imm .free d' w es i len else .any
      | none=>.any
    | .fn f l1 l2=>.fn f (H6 g n l1) (H6 g n l2)
    | .agg l=>.agg (H6 g n l)
    | .tup l=>.tup (H6 g n l)
    | .iface t v=>.iface t (Ng g n v)
    | .yld _=>.any
    | v=>v
def H6 (g:Nat→Option aB):Nat→List AV→List AV
  | 0,l=>l.map fun _=>.any
  | n+1,l =>
    match l with
    | []=>[]
    | v::l=>Ng g n v::H6 g n l
def xR (g:Nat→Option aB):Nat→aB→aB
  | 0,_=>.vs []
  | n+1,d =>
    match d with
    | .vs l=>.vs (H6 g n l)
    | d=>d
end
theorem H7(g:Nat→Option aB)(n:Nat)(d:aB)(h:d.recKept) :(xR g n d).recKept:=by
  cases n with
  | zero=>trivial
  | succ n=>cases d<;>first | exact h | trivial
structure Y7 (ρ τ:ae):Prop where
  out:τ.out=ρ.out
  live:∀ bl,τ.live bl→ρ.live bl
theorem Y7.avoid{ρ τ:ae}(L:Y7 ρ τ){l:Lv}{bl:Nat}(h:ρ.avoid l bl) :τ.avoid l bl:=by
  refine vf (d:=0) (fun j _ q=>?_) h
  cases j with
  | zero=>exact L.live bl q
  | succ j=>simp only [Nat.add_zero,ae.own] at q ⊢;rw [L.out] at q;exact q
theorem eC{ρ τ:ae}(L:Y7 ρ τ){w:World}{v:AV}{u:Value}(h:VR ρ w v u) :v.foreign=true→VR τ w v u:=by
  induction h using VR.rec (motive_2:=fun l c _=>bB l=true→cv τ w l c) with
  | int k n=>exact fun _=>.int k n
  | bool kn b=>exact fun _=>.bool kn b
  | flt ex x y h=>exact fun _=>.flt ex x y h
  | str s=>exact fun _=>.str s
  | nptr=>exact fun _=>.nptr
  | ptr b k i j hb=>intro hk;simp [AV.foreign] at hk
  | iptr bw d k i j bl o u ha hb hc hv hr hk hg ih=>exact fun _=>.iptr bw d k i j bl o u (L.avoid ha) hb hc (fun x v hx=>ih x v hx (aV hr hg x v hx)) hr hk hg
  | nsl=>exact fun _=>.nsl
  | esl a=>exact fun _=>.esl a
  | zsl a c=>exact fun _=>.zsl a c
  | nan n h=>exact fun _=>.nan n h
  | sl b k es i len cap cap' hb hcap hl c t hh hs=>intro hk;simp [AV.foreign] at hk
  | slEnd b k es i a=>intro hk;simp [AV.foreign] at hk
  | imm bw d k es i len cap bl o u ha hb hc hv hl hr hk hg ih=>exact fun _=>.imm bw d k es i len cap bl o u (L.avoid ha) hb hc (fun x v hx=>ih x v hx (aV hr hg x v hx)) hl hr hk hg
  | immEnd bw d k es i cap a hr hk hg=>exact fun _=>.immEnd bw d k es i cap a hr hk hg
  | fn f l1 l2 c1 c2 h1 h2 i1 i2=>intro hk;simp only [AV.foreign,Bool.and_eq_true] at hk;exact .fn f l1 l2 c1 c2 (i1 hk.1) (i2 hk.2)
  | nfn=>exact fun _=>.nfn
  | gmap ks vs bl es cl u ha hb hh hin hex hv hl hk ih=>exact fun _=>.gmap ks vs bl es cl u (L.avoid ha) hb hh hin hex (fun x v hx=>ih x v hx (gh (nw hk x v hx))) hl hk
  | gvar c bl t fr ha hb hh=>exact fun _=>.gvar c bl t fr (L.avoid ha) hb hh
  | agg l c h ih=>intro hk;exact .agg l c (ih hk)
  | tup l c h ih=>intro hk;exact .tup l c (ih hk)
  | iface t v u h ih=>intro hk;exact .iface t v u (ih hk)
  | niface=>exact fun _=>.niface
  | yld b L h=>intro hk;simp [AV.foreign] at hk
  | any u=>exact fun _=>.any u
  | nil=>exact cv.nil
  | cons v u l c h t i1 i2=>rename_i hk;simp only [bB,Bool.and_eq_true] at hk;exact cv.cons v u l c (i1 hk.1) (i2 hk.2)
mutual
theorem OJ {ρ τ:ae} (L:Y7 ρ τ) {w:World} {h:bC} {m:Nat} (hh:HR ρ w h m) (off:∀ b d,bf h b=some d→ρ.ok b→¬ τ.live (ρ.at_ b)):∀ (n:Nat) {v:AV} {u:Value},VR ρ w v u→VR τ w (Ng (bf h) n v) u
  | 0,v,u,hv=>.any u
  | n + 1, v, u, hv => by
    have free:∀ (b:Nat) (d:aB),bf h b=some d→ρ.ok b→τ.avoid .free (ρ.at_ b):=by
      intro b d hd hok j _
      cases j with
      | zero=>exact off b d hd hok
      | succ j=>simp only [ae.own];rw [L.out];exact hh.fresh _ (hh.real hd hok).1 j
    have content:∀ (b:Nat) (d:aB),bf h b=some d→ρ.ok b→∀ x v,(xR (bf h) n d).cell? x=some v→w.cell? ⟨ρ.at_ b,0+x,none⟩=some ((w.cell? ⟨ρ.at_ b,x,none⟩).getD undef)∧VR τ w v ((w.cell? ⟨ρ.at_ b,x,none⟩).getD undef):=by
      intro b d hd hok x v hx
      obtain ⟨_,hrk,c,t,hc,hcv⟩:=hh.real hd hok
      obtain ⟨u,q1,q2⟩:=RX L hh off n (ρ.at_ b) (fun x v hx=>by
        obtain ⟨u,k1,k2⟩:=hcv x v hx
        exact ⟨u,by simp [World.cell?,hc,k1],k2⟩) hrk x v hx
      rw [Nat.zero_add,q1];exact ⟨rfl,q2⟩
    cases v with
    | ptr b k i j =>
      simp only [Ng]
      split
      · rename_i d hd
        have hrk:=hh.rk hd
        cases hk:(xR (bf h) n d).kept with
        | false=>exact .any _
        | true =>
          simp only [cond_true]
          cases hv with | ptr _ _ _ _ hb =>
          have:=VR.iptr (ρ:=τ) (w:=w) .free (xR (bf h) n d) k i j (ρ.at_ b) 0 (fun x=>(w.cell? ⟨ρ.at_ b,x,none⟩).getD undef) (free b d hd hb) (hh.liveLt _ (hh.real hd hb).1)
            (fun x v hx=>(content b d hd hb x v hx).1) (fun x v hx=>(content b d hd hb x v hx).2) (H7 _ _ _ hrk) (fun _=>hk) (uo hk)
          simpa using this
      · exact .any _
    | sl b k es i len cap =>
      simp only [Ng]
      split
      · rename_i d hd
        have hrk:=hh.rk hd
        cases hk:(xR (bf h) n d).kept with
        | false=>exact .any _
        | true =>
          simp only [cond_true]
          cases hv with
          | sl _ _ _ _ _ _ cap' hb hcap hl' c t hh' hs =>
            have:=VR.imm (ρ:=τ) (w:=w) .free (xR (bf h) n d) k es i len cap' (ρ.at_ b) 0 (fun x=>(w.cell? ⟨ρ.at_ b,x,none⟩).getD undef) (free b d hd hb) (hh.liveLt _ (hh.real hd hb).1)
              (fun x v hx=>(content b d hd hb x v hx).1) (fun x v hx=>(content b d hd hb x v hx).2) (by omega) (H7 _ _ _ hrk) (fun _=>hk) (uo hk)
            simpa using this
          | slEnd=>exact .immEnd _ _ _ _ _ _ _ (H7 _ _ _ hrk) (fun _=>hk) (uo hk)
      · exact .any _
    | fn f l1 l2=>cases hv with | fn _ _ _ _ _ h1 h2=>exact .fn _ _ _ _ _ (sD L hh off n h1) (sD L hh off n h2)
    | agg l=>cases hv with | agg _ _ h1=>exact .agg _ _ (sD L hh off n h1)
    | tup l=>cases hv with | tup _ _ h1=>exact .tup _ _ (sD L hh off n h1)
    | iface t v=>cases hv with | iface _ _ _ h1=>exact .iface _ _ _ (OJ L hh off n h1)
    | int=>exact eC L hv rfl
    | bool=>exact eC L hv rfl
    | flt=>exact eC L hv rfl
    | str=>exact eC L hv rfl
    | nptr=>exact eC L hv rfl
    | iptr=>exact eC L hv rfl
    | nsl=>exact eC L hv rfl
    | esl=>exact eC L hv rfl
    | zsl=>exact eC L hv rfl
    | nan=>exact eC L hv rfl
    | imm=>exact eC L hv rfl
    | nfn=>exact eC L hv rfl
    | gmap=>exact eC L hv rfl
    | gvar=>exact eC L hv rfl
    | niface=>exact eC L hv rfl
    | yld=>exact .any _
    | any=>exact .any _
theorem sD {ρ τ:ae} (L:Y7 ρ τ) {w:World} {h:bC} {m:Nat} (hh:HR ρ w h m) (off:∀ b d,bf h b=some d→ρ.ok b→¬ τ.live (ρ.at_ b)):∀ (n:Nat) {l:List AV} {c:List Value},cv ρ w l c→cv τ w (H6 (bf h) n l) c
  | 0,[],c,hv=>by cases hv;exact .nil
  | 0,v::l,c,hv=>by
    cases hv with | cons _ u _ c' h1 h2 =>
    have:=sD L hh off 0 h2
    exact .cons _ _ _ _ (.any u) this
  | n+1,[],c,hv=>by cases hv;exact .nil
  | n+1,v::l,c,hv=>by
    cases hv with | cons _ u _ c' h1 h2=>exact .cons _ _ _ _ (OJ L hh off n h1) (sD L hh off n h2)
theorem RX {ρ τ:ae} (L:Y7 ρ τ) {w:World} {h:bC} {m:Nat} (hh:HR ρ w h m) (off:∀ b d,bf h b=some d→ρ.ok b→¬ τ.live (ρ.at_ b)):∀ (n:Nat) (bl:Nat) {d:aB},(∀ x v,d.cell? x=some v→∃ u,w.cell? ⟨bl,x,none⟩=some u∧VR ρ w v u)→d.recKept →
    ∀ x v,(xR (bf h) n d).cell? x=some v→∃ u,w.cell? ⟨bl,x,none⟩=some u∧VR τ w v u
  | 0,bl,d,hc,hr,x,v,hx=>by simp [xR,aB.cell?] at hx
  | n + 1, bl, d, hc, hr, x, v, hx => by
    cases d with
    | vs l =>
      simp only [xR,aB.cell?] at hx
      have hus:cv ρ w l ((List.range l.length).map fun x=>(w.cell? ⟨bl,x,none⟩).getD undef):=by
        refine sy (by simp) fun y v u q1 q2=>?_
        obtain ⟨u',k1,k2⟩:=hc y v q1
        have hlt:y<l.length:=(List.getElem?_eq_some_iff.1 q1).1
        rw [List.getElem?_map,List.getElem?_range hlt] at q2
        simp [k1] at q2;subst q2;exact k2
      have hr2:=sD L hh off n hus
      obtain ⟨u,q1,q2⟩:=hr2.get x v hx
      rw [List.getElem?_map] at q1
      have hlt:x<l.length:=by
        rcases Nat.lt_or_ge x l.length with q | q
        · exact q
        · rw [List.getElem?_eq_none (by simpa using q)] at q1;cases q1
      rw [List.getElem?_range hlt] at q1
      obtain ⟨u',k1,_⟩:=hc x (l[x]) (List.getElem?_eq_getElem hlt)
      simp [k1] at q1;subst q1
      exact ⟨u',k1,q2⟩
    | fl xs=>obtain ⟨u,q1,q2⟩:=hc x v hx;exact ⟨u,q1,eC L q2 (aV (d:=.fl xs) hr rfl x v hx)⟩
    | ns k xs=>obtain ⟨u,q1,q2⟩:=hc x v hx;exact ⟨u,q1,eC L q2 (aV (d:=.ns k xs) hr rfl x v hx)⟩
    | bs xs=>obtain ⟨u,q1,q2⟩:=hc x v hx;exact ⟨u,q1,eC L q2 (aV (d:=.bs xs) hr rfl x v hx)⟩
    | ss xs=>obtain ⟨u,q1,q2⟩:=hc x v hx;exact ⟨u,q1,eC L q2 (aV (d:=.ss xs) hr rfl x v hx)⟩
    | rows k m get=>obtain ⟨u,q1,q2⟩:=hc x v hx;exact ⟨u,q1,eC L q2 (aV (d:=.rows k m get) hr rfl x v hx)⟩
    | cols k cs=>obtain ⟨u,q1,q2⟩:=hc x v hx;exact ⟨u,q1,eC L q2 (aV (d:=.cols k cs) hr rfl x v hx)⟩
end
mutual
def nmA (σ:Nat→Option Nat):AV→AV
  | .ptr b w i j=>match σ b with | some c=>.ptr c w i j | none=>.any
  | .sl b w es i len cap=>match σ b with | some c=>.sl c w es i len cap | none=>.any
  | .fn f l1 l2=>.fn f (ZY σ l1) (ZY σ l2)
  | .agg l=>.agg (ZY σ l)
  | .tup l=>.tup (ZY σ l)
  | .iface t v=>.iface t (nmA σ v)
  | .yld _=>.any
  | v=>v
def ZY (σ:Nat→Option Nat):List AV→List AV
  | []=>[]
  | v::l=>nmA σ v::ZY σ l
end
def ae.renamed(ρ:ae)(keep:List Nat) :ae :=
  { at_:=fun i=>ρ.at_ ((keep[i]?).getD 0),live:=ρ.live,out:=ρ.out,ok:=fun i=>∃ b,keep[i]? = some b∧ρ.ok b,pin:=ρ.pin }
mutual
theorem Nh {ρ:ae} {keep:List Nat} {w:World}:∀ (v:AV) {u:Value},VR ρ w v u→VR (ρ.renamed keep) w (nmA (kY keep 0) v) u
  | .ptr b k i j,u,h=>by
    simp only [nmA]
    split
    · rename_i c hc
      cases h with | ptr _ _ _ _ hb =>
      obtain ⟨_,hg⟩:=ze hc
      rw [Nat.sub_zero] at hg
      have:(ρ.renamed keep).at_ c=ρ.at_ b:=by simp [ae.renamed,hg]
      rw [←this];exact .ptr _ _ _ _ ⟨b,hg,hb⟩
    · exact .any u
  | .sl b k es i len cap,u,h=>by
    simp only [nmA]
    split
    · rename_i c hc
      obtain ⟨_,hg⟩:=ze hc
      rw [Nat.sub_zero] at hg
      have e:(ρ.renamed keep).at_ c=ρ.at_ b:=by simp [ae.renamed,hg]
      cases h with
      | sl _ _ _ _ _ _ cap' hb hcap hl ce t hh hs=>rw [←e] at hh ⊢;exact .sl _ _ _ _ _ _ _ ⟨b,hg,hb⟩ hcap hl ce t hh hs
      | slEnd=>exact .slEnd _ _ _ _ _
    · exact .any u
  | .fn f l1 l2,u,h=>by cases h with | fn _ _ _ _ _ h1 h2=>exact .fn _ _ _ _ _ (H8 l1 h1) (H8 l2 h2)
  | .agg l,u,h=>by cases h with | agg _ _ h1=>exact .agg _ _ (H8 l h1)
  | .tup l,u,h=>by cases h with | tup _ _ h1=>exact .tup _ _ (H8 l h1)
  | .iface t v,u,h=>by cases h with | iface _ _ _ h1=>exact .iface _ _ _ (Nh v h1)
  | .int ..,u,h=>eD h rfl
  | .bool ..,u,h=>eD h rfl
  | .flt ..,u,h=>eD h rfl
  | .str ..,u,h=>eD h rfl
  | .nptr,u,h=>eD h rfl
  | .iptr ..,u,h=>eD h rfl
  | .nsl,u,h=>eD h rfl
  | .esl,u,h=>eD h rfl
  | .zsl _,u,h=>eD h rfl
  | .nan,u,h=>eD h rfl
  | .imm ..,u,h=>eD h rfl
  | .nfn,u,h=>eD h rfl
  | .gmap ..,u,h=>eD h rfl
  | .gvar _,u,h=>eD h rfl
  | .niface,u,h=>eD h rfl
  | .yld _,u,h=>.any u
  | .any,u,h=>.any u
theorem H8 {ρ:ae} {keep:List Nat} {w:World}:∀ (l:List AV) {c:List Value},cv ρ w l c→cv (ρ.renamed keep) w (ZY (kY keep 0) l) c
  | [],c,h=>by cases h;exact .nil
  | v::l,c,h=>by cases h with | cons _ u _ c' h1 h2=>exact .cons _ _ _ _ (Nh v h1) (H8 l h2)
theorem eD {ρ:ae} {keep:List Nat} {w:World} {v:AV} {u:Value} (h:VR ρ w v u) (hf:v.foreign=true):VR (ρ.renamed keep) w v u :=
  eC (ρ:=ρ) (τ:=ρ.renamed keep) ⟨rfl,fun _ q=>q⟩ h hf
end
theorem jn.renamed{ρ:ae}{keep:List Nat}{w:World} :∀ {ds:List Deferred},jn ρ w ds→jn (ρ.renamed keep) w ds
  | [],h=>h
  | d::ds,⟨h1,h⟩=>⟨h1,jn.renamed h⟩
def reB(σ:Nat→Option Nat) :aB→aB
  | .vs l=>.vs (ZY σ l)
  | d=>d
theorem OK(σ:Nat→Option Nat) :∀ (l:List AV) (x:Nat),(ZY σ l)[x]? = (l[x]?).map (nmA σ)
  | [],x=>by simp [ZY]
  | v::l,0=>by simp [ZY]
  | v::l,x+1=>by simp [ZY,OK σ l x]
theorem aar{σ:Nat→Option Nat}{d:aB}(h:d.recKept) :(reB σ d).recKept:=by
  cases d<;>first | exact h | trivial
theorem RY{σ:Nat→Option Nat}{d:aB}{x:Nat}{v:AV}(h:(reB σ d).cell? x=some v)(hr:d.recKept) :∃ v',d.cell? x=some v'∧(v=nmA σ v'∨(v=v'∧v.foreign=true)):=by
  cases d with
  | vs l =>
    simp only [reB,aB.cell?,OK,Option.map_eq_some_iff] at h
    obtain ⟨v',h1,rfl⟩:=h
    exact ⟨v',h1,.inl rfl⟩
  | fl xs=>exact ⟨v,h,.inr ⟨rfl,aV (d:=.fl xs) hr rfl x v h⟩⟩
  | ns k xs=>exact ⟨v,h,.inr ⟨rfl,aV (d:=.ns k xs) hr rfl x v h⟩⟩
  | bs xs=>exact ⟨v,h,.inr ⟨rfl,aV (d:=.bs xs) hr rfl x v h⟩⟩
  | ss xs=>exact ⟨v,h,.inr ⟨rfl,aV (d:=.ss xs) hr rfl x v h⟩⟩
  | rows k m get=>exact ⟨v,h,.inr ⟨rfl,aV (d:=.rows k m get) hr rfl x v h⟩⟩
  | cols m cs=>exact ⟨v,h,.inr ⟨rfl,aV (d:=.cols m cs) hr rfl x v h⟩⟩
def Ye(k:Nat)(R:List Nat) :List Nat:=List.range k++R.filter fun b=>Nat.ble k b
theorem Y8{k i:Nat}{R:List Nat}(h:i<k) :(Ye k R)[i]? = some i:=by
  unfold Ye
  rw [List.getElem?_append_left (by simpa using h),List.getElem?_range h]
def qy(σ:Nat→Option Nat)(h:bC) :List Nat→List (Option aB)
  | []=>[]
  | b::l=>(bf h b).map (reB σ)::qy σ h l
theorem rJ(σ:Nat→Option Nat)(h:bC) :∀ (l:List Nat) (i:Nat),(qy σ h l)[i]? = (l[i]?).map fun b=>(bf h b).map (reB σ)
  | [],i=>by simp [qy]
  | b::l,0=>by simp [qy]
  | b::l,i+1=>by simp [qy,rJ σ h l i]
theorem qP(σ:Nat→Option Nat)(h:bC) :∀ (l:List Nat),(qy σ h l).length=l.length
  | []=>rfl
  | b::l=>by simp [qy,qP σ h l]
def H9(k:Nat)(keep:Bool)(h:bC)(v:AV) :Option gd :=
  match keep,k with
  | true,0=>some ⟨Ng (bf h) gP v,[]⟩
  | _,_ =>
    let L:=Ye k (lA (bf h) gP (List.range k++Oz v) [])
    bif vv L then some ⟨nmA (kY L 0) v,qy (kY L 0) h L⟩ else none
theorem RZ{ρ ρ0:ae}{w0 w:World}{h:bC}{m:Nat}{lent:List aB}{keep:Bool}(hh:HR ρ w h m)(hN:gV ρ0 w0 lent)(E:jZ ρ0 ρ w0)(hbk:∀ i,i<lent.length→ρ.ok i→ρ0.ok i)(W:w0.heap.size≤w.heap.size){v:AV}{u:Value}(hv:VR ρ w v u){r:gd} 
    (hr:H9 lent.length keep h v=some r):r.Holds ρ0 w0 w lent.length u:=by
  unfold H9 at hr
  split at hr
  · rename_i k hk
    cases hr
    have none_ok:∀ b,¬ ρ0.ok b:=fun b q=>by have:=hN.heap.lt b q;omega
    have none_live:∀ bl,¬ ρ0.live bl:=fun bl q=>by obtain ⟨i,h1,_⟩:=hN.only bl q;exact none_ok i h1
    refine ⟨ρ0,jZ.refl _ _,fun i h=>by omega,⟨fun b d q=>?_,fun b c d e q=>?_,fun bl q=>(none_live bl q).elim,fun bl q=>(none_live bl q).elim,fun j bl q=>?_,fun b q=>(none_ok b q).elim,fun x hx=>eC (τ:=ρ0) ⟨E.out.symm,fun bl q=>(none_live bl q).elim⟩ (hh.rom x hx) (gh (Rom.kept x hx))⟩,?_⟩
    · simp [ep,eB,dv] at q
    · simp [ep,eB,dv] at q
    · exact Nat.lt_of_lt_of_le (hN.heap.outLt j bl q) W
    · exact OJ (τ:=ρ0) ⟨E.out.symm,fun bl q=>(none_live bl q).elim⟩ hh (fun _ _ _ _ q=>none_live _ q) gP hv
  · simp only at hr
    generalize hL:Ye lent.length (lA (bf h) gP (List.range lent.length++Oz v) [])=L at hr
    cases hn:vv L with
    | false=>rw [hn] at hr;cases hr
    | true =>
    rw [hn] at hr
    simp only [cond_true,Option.some.injEq] at hr;subst hr
    have idL:∀ {i:Nat},i<lent.length→L[i]? = some i:=fun q=>by rw [←hL];exact Y8 q
    have atL:∀ {i b:Nat},L[i]? = some b→(ρ.renamed L).at_ i=ρ.at_ b:=fun q=>by simp [ae.renamed,q]
    refine ⟨ρ.renamed L,⟨fun b q=>?_,fun b q=>?_,E.live,E.new,E.out,E.pin⟩,fun i hi q=>?_,⟨fun i d q=>?_,fun i j d e q1 q2 ok1 ok2 he=>?_,hh.fresh,hh.liveLt,hh.outLt,fun i q=>?_,fun x hx=>eD (hh.rom x hx) (gh (Rom.kept x hx))⟩,Nh v hv⟩
    · rw [atL (idL (hN.heap.lt b q))];exact E.at_ b q
    · exact ⟨b,idL (hN.heap.lt b q),E.ok b q⟩
    · obtain ⟨b,h1,h2⟩:=q
      rw [idL hi] at h1;cases h1
      exact hbk i hi h2
    · have q:=jN q
      simp only at q
      rw [rJ,Option.map_eq_some_iff] at q
      obtain ⟨b,h1,h2⟩:=q
      rw [Option.map_eq_some_iff] at h2
      obtain ⟨d0,h3,rfl⟩:=h2
      rcases hh.cell b d0 h3 with ⟨k1,k2,hr,c,t,r1,r2⟩ | ⟨k1,k2,k3,k4⟩
      · refine .inl ⟨⟨b,h1,k1⟩,by rw [atL h1];exact k2,aar hr,c,t,by rw [atL h1];exact r1,fun x v hx=>?_⟩
        obtain ⟨v',s1,s2⟩:=RY hx hr
        obtain ⟨u,t1,t2⟩:=r2 x v' s1
        refine ⟨u,t1,?_⟩
        rcases s2 with rfl | ⟨rfl,hf⟩
        · exact Nh v' t2
        · exact eD t2 hf
      · refine .inr ⟨?_,?_,aar k3,fun x=>?_⟩
        · rintro ⟨b',q1,q2⟩
          rw [h1] at q1;cases q1
          exact k1 q2
        · rw [qP];exact (List.getElem?_eq_some_iff.1 h1).1
        · cases hc:(reB (kY L 0) d0).cell? x with
          | none=>rfl
          | some v=>obtain ⟨v',s1,_⟩:=RY hc k3;rw [k4 x] at s1;cases s1
    · obtain ⟨b,r1,r2⟩:=ok1
      obtain ⟨c,r3,r4⟩:=ok2
      have q1:=jN q1
      have q2:=jN q2
      simp only at q1 q2
      rw [rJ,r1] at q1
      rw [rJ,r3] at q2
      simp only [Option.map_some,Option.some.injEq,Option.map_eq_some_iff] at q1 q2
      obtain ⟨d1,s1,_⟩:=q1
      obtain ⟨d2,s2,_⟩:=q2
      rw [atL r1,atL r3] at he
      have:=hh.inj b c d1 d2 s1 s2 r2 r4 he
      subst this
      exact vw hn r1 r3
    · obtain ⟨b,r1,_⟩:=q
      simp only [qP]
      exact (List.getElem?_eq_some_iff.1 r1).1
inductive AE where
  | normal
  | ret
  | exit (id:Nat)
def AE.real:AE→Exit
  | .normal=>.normal
  | .ret=>.ret
  | .exit id=>.exit id
abbrev Res:=Option (AE×aG×List Bool×dQ)
abbrev vB:=Code→aG→dQ→Res
def fV:Code→Bool
  | .rangeFunc .. | .scope _=>false
  | .seq a b | .cond _ a b=>fV a&&fV b
  | .block _ a | .loop a=>fV a
  | _=>true
def xS(y:Option YI) :List pP→Bool
  | []=>true
  | r::l=>sC y r.sets&&xS y l
def D5(C:uR)(run:ev)(y:Option YI)(yr:Y5)(ops:Array Oper)(draw:Bool)(st:aG)(p:dQ) :Res :=
  match draw with
  | false =>
    match D1 C run y yr ops st.next 0 ops.toList st.tmps st.heap (st.next+ops.size*qv) p with
    | some (T,h,nx,obs,p')=>some (.normal,⟨T,h,nx⟩,obs,p')
    | none=>none
  | true =>
    match H5 C run ops st.next 0 ops.toList st.tmps st.heap p with
    | some (rs,T,h,obs,p')=>bif Cg ops rs&&xS y rs then some (.normal,⟨T,h,st.next+ops.size*qv⟩,obs,p') else none
    | none=>none
def sE(T:List AV)(c:Operand)(b:Bool) :List AV :=
  match c with
  | .tmp t=>YQ T t (.bool true b)
  | _=>T
def Hj(body:aG→dQ→Res) :Nat→aG→dQ→Res
  | 0,_,_=>none
  | n+1,st,p =>
    match body st p with
    | some (.normal,st1,o1,p1) =>
      match Hj body n st1 p1 with
      | some (e,Ax,o2,p2)=>some (e,Ax,o1++o2,p2)
      | none=>none
    | r=>r
abbrev nR:=Option YI→vB
def AW:List AV→List Tmp→List AV→List AV
  | T,p::ps,v::vs=>AW (YQ T p v) ps vs
  | T,_,_=>T
def zj:Option aB→Bool
  | some (.vs [])=>true
  | _=>false
def acO(self:nR)(y:Option YI) :Y5:=fun args h nx p =>
  match y with
  | none=>none
  | some yi =>
    bif zj (bf h yi.b)&&(Nat.beq args.length yi.ps.size&&(fV yi.assign&&fV yi.body)) then
      match self none yi.assign ⟨AW yi.saved yi.ps.toList args,h,nx⟩ p with
      | some (.normal,st1,o1,p1) =>
        match self none yi.body st1 p1 with
        | some (e,Ax,o2,p2) =>
          bif zj (bf Ax.heap yi.b) then
            match e with
            | .normal=>some (.bool true true,Ax.heap,Ax.next,o1++o2,p2)
            | .ret=>some (.bool true false,fM Ax.heap yi.b (.fl []),Ax.next,o1++o2,p2)
            | .exit id=>some (.bool true false,fM Ax.heap yi.b (.rows id 0 fun _ _=>.nptr),Ax.next,o1++o2,p2)
          else none
        | none=>none
      | _=>none
    else none
def D6:Option (LoopState×Option Code)→Option AE
  | some (.ready,none)=>some .normal
  | some (.done,some .ret)=>some .ret
  | some (.done,some (.exit id))=>some (.exit id)
  | _=>none
def Ia(C : uR)(self : nR)(g : Operand)(ps : Array Tmp)(assign body : Code)(st : aG)(p : dQ) : Res :=
  match ZX st.tmps g with
  | .fn (.func gf) first caps =>
    match C.P.funcs[gf]? with
    | some fn =>
      match fn.body with
      | some c =>
        bif fV c&&fn.results.isEmpty then
          match self (some ⟨st.next,st.tmps,ps,assign,body⟩) c ⟨(first ++ .yld st.next::caps)++List.replicate (fn.ntmps-(first ++ .yld st.next::caps).length) (.tup []),fM st.heap st.next (.vs []),st.next+1⟩ p with
          | some (.exit _,_,_,_)=>none
          | some (_,st1,o1,p1) =>
            bif D0 st1.heap then
              match D6 (Cc (bf st1.heap st.next)) with
              | some e=>some (e,⟨st.tmps,xx st1.heap st.next,st1.next⟩,o1,p1)
              | none=>none
            else none
          | none=>none
        else none
      | none=>none
    | none=>none
  | _=>none
def D7(C:uR)(run:ev)(N:Nat)(selfY:nR)(y:Option YI)(c:Code)(st:aG)(p:dQ) :Res :=
  let self:=selfY y
  match c with
  | .skip | .label _=>some (.normal,st,[],p)
  | .region _ ops draw=>D5 C run y (acO selfY y) ops draw st p
  | .seq a b =>
    match self a st p with
    | some (.normal,st1,o1,p1) =>
      match self b st1 p1 with
      | some (e,Ax,o2,p2)=>some (e,Ax,o1++o2,p2)
      | none=>none
    | r=>r
  | .cond c a b =>
    match He (ZX st.tmps c) p with
    | some (x,o1,p1) =>
      match self (match x with | true=>a | false=>b) { st with tmps:=sE st.tmps c x } p1 with
      | some (e,Ax,o2,p2)=>some (e,Ax,o1++o2,p2)
      | none=>none
    | none=>none
  | .block id b =>
    match self b st p with
    | some (.exit id',st1,o1,p1)=>bif Nat.beq id' id then some (.normal,st1,o1,p1) else some (.exit id',st1,o1,p1)
    | r=>r
  | .loop b=>Hj (self b) N st p
  | .exit id=>some (.exit id,st,[],p)
  | .ret=>some (.ret,st,[],p)
  | .scope b=>self b st p
  | .rangeFunc g ps assign body=>match y with
    | none=>Ia C selfY g ps assign body st p
    | some _=>none
  | _=>none
structure qz where
  out:gd
  obs:List Bool
def aas(alts:List qz)(p:dQ) :Option (qz×dQ) :=
  match alts,p with
  | [a],p=>some (a,p)
  | alts,none=>(alts.find? fun a=>Oy a.obs).map fun a=>(a,none)
  | alts,some (k::r)=>(alts[k]?).map fun a=>(a,some r)
  | _,_=>none
theorem Y9{alts:List qz}{p p':dQ}{a:qz}(h:aas alts p=some (a,p')) :a∈alts:=by
  unfold aas at h
  split at h
  · simp only [Option.some.injEq,Prod.mk.injEq] at h;rw [←h.1];simp
  · simp only [Option.map_eq_some_iff,Prod.mk.injEq] at h;obtain ⟨b,h1,rfl,_⟩:=h;exact List.mem_of_find?_eq_some h1
  · simp only [Option.map_eq_some_iff,Prod.mk.injEq] at h;obtain ⟨b,h1,rfl,_⟩:=h;exact List.mem_of_getElem? h1
  · cases h
abbrev xT:=FuncId→List aB→List AV→Option (List qz)
def jr(P:Program)(fn:Func)(st:aG) :List ResultVar→Option (List AV×List Bool)
  | []=>some ([],[])
  | .tmp t::l =>
    match jr P fn st l with
    | some (vs,o)=>some (YP st.tmps t::vs,o)
    | none=>none
  | .cell a t::l =>
    match zP P (bf st.heap) t (YP st.tmps a),jr P fn st l with
    | some (v,o,_),some (vs,o')=>some (v::vs,o++o')
    | _,_=>none
def D8:List AV→AV
  | [v]=>v
  | vs=>.tup vs
def pT(fn:Func)(lent:List aB)(args:List AV) :aG:=⟨args++List.replicate (fn.ntmps-args.length) (.tup []),ep 0 (lent.map some),lent.length⟩
def qA(C : uR)(S : xT)(self : vB) : ev := fun f lent args p =>
  match S f lent args with
  | some alts=>(aas alts p).map fun r=>(r.1.out,r.1.obs,r.2)
  | none =>
    match C.P.funcs[f]? with
    | some fn =>
      match fn.body with
      | some c =>
        match self c (pT fn lent args) p with
        | some (e,st,o1,p1) =>
          match e,jr C.P fn st fn.results.toList with
          | .exit _,_=>none
          | _,some (vs,o2) =>
            match H9 lent.length (C.mode f).keep st.heap (D8 vs) with
            | some r=>some (r,o1++o2,p1)
            | none=>none
          | _,none=>none
        | none=>none
      | none=>none
    | none=>none
def Ch(C:uR)(S:xT)(N:Nat) :Nat→nR
  | 0=>fun _ _ _ _=>none
  | n+1=>D7 C (qA C S (Ch C S N n none)) N (Ch C S N n)
def hJ(C:uR)(S:xT)(N:Nat)(n:Nat) :vB:=Ch C S N n none
def ag(P:Program)(f:FuncId)(lent:List aB)(args:List AV)(r:gd) :Prop :=
  ∀ (ρ:ae) (w:World) (us:List Value),gV ρ w lent→cv ρ w args us →
    (∃ fn,P.funcs[f]? = some fn∧fn.body.isSome=true)∧Calls P f us.toArray w fun e w'=>∃ u,e=.returned u∧gO ρ.live w w'∧r.Holds ρ w w' lent.length u
def aN(P:Program)(S:xT) :Prop:=∀ f lent args alts a,S f lent args=some alts→a∈alts→ay a.obs→ag P f lent args a.out
def OL(P:Program)(self:vB) :Prop :=
  ∀ c st p e st' obs p',self c st p=some (e,st',obs,p')→ay obs→∀ (ρ:ae) (a:Act) (w:World) (Q:Exit→Act→World→Prop),ρ.pin.2=none→SR ρ st a w →
    (∀ ρ' a' w',HP ρ w st.next st' ρ' a' w'→Q e.real a' w')→c.wp P Q a w
theorem HP.trans{ρ ρ1 ρ2:ae}{w w1 w2:World}{n:Nat}{st1 Ax:aG}{a1 a2:Act}(h:HP ρ w n st1 ρ1 a1 w1)(k:HP ρ1 w1 st1.next Ax ρ2 a2 w2) :HP ρ w n Ax ρ2 a2 w2 :=
  ⟨h.ext.trans k.ext h.wle.size,h.wle.trans k.wle (fun x hx q=>h.ext.new x hx q),k.sr,Nat.le_trans h.le k.le,fun b q=>by
    rcases k.back b q with q | q
    · exact h.back b q
    · exact .inr (Nat.le_trans h.le q)⟩
theorem HP.refl{ρ:ae}{w:World}{st:aG}{a:Act}(h:SR ρ st a w) :HP ρ w st.next st ρ a w:=⟨jZ.refl _ _,gO.refl _ _,h,Nat.le_refl _,fun b q=>.inl q⟩
theorem Za(n:Nat) :List.range n=List.range' 0 n:=List.range_eq_range'
theorem R0(fn:Func)(tmps:Array Value) :results fn tmps=(do let vs ← fn.results.mapM (fun | .tmp t=>pure (tmps.getD t undef) | .cell x t=>do loadVar t (←asAddr (tmps.getD x undef)));pure (if h:vs.size=1 then vs[0] else .tuple vs)):=by
  unfold results
  congr 1
structure pc (y:Option YI) (ρ:ae) (w:World) (n:Nat) (st:aG) (ρ':ae) (a':Act) (w':World):Prop where
  stp:Hf y ρ w ρ' w'
  sr:SR ρ' st a' w'
  le:n≤st.next
  back:∀ b,ρ'.ok b→ρ.ok b∨n≤b
  pin:qx y ρ' w' st.heap st.next
theorem pc.old{ρ:ae}{w:World}{n:Nat}{st:aG}{ρ':ae}{a':Act}{w':World}(h:pc none ρ w n st ρ' a' w') :HP ρ w n st ρ' a' w':=⟨h.stp.ext,h.stp.live,h.sr,h.le,h.back⟩
theorem pc.trans{y:Option YI}{ρ ρ1 ρ2:ae}{w w1 w2:World}{n:Nat}{st1 Ax:aG}{a1 a2:Act}(h:pc y ρ w n st1 ρ1 a1 w1)(k:pc y ρ1 w1 st1.next Ax ρ2 a2 w2) :pc y ρ w n Ax ρ2 a2 w2 :=
  ⟨h.stp.trans k.stp,k.sr,Nat.le_trans h.le k.le,fun b q=>by
    rcases k.back b q with q | q
    · exact h.back b q
    · exact .inr (Nat.le_trans h.le q),k.pin⟩
theorem pc.refl{y:Option YI}{ρ:ae}{w:World}{st:aG}{a:Act}(h:SR ρ st a w)(hp:qx y ρ w st.heap st.next) :pc y ρ w st.next st ρ a w:=⟨Hf.refl _ _ _,h,Nat.le_refl _,fun b q=>.inl q,hp⟩
def May(c:Code)(ro:Option Nat)(y:Option YI)(ρ:ae) :Prop:=fV c=true∨(ro=none∧y=none∧ρ.pin.2=none)
def vC(P:Program)(self:nR) :Prop :=
  ∀ y c st p e st' obs p',self y c st p=some (e,st',obs,p')→ay obs→∀ (ro:Option Nat) (nn:Nat) (ρ:ae) (a:Act) (w:World) (Q:Exit→Act→World→Prop),May c ro y ρ→SR ρ st a w→qx y ρ w st.heap st.next →
    (∀ ρ' a' w',pc y ρ w st.next st' ρ' a' w'→Q e.real a' w')→c.wpIn (FW ro) nn P Q a w
theorem May.ext{c:Code}{ro:Option Nat}{y:Option YI}{ρ ρ':ae}{w:World}(h:May c ro y ρ)(E:jZ ρ ρ' w) :May c ro y ρ':=h.imp id fun ⟨a,b,c⟩=>⟨a,b,by rw [E.pin];exact c⟩
theorem May.sub{c d:Code}{ro:Option Nat}{y:Option YI}{ρ:ae}(h:May c ro y ρ)(k:fV c=true→fV d=true) :May d ro y ρ:=h.imp k id
theorem Hk{ρ:ae}{w:World} :∀ {ds:List Deferred},jn ρ w ds→ρ.pin.1≤w.heap.size
  | [],h=>h
  | _::_,⟨_,h⟩=>Hk h
theorem Ni{ρ:ae}{w:World} :∀ {ds:List Deferred},jn ρ w ds→∀ e∈ds,e ≠ { target:=.collected w.heap.size,args:=#[] }
  | [],_,e,he=>by cases he
  | d::ds,⟨⟨D,h1,hb,h2,h3,h4,h5⟩,h⟩,e,he=>by
    rcases List.mem_cons.1 he with rfl | q
    · intro e;rw [h1] at e
      have e:Target.collected D=.collected w.heap.size:=congrArg Deferred.target e
      simp only [Target.collected.injEq] at e
      omega
    · exact Ni h e q
theorem Ci{y:Option YI} :∀ {l:List pP},xS y l=true→∀ r∈l,sC y r.sets=true
  | [],_,r,h=>by cases h
  | x::l,hk,r,h=>by
    simp only [xS,Bool.and_eq_true] at hk
    rcases List.mem_cons.1 h with rfl | q
    · exact hk.1
    · exact Ci hk.2 r q
theorem Cj{y:Option YI} :∀ (l:List (Oper×pP)) (s:List AV×bC),(∀ x∈l,sC y x.2.sets=true)→∀ yi,y=some yi→bf (cF l s).2 yi.b=bf s.2 yi.b
  | [],s,_,yi,_=>rfl
  | x::l,s,h,yi,e=>by
    simp only [cF]
    rw [Cj l _ (fun z hz=>h z (by simp [hz])) yi e]
    exact Cd (h x (by simp)) s.2 yi e
theorem OM{C:uR}(hC:C.Ok){run:ev}(hrun:HK C.P run){y:Option YI}{yr:Y5}(hyr:VT C.P y yr){id:Nat}{ops:Array Oper}{draw:Bool}{st st':aG}{p p':dQ}{e:AE}{obs:List Bool}(h:D5 C run y yr ops draw st p=some (e,st',obs,p')) 
    (ho:ay obs) {ro:Option Nat} {nn:Nat} {ρ:ae} {a:Act} {w:World} {Q:Exit→Act→World→Prop} (hs:SR ρ st a w) (hp:qx y ρ w st.heap st.next) (hQ:∀ ρ' a' w',pc y ρ w st.next st' ρ' a' w'→Q e.real a' w'):(Code.region id ops draw).wpIn (FW ro) nn C.P Q a w:=by
  unfold D5 at h
  cases draw with
  | false =>
    simp only at h
    split at h
    case h_2=>cases h
    rename_i T hp' nx obs' p1 hr
    simp only [Option.some.injEq,Prod.mk.injEq] at h;obtain ⟨rfl,rfl,rfl,rfl⟩:=h
    refine wpIn_region ?_
    rw [Za,←Array.length_toList]
    refine vz hC hrun hyr ops.toList 0 (fun j=>by simp) hr ho (hs.heap.le (by omega)) (Nat.le_refl _) hp (Hk hs.defers) (fun b hb=>.inl (by have:=hs.heap.lt b hb;omega)) hs.tmps ?_
    intro ρ' w' a' S hh hle hpin hd hT hb
    exact hQ ρ' a' w' ⟨S,⟨by rw [hd];exact S.marks _ hs.defers,hT,hh⟩,by show st.next≤nx;omega,hb,hpin.le (by show st.next≤nx;omega)⟩
  | true =>
    simp only at h
    split at h
    case h_2=>cases h
    rename_i rs T hp' obs' p1 hr
    cases hd:(Cg ops rs&&xS y rs) with
    | false=>rw [hd] at h;cases h
    | true =>
      rw [hd] at h
      rw [Bool.and_eq_true] at hd
      simp only [cond_true,Option.some.injEq,Prod.mk.injEq] at h;obtain ⟨rfl,rfl,rfl,rfl⟩:=h
      obtain ⟨s1,s2,s3⟩:=Fi _ _ hr ho
      obtain ⟨ms,D⟩:=Ff (ops.toList.zip rs) [] [] rfl (RV s1 hd.1) ⟨fun j x hx=>by simp at hx,fun j x hx=>by simp at hx,fun i j x y hx=>by simp at hx⟩
      rw [List.nil_append] at D
      refine wpIn_region_any hC.mixed ?_
      have W0:=gO.drawn ρ.live w (w.drawn+1)
      have E0:=jZ.refl ρ w
      have notL:∀ i,(Array.replicate ops.size false).getD i false=false:=by
        intro i;rw [Array.getD_eq_getD_getElem?]
        cases hq:(Array.replicate ops.size false)[i]? with
        | none=>rfl
        | some b=>rw [Array.getElem?_replicate] at hq;split at hq<;>simp_all
      have a0:∀ (l:List (Oper×pP)) (i:Nat) (s:List AV×bC),nC (fun i=>(Array.replicate ops.size false).getD i false) i l s=s:=by
        intro l
        induction l with
        | nil=>intro _ _;rfl
        | cons x l ih=>intro i s;simp only [nC];rw [notL i];exact ih _ _
      refine aaq hC hrun D (by rw [s1];simp) (fun j o hj=>by have:=s3 j o hj;rw [Nat.zero_add] at this;exact this) ops.size (Array.replicate ops.size false) (by simp) (fun j o _ hl=>by rw [notL] at hl;cases hl)
        (by have:=List.countP_le_length (p:=fun i=>!(Array.replicate ops.size false).getD i false) (l:=List.range ops.size);simpa using this) (ρ:=ρ) (a:=a) ?_ ?_ ?_ ?_
      · rw [a0];exact (hs.heap.le (by omega)).drawn _
      · intro b hb;have:=hs.heap.lt b hb;exact .inl this
      · rw [a0];exact hs.tmps.mono E0 W0
      · intro ρ' w' a' E W hh hd' hT hb
        have keep:=Cj (y:=y) (ops.toList.zip rs) (st.tmps,st.heap) fun x hx=>Ci hd.2 _ (List.of_mem_zip (show (x.1,x.2)∈_ from hx)).2
        rw [s2] at hh hT keep
        have E':jZ ρ ρ' w:=⟨E.at_,E.ok,E.live,fun b hb=>E.new b hb,E.out,E.pin⟩
        have W':gO ρ.live w w':=W0.trans W (fun _ _ q=>q)
        refine hQ ρ' a' w' ⟨.of E' W',⟨by rw [hd'];exact hs.defers.mono E' W',hT,hh⟩,Nat.le_add_right _ _,hb,(hp.mono E' W' (fun yi _ q=>hb _ q) keep).le (Nat.le_add_right _ _)⟩
theorem Ib{C:uR}{y:Option YI}{ro:Option Nat}{nn:Nat}{body:aG→dQ→Res}{b:Code}(hb:∀ st p e st' obs p',body st p=some (e,st',obs,p')→ay obs→∀ (ρ:ae) (a:Act) (w:World) (Q:Exit→Act→World→Prop),May b ro y ρ→SR ρ st a w→qx y ρ w st.heap st.next →
    (∀ ρ' a' w',pc y ρ w st.next st' ρ' a' w'→Q e.real a' w')→b.wpIn (FW ro) nn C.P Q a w) :∀ (n:Nat) (st:aG) (p:dQ) (e:AE) (st':aG) (obs:List Bool) (p':dQ),Hj body n st p=some (e,st',obs,p')→ay obs →
    ∀ (ρ:ae) (a:Act) (w:World) (Q:Exit→Act→World→Prop),May b ro y ρ→SR ρ st a w→qx y ρ w st.heap st.next→(∀ ρ' a' w',pc y ρ w st.next st' ρ' a' w'→Q e.real a' w')→Code.roundsIn (FW ro) nn C.P b Q n a w
  | 0,st,p,e,st',obs,p',h,_,_,_,_,_,_,_,_,_=>by cases h
  | n+1,st,p,e,st',obs,p',h,ho,ρ,a,w,Q,hm,hs,hp,hQ=>by
    simp only [Hj] at h
    rw [roundsIn_succ]
    split at h
    · rename_i st1 o1 p1 h1
      split at h
      case h_2=>cases h
      rename_i e2 Ax o2 p2 h2
      simp only [Option.some.injEq,Prod.mk.injEq] at h;obtain ⟨rfl,rfl,rfl,rfl⟩:=h
      rw [be] at ho
      refine hb st p _ _ _ _ h1 ho.1 ρ a w _ hm hs hp fun ρ1 a1 w1 P1=>?_
      exact Ib hb n st1 p1 _ _ _ _ h2 ho.2 ρ1 a1 w1 Q (hm.ext P1.stp.ext) P1.sr P1.pin fun ρ2 a2 w2 P2=>hQ ρ2 a2 w2 (P1.trans P2)
    · rename_i hne
      refine hb st p _ _ _ _ h ho ρ a w _ hm hs hp fun ρ1 a1 w1 P1=>?_
      have:=hQ ρ1 a1 w1 P1
      cases e with
      | normal=>exact (hne _ _ _ h).elim
      | ret=>exact this
      | exit id=>exact this
theorem Ic{ρ:ae}{w:World} :∀ (ps:List Tmp) (vs:List AV) (us:List Value) {T:List AV} {c:Array Value},cv ρ w T c.toList→cv ρ w vs us→ps.length=us.length →
    cv ρ w (AW T ps vs) ((ps.zip us).foldl (fun tmps (x:Tmp×Value)=>tmps.setIfInBounds x.1 x.2) c).toList
  | [],vs,us,T,c,hT,hv,hl=>by
    cases us with
    | nil=>cases vs<;>simpa [AW] using hT
    | cons=>simp at hl
  | p::ps,vs,us,T,c,hT,hv,hl=>by
    cases hv with
    | nil=>simp at hl
    | cons v u vs us h1 h2 =>
      simp only [AW,yX,List.zip_cons_cons,List.foldl_cons]
      refine Ic ps vs us ?_ h2 (by simpa using hl)
      rw [Array.toList_setIfInBounds]
      exact hT.set h1 p
theorem Fj{o:Option aB}(h:zj o=true) :o=some (.vs []):=by
  unfold zj at h
  split at h
  · rfl
  · cases h
theorem Hf.wide{y:Option YI}{ρ ρ':ae}{w w':World}(h:Hf none ρ w ρ' w') :Hf y ρ w ρ' w':=⟨h.ext,h.live.mono fun _ _ q=>.inl q,h.vr,h.marks⟩
theorem Hf.put{yi:YI}{ρ:ae}{w:World}{L k:Nat}{r r':Loop}(hp:ρ.pin.2=some (L,k))(hL:w.heap[L]? = some (.loop r)) :Hf (some yi) ρ w ρ (w.putObj L (.loop r')):=by
  have S:sB w (w.putObj L (.loop r')):=sB.put hL (.inl ⟨r,rfl⟩) (.inl ⟨r',rfl⟩)
  exact ⟨jZ.refl _ _,S.wle fun b _ hb=>World.putObj_heap_other (fun e=>hb (.inr ⟨rfl,k,by rw [e];exact hp⟩)),fun v u h=>h.soft S,fun ds h=>h.soft hL⟩
theorem abT{P:Program}{self:nR}(hself:vC P self)(y:Option YI) :VT P y (acO self y):=by
  intro args h nx p v h' nx' obs p' hr ho
  unfold acO at hr
  cases y with
  | none=>cases hr
  | some yi =>
  refine ⟨yi,rfl,fun ρ w us m hh hbase hpin hm hv L hL=>?_⟩
  simp only at hr
  cases hc:(zj (bf h yi.b)&&(Nat.beq args.length yi.ps.size&&(fV yi.assign&&fV yi.body))) with
  | false=>rw [hc] at hr;cases hr
  | true =>
  rw [hc] at hr
  simp only [Bool.and_eq_true] at hc
  obtain ⟨hc1,hc2,hc3,hc4⟩:=hc
  simp only [cond_true] at hr
  split at hr
  case h_2=>cases hr
  rename_i st1 o1 p1 h1
  split at hr
  case h_2=>cases hr
  rename_i e Ax o2 p2 h2
  cases hc5:zj (bf Ax.heap yi.b) with
  | false=>rw [hc5] at hr;cases hr
  | true =>
  rw [hc5] at hr
  simp only [cond_true] at hr
  have hk1:=Fj hc1
  have hk2:=Fj hc5
  obtain ⟨q1,q2,L',q3,q4,s,pe,q5,rec,r1,r2,r3,r4,r5,r6,r7⟩:=hpin
  rw [hL] at q3;cases q3
  rw [hk1] at q5
  simp only [Cc,Option.some.injEq,Prod.mk.injEq] at q5
  obtain ⟨rfl,rfl⟩:=q5
  have hlt:L<w.heap.size:=(Array.getElem?_eq_some_iff.1 r1).1
  have hsz:us.size=rec.params.size:=by
    have a1:=hv.length
    have a2:=Nat.eq_of_beq_eq_true hc2
    rw [r4,←a2,a1];simp
  refine ⟨rec,r1,hsz,fun ro nn R hR=>?_⟩
  have hob:ay o1∧ay o2:=by
    have:obs=o1++o2:=by cases e<;>simp only [Option.some.injEq,Prod.mk.injEq] at hr<;>exact hr.2.2.2.1.symm
    rw [this,be] at ho;exact ho
  refine roundIn_of_wpIn (adg _ _) ?_
  rw [r5,r6,r4]
  have hfold:(yi.ps.zip us).foldl (fun tmps (x:Tmp×Value)=>tmps.setIfInBounds x.1 x.2) rec.tmps=(yi.ps.toList.zip us.toList).foldl (fun tmps (x:Tmp×Value)=>tmps.setIfInBounds x.1 x.2) rec.tmps:=by
    rw [←Array.foldl_toList,Array.toList_zip]
  have hT:cv ρ w (AW yi.saved yi.ps.toList args) ((yi.ps.zip us).foldl (fun tmps (x:Tmp×Value)=>tmps.setIfInBounds x.1 x.2) rec.tmps).toList:=by
    rw [hfold]
    exact Ic _ _ _ r7 hv (by rw [←r4];simpa using hsz.symm)
  have S0:SR ρ ⟨AW yi.saved yi.ps.toList args,h,nx⟩ { tmps:=(yi.ps.zip us).foldl (fun tmps (x:Tmp×Value)=>tmps.setIfInBounds x.1 x.2) rec.tmps,defers:=[] } w:=⟨hbase,hT,hh⟩
  refine hself none yi.assign _ _ _ _ _ _ h1 hob.1 (some L) nn ρ _ w _ (.inl hc3) S0 trivial fun ρ1 a1 w1 P1=>?_
  have hL1:w1.heap[L]? = some (.loop rec):=(P1.stp.live.same L hlt q4).trans r1
  have n1 : ¬ ρ1.live L:=fun q=>q4 (P1.stp.ext.new L hlt q)
  refine ⟨_,run_beginRound hL1 r2,?_⟩
  have Sf:sB w1 (w1.putObj L (.loop { rec with state:=.busy })):=sB.put hL1 (.inl ⟨_,rfl⟩) (.inl ⟨_,rfl⟩)
  have S1:SR ρ1 st1 a1 (w1.putObj L (.loop { rec with state:=.busy })):=⟨P1.sr.defers.soft hL1,P1.sr.tmps.soft Sf,P1.sr.heap.soft Sf⟩
  have hlt1:L<(w1.putObj L (.loop { rec with state:=.busy })).heap.size:=by rw [World.putObj_size];exact Nat.lt_of_lt_of_le hlt P1.stp.wle.size
  refine hself none yi.body _ _ _ _ _ _ h2 hob.2 (some L) nn ρ1 a1 _ _ (.inl hc4) S1 trivial fun ρ2 a2 w3 P2=>?_
  have hL3:w3.heap[L]? = some (.loop { rec with state:=.busy }):=(P2.stp.live.same L hlt1 n1).trans (World.putObj_heap_same (by simpa using hlt1))
  have n2 : ¬ ρ2.live L:=fun q=>n1 (P2.stp.ext.new L hlt1 q)
  have pin1:ρ1.pin.2=some (L,yi.b):=by rw [P1.stp.ext.pin];exact hL
  have pin2:ρ2.pin.2=some (L,yi.b):=by rw [P2.stp.ext.pin];exact pin1
  have Sall:∀ (r':Loop),Hf (some yi) ρ w ρ2 (w3.putObj L (.loop r')):=fun r' =>
    (((P1.stp.wide).trans (Hf.put pin1 hL1)).trans P2.stp.wide).trans (Hf.put pin2 hL3)
  have hback:∀ b,ρ2.ok b→ρ.ok b∨nx≤b:=by
    intro b q
    rcases P2.back b q with q | q
    · exact P1.back b q
    · exact .inr (Nat.le_trans P1.le q)
  have hnok : ¬ ρ2.ok yi.b:=fun q=>(hback _ q).elim q1 (by omega)
  have hle:nx≤Ax.next:=Nat.le_trans P1.le P2.le
  have S2:∀ (r':Loop),sB w3 (w3.putObj L (.loop r')):=fun r'=>sB.put hL3 (.inl ⟨_,rfl⟩) (.inl ⟨_,rfl⟩)
  have hlt3:L<w3.heap.size:=(Array.getElem?_eq_some_iff.1 hL3).1
  have hrec:∀ (s:LoopState) (pe:Option Code),RO ρ2 (w3.putObj L (.loop { rec with state:=s,pending:=pe })) L yi s pe:=fun s pe =>
    ⟨_,World.putObj_heap_same hlt3,rfl,rfl,r4,r5,r6,cv.stp (Sall _).vr r7⟩
  cases e with
  | normal =>
    simp only [Option.some.injEq,Prod.mk.injEq] at hr
    obtain ⟨rfl,rfl,rfl,_,_⟩:=hr
    refine ⟨_,_,run_endRound none hL3,hR ρ2 _ _ (Sall _) (P2.sr.heap.soft (S2 _)) ⟨hnok,q2,L,pin2,n2,.ready,none,by rw [hk2];rfl,hrec _ _⟩ (.bool _ _) hback hle⟩
  | ret =>
    simp only [Option.some.injEq,Prod.mk.injEq] at hr
    obtain ⟨rfl,rfl,rfl,_,_⟩:=hr
    refine ⟨_,_,run_endRound (some .ret) hL3,hR ρ2 _ _ (Sall _) ((P2.sr.heap.soft (S2 _)).ghost hnok (by omega) trivial (fun x=>rfl)) ⟨hnok,q2,L,pin2,n2,.done,some .ret,by rw [cN,if_pos rfl];rfl,hrec _ _⟩ (.bool _ _) hback hle⟩
  | exit id =>
    simp only [Option.some.injEq,Prod.mk.injEq] at hr
    obtain ⟨rfl,rfl,rfl,_,_⟩:=hr
    refine ⟨_,_,run_endRound (some (.exit id)) hL3,hR ρ2 _ _ (Sall _) ((P2.sr.heap.soft (S2 _)).ghost hnok (by omega) (fun i j=>⟨rfl,rfl⟩) (fun x=>by simp [aB.cell?])) ⟨hnok,q2,L,pin2,n2,.done,some (.exit id),by rw [cN,if_pos rfl];rfl,hrec _ _⟩ (.bool _ _) hback hle⟩
theorem Ku{d:Option aB}{e:AE}(h:D6 (Cc d)=some e) :∃ s pe,Cc d=some (s,pe)∧s ≠ .busy∧((e=.normal∧pe=none)∨(e=.ret∧pe=some .ret)∨∃ id,e=.exit id∧pe=some (.exit id)):=by
  unfold D6 at h
  split at h
  · rename_i q;cases h;exact ⟨_,_,q,by simp,.inl ⟨rfl,rfl⟩⟩
  · rename_i q;cases h;exact ⟨_,_,q,by simp,.inr (.inl ⟨rfl,rfl⟩)⟩
  · rename_i id q;cases h;exact ⟨_,_,q,by simp,.inr (.inr ⟨id,rfl,rfl⟩)⟩
  · cases h
theorem R1{C:uR}(hC:C.Ok){self:nR}(hself:vC C.P self){g:Operand}{ps:Array Tmp}{assign body:Code}{st st':aG}{p p':dQ}{e:AE}{obs:List Bool}(h:Ia C self g ps assign body st p=some (e,st',obs,p'))(ho:ay obs) 
    {nn:Nat} {ρ:ae} {a:Act} {w:World} {Q:Exit→Act→World→Prop} (hpn:ρ.pin.2=none) (hs:SR ρ st a w) (hQ:∀ ρ' a' w',pc none ρ w st.next st' ρ' a' w'→Q e.real a' w'):(Code.rangeFunc g ps assign body).wpIn (FW none) nn C.P Q a w:=by
  unfold Ia at h
  split at h
  case h_2=>cases h
  rename_i gf first caps hev
  split at h
  case h_2=>cases h
  rename_i fn hfn
  split at h
  case h_2=>cases h
  rename_i c hbody
  cases hc:(fV c&&fn.results.isEmpty) with
  | false=>rw [hc] at h;cases h
  | true =>
  rw [hc] at h
  rw [Bool.and_eq_true] at hc
  simp only [cond_true] at h
  split at h
  · cases h
  case h_3=>cases h
  rename_i e1 st1 o1 p1 hne h1
  cases hcl:D0 st1.heap with
  | false=>rw [hcl] at h;cases h
  | true =>
  rw [hcl] at h
  simp only [cond_true] at h
  split at h
  case h_2=>cases h
  rename_i e2 hend
  simp only [Option.some.injEq,Prod.mk.injEq] at h;obtain ⟨rfl,rfl,rfl,rfl⟩:=h
  refine wpIn_rangeFunc ?_
  intro f0 _
  have hg:=xD hs.heap.rom hs.tmps g
  rw [hev] at hg
  generalize hgv:a.eval g=gv at hg
  cases hg with | fn _ _ _ c1 c2 v1 v2 =>
  obtain ⟨w1,hw1⟩:∃ w1,(w.alloc (.deferred (some []))).alloc (.loop { state:=.ready,pending:=none,fn:=f0,tmps:=a.tmps,params:=ps,assign,body,defers:=w.heap.size })=w1:=⟨_,rfl⟩
  refine ⟨w.heap.size+1,[{ target:=.collected w.heap.size,args:=#[] }],w1,{ target:=.fn (.func gf) c2,args:=c1 ++ #[Value.func (.yield (w.heap.size+1)) #[] #[]] },w1,gf,c1 ++ #[Value.func (.yield (w.heap.size+1)) #[] #[]]++c2,w1,?_,?_,fun _ _=>trivial,?_,Hd,?_⟩
  · rw [←hw1];exact run_enterLoop_outer _ _ _ _ _
  · simp only [resolve,hgv]
    simp [Deferred.ofValue,Act.eval]
  · have eg:=hC.enter gf fn (c1 ++ #[Value.func (.yield (w.heap.size+1)) #[] #[]]++c2) w1 hfn (by rw [hbody];rfl)
    simp only [invoke]
    exact eg
  have hsz1:w1.heap.size=w.heap.size+2:=by rw [←hw1];simp
  have hD1:w1.heap[w.heap.size]? = some (.deferred (some [])):=by
    rw [←hw1,iy (by simp),dP]
  have hL1:w1.heap[w.heap.size+1]? = some (.loop { state:=.ready,pending:=none,fn:=f0,tmps:=a.tmps,params:=ps,assign,body,defers:=w.heap.size }):=by
    rw [←hw1]
    have:=dP (w.alloc (.deferred (some []))) (.loop { state:=.ready,pending:=none,fn:=f0,tmps:=a.tmps,params:=ps,assign,body,defers:=w.heap.size })
    simpa using this
  have W1:gO ρ.live w w1:=by rw [←hw1];exact (gO.alloc _ _ _).trans (gO.alloc _ _ _) (fun _ _ q=>q)
  have same1:∀ b,b<w.heap.size→w1.heap[b]? = w.heap[b]?:=fun b hb=>by
    rw [←hw1,iy (by simp;omega),iy hb]
  have nlive:∀ b,w.heap.size≤b→¬ ρ.live b:=fun b hb q=>by have:=hs.heap.liveLt b q;omega
  have nok : ¬ ρ.ok st.next:=fun q=>by have:=hs.heap.lt _ q;omega
  have tmps1:∀ {l:List AV} {us:List Value},cv ρ w l us→cv (ρ.pinned (w1.heap.size,some (w.heap.size+1,st.next))) w1 l us:=fun hv=>(hv.mono (jZ.refl _ _) W1).noPin hpn _
  have hH1:HR (ρ.pinned (w1.heap.size,some (w.heap.size+1,st.next))) w1 (fM st.heap st.next (.vs [])) (st.next+1):=by
    refine HR.ghost ((((hs.heap.step W1 (fun bl hl=>same1 bl (hs.heap.liveLt bl hl))).noPin hpn _)).le (Nat.le_succ _)) nok (Nat.lt_succ_self _) trivial (fun x=>rfl)
  have hargs:cv (ρ.pinned (w1.heap.size,some (w.heap.size+1,st.next))) w1 ((first ++ .yld st.next::caps)++List.replicate (fn.ntmps-(first ++ .yld st.next::caps).length) (.tup []))
      ((c1 ++ #[Value.func (.yield (w.heap.size+1)) #[] #[]]++c2)++Array.replicate (fn.ntmps-(c1 ++ #[Value.func (.yield (w.heap.size+1)) #[] #[]]++c2).size) undef).toList:=by
    have l1:=v1.length
    have l2:=v2.length
    have e:(first++AV.yld st.next::caps).length=(c1 ++ #[Value.func (.yield (w.heap.size+1)) #[] #[]]++c2).size:=by simp at l1 l2 ⊢;omega
    rw [e]
    have hrep:∀ n,cv (ρ.pinned (w1.heap.size,some (w.heap.size+1,st.next))) w1 (List.replicate n (.tup [])) (List.replicate n undef):=by
      intro n
      induction n with
      | zero=>exact .nil
      | succ n ih=>exact .cons _ _ _ _ (.tup [] #[] .nil) ih
    have hmid:cv (ρ.pinned (w1.heap.size,some (w.heap.size+1,st.next))) w1 (.yld st.next::caps) (Value.func (.yield (w.heap.size+1)) #[] #[]::c2.toList):=.cons _ _ _ _ (.yld _ _ rfl) (tmps1 v2)
    have hall:=cv.append (hrep (fn.ntmps-(c1 ++ #[Value.func (.yield (w.heap.size+1)) #[] #[]]++c2).size)) (cv.append hmid (tmps1 v1))
    simpa using hall
  refine callsIn_of_wp_marks hfn hbody trivial ?_ rfl
  have S0:SR (ρ.pinned (w1.heap.size,some (w.heap.size+1,st.next))) ⟨(first ++ .yld st.next::caps)++List.replicate (fn.ntmps-(first ++ .yld st.next::caps).length) (.tup []),fM st.heap st.next (.vs []),st.next+1⟩
      { tmps:=(c1 ++ #[Value.func (.yield (w.heap.size+1)) #[] #[]]++c2)++Array.replicate (fn.ntmps-(c1 ++ #[Value.func (.yield (w.heap.size+1)) #[] #[]]++c2).size) undef,defers:=[] } w1:=⟨Nat.le_refl _,hargs,hH1⟩
  have P0:qx (some ⟨st.next,st.tmps,ps,assign,body⟩) (ρ.pinned (w1.heap.size,some (w.heap.size+1,st.next))) w1 (fM st.heap st.next (.vs [])) (st.next+1) :=
    ⟨nok,Nat.lt_succ_self _,w.heap.size+1,rfl,nlive _ (by omega),.ready,none,by rw [cN,if_pos rfl];rfl,_,hL1,rfl,rfl,rfl,rfl,rfl,tmps1 hs.tmps⟩
  refine hself (some ⟨st.next,st.tmps,ps,assign,body⟩) c _ _ _ _ _ _ h1 ho none _ _ _ w1 _ (.inl hc.1) S0 P0 fun ρ1 a1 w2 P1=>?_
  obtain ⟨s,pe,hst,hbusy,hcase⟩:=Ku hend
  have E1:=P1.stp.ext
  have pin1:ρ1.pin=(w1.heap.size,some (w.heap.size+1,st.next)):=E1.pin
  have key:LeavesInM (FW none) (nn-1) C.P fn a1.tmps (rangePost (FW none) nn C.P (w.heap.size+1) Q { a with defers:=[{ target:=.collected w.heap.size,args:=#[] }]++a.defers }) a1.defers .returning w2:=by
    refine xN (ρ:=ρ1) a1.defers P1.sr.defers fun w3 S3 hb3 hl3=>?_
    refine ⟨.tuple #[],?_,?_⟩
    · have:fn.results = #[]:=by simpa using hc.2
      rw [R0,this]
      simp [Array.mapM_eq_mapM_toList]
    rw [pin1] at hb3
    have same2:∀ b,b<w1.heap.size→¬ ρ.live b→b≠w.heap.size+1→w2.heap[b]? = w1.heap[b]?:=fun b hb hnl hne=>P1.stp.wle.same b hb (by
      rintro (q | ⟨_,k,q⟩)
      · exact hnl q
      · have:(some (w.heap.size+1,st.next):Option (Nat×Nat))=some (b,k):=q
        cases this;exact hne rfl)
    obtain ⟨_,_,L',q3,q4,s',pe',q5,rec,r1,r2,r3,r4,r5,r6,r7⟩:=P1.pin
    have:L'=w.heap.size+1:=by
      rw [show ρ1.pin.2=some (w.heap.size+1,st.next) from by rw [pin1]] at q3;cases q3;rfl
    subst this
    rw [hst] at q5;cases q5
    have hL3:w3.heap[w.heap.size+1]? = some (.loop rec):=(hb3 _ (by show _<w1.heap.size;omega)).trans r1
    refine ⟨_,_,run_endLoop hL3 (by rw [r2];exact hbusy),?_⟩
    have hlt3:w.heap.size+1<w3.heap.size:=(Array.getElem?_eq_some_iff.1 hL3).1
    have S4:sB w3 (w3.putObj (w.heap.size+1) (.loop { rec with state:=.exhausted })):=sB.put hL3 (.inl ⟨_,rfl⟩) (.inl ⟨_,rfl⟩)
    obtain ⟨w4,hw4⟩:∃ w4,w3.putObj (w.heap.size+1) (.loop { rec with state:=.exhausted })=w4:=⟨_,rfl⟩
    rw [hw4] at S4 ⊢
    have same4:∀ b,b≠w.heap.size+1→w4.heap[b]? = w3.heap[b]?:=fun b hb=>by rw [←hw4];exact World.putObj_heap_other hb
    have sameAll:∀ b,b<w1.heap.size→¬ ρ.live b→b≠w.heap.size+1→w4.heap[b]? = w1.heap[b]?:=fun b h1 h2 h3=>(same4 b h3).trans ((hb3 b h1).trans (same2 b h1 h2 h3))
    have W2:=P1.stp.wle
    have W4:gO ρ.live w w4:=by
      refine ⟨S4.os.trans (S3.os.trans (W2.os.trans W1.os)),S4.tape.trans (S3.tape.trans (W2.tape.trans W1.tape)),S4.output.trans (S3.output.trans (W2.output.trans W1.output)),?_,fun b hb hnl=>(sameAll b (by omega) hnl (by omega)).trans (same1 b hb),fun b c t z hcell=>?_⟩
      · rw [S4.size,S3.size];have:=W2.size;omega
      · obtain ⟨c1,k1,k2⟩:=W1.sized b c t z hcell
        obtain ⟨c2,k3,k4⟩:=W2.sized b c1 t z k1
        exact ⟨c2,S4.cells (S3.cells k3),k4.trans k2⟩
    have E4:jZ ρ (ρ1.pinned ρ.pin) w:=⟨E1.at_,E1.ok,E1.live,fun b hb q=>E1.new b (by omega) q,E1.out,rfl⟩
    have P4:pc none ρ w st.next ⟨st.tmps,xx st1.heap st.next,st1.next⟩ (ρ1.pinned ρ.pin) { a with defers:=[{ target:=.collected w.heap.size,args:=#[] }]++a.defers } w4:=by
      refine ⟨.of E4 W4,⟨⟨⟨w.heap.size,rfl,(show ρ.pin.1≤_ from Hk hs.defers),?_,fun q=>nlive _ (Nat.le_refl _) (E1.new w.heap.size (by omega) q),?_,Ni hs.defers⟩,hs.defers.mono E4 W4⟩,hs.tmps.mono E4 W4,?_⟩,Nat.le_trans (Nat.le_succ _) P1.le,fun b q=>?_,trivial⟩
      · have:=W4.size;have:=W2.size;rw [S4.size,S3.size];omega
      · exact (sameAll _ (by omega) (nlive _ (Nat.le_refl _)) (by omega)).trans hD1
      · exact (((P1.sr.heap.soft S3).soft S4).pinned ρ.pin hcl).del _
      · rcases P1.back b q with q | q
        · exact .inl q
        · exact .inr (Nat.le_trans (Nat.le_succ _) q)
    rcases hcase with ⟨rfl,rfl⟩ | ⟨rfl,rfl⟩ | ⟨id,rfl,rfl⟩
    · rw [r3];exact hQ _ _ _ P4
    · rw [r3];exact wpIn_ret (hQ _ _ _ P4)
    · rw [r3];exact wpIn_exit (hQ _ _ _ P4)
  cases e1 with
  | normal=>exact key
  | ret=>exact key
  | exit id=>exact (hne id rfl).elim
theorem ON{C:uR}(hC:C.Ok){run:ev}(hrun:HK C.P run){N:Nat}{self:nR}(hself:vC C.P self) :vC C.P (D7 C run N self):=by
  intro y c st p e st' obs p' h ho ro nn ρ a w Q hm hs hp hQ
  unfold D7 at h
  simp only at h
  split at h
  · simp only [Option.some.injEq,Prod.mk.injEq] at h;obtain ⟨rfl,rfl,rfl,rfl⟩:=h
    exact wpIn_skip (hQ ρ a w (pc.refl hs hp))
  · simp only [Option.some.injEq,Prod.mk.injEq] at h;obtain ⟨rfl,rfl,rfl,rfl⟩:=h
    exact wpIn_label (hQ ρ a w (pc.refl hs hp))
  · exact OM hC hrun (abT hself y) h ho hs hp hQ
  · rename_i x z
    refine wpIn_seq ?_
    split at h
    · rename_i st1 o1 p1 h1
      split at h
      case h_2=>cases h
      rename_i e2 Ax o2 p2 h2
      simp only [Option.some.injEq,Prod.mk.injEq] at h;obtain ⟨rfl,rfl,rfl,rfl⟩:=h
      rw [be] at ho
      refine hself y x st p _ _ _ _ h1 ho.1 ro nn ρ a w _ (hm.sub fun q=>by simp only [fV,Bool.and_eq_true] at q;exact q.1) hs hp fun ρ1 a1 w1 P1=>?_
      exact hself y z st1 p1 _ _ _ _ h2 ho.2 ro nn ρ1 a1 w1 Q ((hm.sub fun q=>by simp only [fV,Bool.and_eq_true] at q;exact q.2).ext P1.stp.ext) P1.sr P1.pin fun ρ2 a2 w2 P2=>hQ ρ2 a2 w2 (P1.trans P2)
    · rename_i hne
      refine hself y x st p _ _ _ _ h ho ro nn ρ a w _ (hm.sub fun q=>by simp only [fV,Bool.and_eq_true] at q;exact q.1) hs hp fun ρ1 a1 w1 P1=>?_
      have:=hQ ρ1 a1 w1 P1
      cases e with
      | normal=>exact (hne _ _ _ h).elim
      | ret=>exact this
      | exit id=>exact this
  · rename_i cc x z
    split at h
    case h_2=>cases h
    rename_i b o1 p1 h1
    split at h
    case h_2=>cases h
    rename_i e2 Ax o2 p2 h2
    simp only [Option.some.injEq,Prod.mk.injEq] at h;obtain ⟨rfl,rfl,rfl,rfl⟩:=h
    rw [be] at ho
    have hb:=AP (xD hs.heap.rom hs.tmps cc) h1 ho.1
    refine wpIn_cond hb ?_
    have hs':SR ρ { st with tmps:=sE st.tmps cc b } a w:=by
      refine ⟨hs.defers,?_,hs.heap⟩
      cases cc with
      | tmp t =>
        simp only [sE,yX]
        have:cv ρ w (st.tmps.set t (.bool true b)) (a.tmps.toList.set t (.bool b)):=hs.tmps.set (.bool _ _) t
        have e:a.tmps.toList.set t (.bool b)=a.tmps.toList:=by
          apply List.ext_getElem?
          intro j
          rw [List.getElem?_set]
          split
          · rename_i q;subst q
            split
            · rename_i hlt
              simp only [Act.eval] at hb
              rw [Array.getD_eq_getD_getElem?] at hb
              have hlt':t<a.tmps.size:=by simpa using hlt
              rw [Array.getElem?_eq_getElem hlt'] at hb
              simp only [Option.getD_some] at hb
              simp [hlt',hb]
            · rename_i hge
              rw [List.getElem?_eq_none (by omega)]
          · rfl
        rw [e] at this;exact this
      | const v=>exact hs.tmps
      | global g=>exact hs.tmps
      | func f=>exact hs.tmps
    have:=hself y _ _ p1 _ _ _ _ h2 ho.2 ro nn ρ a w Q (hm.sub fun q=>by simp only [fV,Bool.and_eq_true] at q;cases b<;>first | exact q.1 | exact q.2) hs' hp hQ
    cases b<;>exact this
  · rename_i id b
    refine wpIn_block ?_
    split at h
    · rename_i id' st1 o1 p1 h1
      cases hid:Nat.beq id' id with
      | true =>
        rw [hid] at h
        simp only [cond_true,Option.some.injEq,Prod.mk.injEq] at h;obtain ⟨rfl,rfl,rfl,rfl⟩:=h
        refine hself y b st p _ _ _ _ h1 ho ro nn ρ a w _ (hm.sub fun q=>by simpa only [fV] using q) hs hp fun ρ1 a1 w1 P1=>?_
        simp only [AE.real,Exit.inBlock,Nat.eq_of_beq_eq_true hid,if_true]
        exact hQ ρ1 a1 w1 P1
      | false =>
        rw [hid] at h
        simp only [cond_false,Option.some.injEq,Prod.mk.injEq] at h;obtain ⟨rfl,rfl,rfl,rfl⟩:=h
        refine hself y b st p _ _ _ _ h1 ho ro nn ρ a w _ (hm.sub fun q=>by simpa only [fV] using q) hs hp fun ρ1 a1 w1 P1=>?_
        have hne : ¬ id'=id:=fun e=>by subst e;simp [nF] at hid
        simp only [AE.real,Exit.inBlock,hne,if_false]
        exact hQ ρ1 a1 w1 P1
    · rename_i hne
      refine hself y b st p _ _ _ _ h ho ro nn ρ a w _ (hm.sub fun q=>by simpa only [fV] using q) hs hp fun ρ1 a1 w1 P1=>?_
      have:=hQ ρ1 a1 w1 P1
      cases e with
      | normal=>exact this
      | ret=>exact this
      | exit id=>exact (hne _ _ _ _ h).elim
  · rename_i b
    exact wpIn_loop_rounds N (Ib (C:=C) (b:=b) (fun st p e st' obs p' h1 h2 ρ a w Q hm=>hself y b st p e st' obs p' h1 h2 ro nn ρ a w Q hm) N st p e st' obs p' h ho ρ a w Q (hm.sub fun q=>by simpa only [fV] using q) hs hp hQ)
  · simp only [Option.some.injEq,Prod.mk.injEq] at h;obtain ⟨rfl,rfl,rfl,rfl⟩:=h
    exact wpIn_exit (hQ ρ a w (pc.refl hs hp))
  · simp only [Option.some.injEq,Prod.mk.injEq] at h;obtain ⟨rfl,rfl,rfl,rfl⟩:=h
    exact wpIn_ret (hQ ρ a w (pc.refl hs hp))
  · rename_i b
    rcases hm with q | ⟨rfl,rfl,hpn⟩
    · cases q
    refine wpIn_wide.2 (wp_scope_straight (wpIn_wide.1 (hself none b st p _ _ _ _ h ho none nn ρ a w _ (.inr ⟨rfl,rfl,hpn⟩) hs hp fun ρ1 a1 w1 P1=>?_)))
    have:=hQ ρ1 a1 w1 P1
    cases e<;>exact this
  · rename_i g ps assign body
    split at h
    case h_2=>cases h
    rcases hm with q | ⟨rfl,_,q⟩
    · cases q
    · exact R1 hC hself h ho q hs hQ
  · cases h
theorem vC.old{P:Program}{self:nR}(h:vC P self) :OL P (self none):=by
  intro c st p e st' obs p' hr ho ρ a w Q hpn hs hQ
  exact wpIn_wide.1 (h none c st p e st' obs p' hr ho none 0 ρ a w Q (.inr ⟨rfl,rfl,hpn⟩) hs trivial fun ρ' a' w' P1=>hQ ρ' a' w' P1.old)
theorem Ie{P:Program}{w:World}{t:TypeId}{x:Value}{u:Value}(hx:∃ a,x=.pointer (some a))(h:(Instr.loadAt t x).run P w=.ok u w) :(do loadVar t (←asAddr x):Sem Value).run P w=.ok u w:=by
  obtain ⟨a,rfl⟩:=hx
  simpa [Instr.loadAt,Instr.sureAddr,asAddr] using h
def If(tmps:Array Value) :ResultVar→Sem Value
  | .tmp t=>pure (tmps.getD t undef)
  | .cell x t=>do loadVar t (←asAddr (tmps.getD x undef))
theorem VY(fn:Func)(tmps:Array Value) :results fn tmps=(do let vs ← fn.results.mapM (If tmps);pure (if h:vs.size=1 then vs[0] else .tuple vs)):=by
  unfold results
  congr 1
theorem xU{P:Program}{fn:Func}{st:aG}{ρ:ae}{a:Act}{w:World}(hs:SR ρ st a w) :∀ (l:List ResultVar) {vs:List AV} {obs:List Bool},jr P fn st l=some (vs,obs)→ay obs →
    ∃ us:List Value,(l.mapM (If a.tmps)).run P w=.ok us w∧cv ρ w vs us
  | [],vs,obs,h,ho=>by
    simp only [jr,Option.some.injEq,Prod.mk.injEq] at h;obtain ⟨rfl,rfl⟩:=h
    exact ⟨[],by simp,.nil⟩
  | .tmp t::l,vs,obs,h,ho=>by
    simp only [jr] at h
    split at h
    case h_2=>cases h
    rename_i vs' o' h1
    simp only [Option.some.injEq,Prod.mk.injEq] at h;obtain ⟨rfl,rfl⟩:=h
    obtain ⟨us,q1,q2⟩:=xU hs l h1 ho
    refine ⟨a.tmps.getD t undef::us,?_,.cons _ _ _ _ (xD hs.heap.rom hs.tmps (.tmp t)) q2⟩
    simp only [List.mapM_cons,If,Sem.run_bind,Sem.run_pure,Result.andThen_ok,q1]
  | .cell x t::l,vs,obs,h,ho=>by
    simp only [jr] at h
    split at h
    case h_2=>cases h
    rename_i v o rs vs' o' h1 h2
    simp only [Option.some.injEq,Prod.mk.injEq] at h;obtain ⟨rfl,rfl⟩:=h
    rw [be] at ho
    obtain ⟨us,q1,q2⟩:=xU hs l h2 ho.2
    have hv:=xD hs.heap.rom hs.tmps (.tmp x)
    simp only [ZX,Act.eval] at hv
    obtain ⟨u,r1,r2⟩:=E7 (P:=P) hs.heap hv h1 ho.1
    have hp:∃ ad,a.tmps.getD x undef=.pointer (some ad):=by
      generalize a.tmps.getD x undef=z at hv
      unfold zP at h1
      simp only at h1
      split at h1
      · rename_i e;rw [e] at hv;cases hv;exact ⟨_,rfl⟩
      · rename_i e;rw [e] at hv;cases hv;exact ⟨_,rfl⟩
      · cases h1
    have:=Ie hp r1
    refine ⟨u::us,?_,.cons _ _ _ _ r2 q2⟩
    simp only [List.mapM_cons,If,Sem.run_bind] at this ⊢
    rw [this]
    simp only [Result.andThen_ok,Sem.run_bind,q1,Sem.run_pure]
theorem R2{P:Program}{fn:Func}{st:aG}{ρ:ae}{a:Act}{w:World}(hs:SR ρ st a w){vs:List AV}{obs:List Bool}(h:jr P fn st fn.results.toList=some (vs,obs))(ho:ay obs) :
    ∃ v,(results fn a.tmps).run P w=.ok v w∧VR ρ w (D8 vs) v:=by
  obtain ⟨us,q1,q2⟩:=xU hs fn.results.toList h ho
  have hl:=q2.length
  have hm:(fn.results.mapM (If a.tmps)).run P w=.ok us.toArray w:=by
    rw [Array.mapM_eq_mapM_toList,map_eq_pure_bind,Sem.run_bind,q1,Result.andThen_ok,Sem.run_pure]
  rw [VY,Sem.run_bind,hm,Result.andThen_ok]
  match vs,us,q2,hl with
  | [],[],q2,_=>exact ⟨.tuple #[],rfl,.tup _ _ .nil⟩
  | [v],[u],q2,_=>cases q2 with | cons _ _ _ _ h1 _=>exact ⟨u,rfl,h1⟩
  | v::v'::vs,u::u'::us,q2,_ =>
    refine ⟨.tuple (u::u'::us).toArray,?_,.tup _ _ q2⟩
    simp
theorem xV{P:Program}{f:FuncId}{fn:Func}{c:Code}(hf:P.funcs[f]? = some fn)(hc:fn.body=some c){lent:List aB}{args:List AV}{r:gd}{keep:Bool} 
    (h:∀ (ρ:ae) (w:World) (a:Act),gV ρ w lent→SR ρ (pT fn lent args) a w →
      c.wp P (fun e a' w'=>(e=.normal∨e=.ret)∧∃ ρ' st' vs obs,jZ ρ ρ' w∧gO ρ.live w w'∧(∀ i,i<lent.length→ρ'.ok i→ρ.ok i)∧SR ρ' st' a' w'∧jr P fn st' fn.results.toList=some (vs,obs)∧ay obs∧H9 lent.length keep st'.heap (D8 vs)=some r) a w):ag P f lent args r:=by
  intro ρ0 w us hN0 hv0
  refine ⟨⟨fn,hf,by rw [hc];rfl⟩,?_⟩
  have hv:=hv0.noPin hN0.pin (w.heap.size,none)
  have hN:gV (ρ0.pinned (w.heap.size,none)) w lent:=⟨hN0.heap.noPin hN0.pin _,hN0.only,rfl⟩
  generalize hρ:ρ0.pinned (w.heap.size,none)=ρ at hv hN
  have hb0:ρ.pin.1=w.heap.size:=by rw [←hρ];rfl
  have hlive:ρ.live=ρ0.live:=by rw [←hρ];rfl
  refine callsIn_wide.1 (callsIn_of_wp_marks (F:=FW none) (n:=0) hf hc trivial (wpIn_wide.2 ?_) rfl)
  have hlen:=hv.length
  have hs:SR ρ (pT fn lent args) { tmps:=us.toArray++Array.replicate (fn.ntmps-us.toArray.size) undef,defers:=[] } w:=by
    refine ⟨Nat.le_of_eq hb0,?_,hN.heap⟩
    simp only [pT,Array.toList_append,Array.toList_replicate,List.size_toArray,hlen]
    refine cv.append ?_ hv
    have:∀ n,cv ρ w (List.replicate n (.tup [])) (List.replicate n undef):=by
      intro n
      induction n with
      | zero=>exact .nil
      | succ n ih=>exact .cons _ _ _ _ (.tup [] #[] .nil) ih
    exact this _
  refine wp_mono (h ρ w _ hN hs) ?_
  rintro e a' w' ⟨he,ρ',st',vs,obs,E,W,hbk,S,hr,hob,hkeep⟩
  have xz:LeavesInM (FW none) 0 P fn a'.tmps (fun e w'=>∃ u,e=.returned u∧gO ρ0.live w w'∧r.Holds ρ0 w w' lent.length u) a'.defers .returning w':=by
    refine xN a'.defers S.defers fun w'' Sf hb _=>?_
    have S':SR ρ' st' { a' with defers:=[] } w'':=⟨by show ρ'.pin.1≤_;rw [Sf.size];exact Hk S.defers,S.tmps.soft Sf,S.heap.soft Sf⟩
    have W':gO ρ.live w w'':=⟨Sf.os.trans W.os,Sf.tape.trans W.tape,Sf.output.trans W.output,by rw [Sf.size];exact W.size,fun b hlt hnl=>(hb b (by rw [E.pin,hb0];exact hlt)).trans (W.same b hlt hnl),fun b c t z q=>by
      obtain ⟨c',k1,k2⟩:=W.sized b c t z q
      exact ⟨c',Sf.cells k1,k2⟩⟩
    obtain ⟨v,q1,q2⟩:=R2 S' hr hob
    refine ⟨v,q1,v,rfl,by rw [←hlive];exact W',?_⟩
    obtain ⟨ρ2,E2,k2,H2,v2⟩:=RZ S'.heap hN E hbk W'.size q2 hkeep
    have hp2:ρ2.pin.2=none:=by rw [E2.pin];exact hN.pin
    subst hρ
    exact ⟨ρ2.pinned ρ0.pin,⟨E2.at_,E2.ok,E2.live,E2.new,E2.out,rfl⟩,k2,H2.noPin hp2 _,v2.noPin hp2 _⟩
  rcases he with rfl | rfl
  · exact xz
  · exact xz
theorem R3{C:uR}{S:xT}(hS:aN C.P S){self:vB}(hself:OL C.P self) :HK C.P (qA C S self):=by
  intro f lent args p r obs p' h ho
  unfold qA at h
  split at h
  · rename_i alts hs
    simp only [Option.map_eq_some_iff,Prod.mk.injEq] at h
    obtain ⟨⟨alt,q⟩,h1,rfl,rfl,rfl⟩:=h
    exact hS f lent args alts alt hs (Y9 h1) ho
  · split at h
    case h_2=>cases h
    rename_i fn hf
    split at h
    case h_2=>cases h
    rename_i c hc
    split at h
    case h_2=>cases h
    rename_i e st o1 p1 hr
    cases hres:jr C.P fn st fn.results.toList with
    | none=>rw [hres] at h;cases e<;>cases h
    | some x =>
      obtain ⟨vs,o2⟩:=x
      rw [hres] at h
      have key:∀ (he:e=.normal∨e=.ret),(match H9 lent.length (C.mode f).keep st.heap (D8 vs) with | some r=>some (r,o1++o2,p1) | none=>none)=some (r,obs,p')→ag C.P f lent args r:=by
        intro he h
        split at h
        case h_2=>cases h
        rename_i r' hk
        simp only [Option.some.injEq,Prod.mk.injEq] at h;obtain ⟨rfl,rfl,rfl⟩:=h
        rw [be] at ho
        refine xV (keep:=(C.mode f).keep) hf hc fun ρ w a hN hs=>?_
        refine hself c _ p e st o1 p1 hr ho.1 ρ a w _ hN.pin hs fun ρ' a' w' P1=>⟨?_,ρ',st,vs,o2,P1.ext,P1.wle,fun i hi q=>?_,P1.sr,hres,ho.2,hk⟩
        · rcases he with rfl | rfl
          · exact .inl rfl
          · exact .inr rfl
        · rcases P1.back i q with q | q
          · exact q
          · simp only [pT] at q;omega
      cases e with
      | normal=>exact key (.inl rfl) h
      | ret=>exact key (.inr rfl) h
      | exit id=>cases h
theorem xW{C:uR}(hC:C.Ok){S:xT}(hS:aN C.P S)(N:Nat) :∀ n,vC C.P (Ch C S N n)
  | 0=>fun y c st p e st' obs p' h=>by cases h
  | n+1=>ON hC (R3 hS (xW hC hS N n).old) (xW hC hS N n)
theorem Ig{C:uR}(hC:C.Ok){S:xT}(hS:aN C.P S)(N:Nat)(n:Nat) :OL C.P (hJ C S N n):=(xW hC hS N n).old
theorem F4{C:uR}(hC:C.Ok){S:xT}(hS:aN C.P S)(N n:Nat){f:FuncId}{lent:List aB}{args:List AV}{p p':dQ}{r:gd}{obs:List Bool}(h:qA C S (hJ C S N n) f lent args p=some (r,obs,p'))(ho:ay obs) :
    ag C.P f lent args r:=R3 hS (Ig hC hS N n) f lent args p r obs p' h ho
def Hl:List (Nat×F3)→Nat→Option F3
  | [],_=>none
  | (k,e)::l,f=>bif Nat.beq k f then some e else Hl l f
def R4:List (Nat×aan)→Nat→aan
  | [],_=>⟨[],false⟩
  | (k,m)::l,f=>bif Nat.beq k f then m else R4 l f
def Yf(P:Program)(l:List (Nat×F3))(ms:List (Nat×aan)) :uR:={ P,ext:=Hl l,mode:=R4 ms,wrap:=false }
theorem Fk:∀ {l:List (Nat×F3)} {f:Nat} {k:F3},Hl l f=some k→(f,k)∈l
  | [],f,k,h=>by cases h
  | (a,e)::l,f,k,h=>by
    simp only [Hl] at h
    cases hb:Nat.beq a f with
    | true=>rw [hb] at h;simp only [cond_true,Option.some.injEq] at h;have:=Nat.eq_of_beq_eq_true hb;subst this;subst h;simp
    | false=>rw [hb] at h;simp only [cond_false] at h;exact List.mem_cons_of_mem _ (Fk h)
structure Nj (P:Program) (f:Nat) (k:F3):Prop where
  fn : ∃ fn, P.funcs[f]? = some fn ∧ (fn.name == "runtime.NumGoroutine") = false ∧ fn.body.isNone = true ∧ Extern.findNext fn = none ∧ Extern.find fn = some (xL k)
def Yg(P : Program) : Bool := P.funcs.toList.all fun fn => !(fn.name == "runtime.NumGoroutine")
theorem aat{P:Program}{l:List (Nat×F3)}{ms:List (Nat×aan)}(hm:P.follows .mixedOrders=true)(hn:Yg P=true)(he:∀ x∈l,Nj P x.1 x.2) :(Yf P l ms).Ok:=by
  refine ⟨hm,fun f fn args w hf hb=>?_,fun f k args w hk=>?_⟩
  · have h1 : fn.name ≠ "runtime.NumGoroutine" := by
      have hmem:fn∈P.funcs.toList:=by
        have:fn∈P.funcs:=Array.mem_of_getElem? hf
        simpa using this
      have:=List.all_eq_true.1 hn fn hmem
      simpa using this
    have h2:fn.body≠none:=by intro q;rw [q] at hb;cases hb
    have hf':P.funcs[f]? = some fn:=hf
    have h3:fn.body.isNone=false:=by cases hq:fn.body<;>simp_all
    simp only [Yf,callFunc,Sem.run_bind,run_program,Result.andThen_ok,hf',beq_eq_false_iff_ne.2 h1,Bool.false_eq_true,if_false,h3,Sem.run_pure]
  · obtain ⟨fn,h1,h2,h3,h4,h5⟩:=(he _ (Fk hk)).fn
    have:=run_callFunc_extern (P:=P) h1 h2 h3 h4 h5 args w
    simp only [Yf]
    rw [this,Sem.run_bind]
    rfl
def At(k:Nat)(ρ0:ae)(w0:World)(st:aG)(a:Act)(w:World) :Prop:=∃ ρ,jZ ρ0 ρ w0∧gO ρ0.live w0 w∧SR ρ st a w∧(∀ i,i<k→ρ.ok i→ρ0.ok i)∧k≤st.next
def Zb(lent:List aB)(st st':aG) :Prop:=∀ ρ0 w0 a w,gV ρ0 w0 lent→At lent.length ρ0 w0 st a w→At lent.length ρ0 w0 st' a w
theorem Zb.refl(lent:List aB)(st:aG) :Zb lent st st:=fun _ _ _ _ _ h=>h
theorem Zb.trans{lent:List aB}{a b c:aG}(h:Zb lent a b)(k:Zb lent b c) :Zb lent a c:=fun _ _ _ _ hN q=>k _ _ _ _ hN (h _ _ _ _ hN q)
def R5:AV→AV
  | .flt _ x=>.flt false x
  | .bool _ b=>.bool false b
  | v=>v
def nmB(σ:Nat→Option Nat) :aB→aB
  | .vs l=>.vs ((ZY σ l).map R5)
  | d=>d
def D9(σ:Nat→Option Nat)(h:bC) :Nat→List Nat→bC
  | _,[]=>[]
  | i,b::l=>match bf h b with
    | some d=>(i,nmB σ d)::D9 σ h (i+1) l
    | none=>D9 σ h (i+1) l
def adh(b:Bool)(v u:AV) :AV :=
  match b with
  | true=>v
  | false=>u
def acm:List (Nat×AV)→Nat→AV
  | [],_=>.any
  | (k,v)::l,t=>adh (Nat.beq k t) v (acm l t)
def Nk(L:List (Nat×AV)) :Nat→Nat→List AV
  | _,0=>[]
  | t,n+1=>acm L t::Nk L (t+1) n
def ah(n:Nat)(L:List (Nat×AV)) :List AV:=Nk L 0 n
def nmT(σ:Nat→Option Nat)(ks:List Nat) :Nat→List AV→List AV
  | _,[]=>[]
  | t,v::l=>(bif qO ks t then R5 (nmA σ v) else .any)::nmT σ ks (t+1) l
def norm(keep ks:List Nat)(st:aG) :aG :=
  ⟨nmT (kY keep 0) ks 0 st.tmps,D9 (kY keep 0) st.heap 0 keep,keep.length⟩
theorem R6{ρ:ae}{w:World}{v:AV}{u:Value}(h:VR ρ w v u) :VR ρ w (R5 v) u:=by
  cases h<;>simp only [R5]<;>first | exact .bool _ _ | (rename_i hf;refine .flt _ _ _ ?_;rcases hf with rfl | ⟨_,h2,h3⟩;exact .inl rfl;exact .inr ⟨rfl,h2,h3⟩) | skip
  case int=>exact .int _ _
  case str=>exact .str _
  case nptr=>exact .nptr
  case ptr hb=>exact .ptr _ _ _ _ hb
  case iptr=>rename_i bw d k i j bl o u' ha hb hr hg hc hv hk;exact .iptr bw d k i j bl o _ (by assumption) (by assumption) (by assumption) (by assumption) (by assumption) (by assumption) (by assumption)
  case nsl=>exact .nsl
  case esl=>exact .esl _
  case zsl=>exact .zsl _ _
  case nan=>exact .nan _ (by assumption)
  case sl=>exact .sl _ _ _ _ _ _ _ (by assumption) (by assumption) (by assumption) _ _ (by assumption) (by assumption)
  case slEnd=>exact .slEnd _ _ _ _ _
  case imm=>exact .imm _ _ _ _ _ _ _ _ _ _ (by assumption) (by assumption) (by assumption) (by assumption) (by assumption) (by assumption) (by assumption) (by assumption)
  case immEnd=>exact .immEnd _ _ _ _ _ _ _ (by assumption) (by assumption) (by assumption)
  case fn=>exact .fn _ _ _ _ _ (by assumption) (by assumption)
  case nfn=>exact .nfn
  case gmap=>exact .gmap _ _ _ _ _ _ (by assumption) (by assumption) (by assumption) (by assumption) (by assumption) (by assumption) (by assumption) (by assumption)
  case gvar=>exact .gvar _ _ _ _ (by assumption) (by assumption) (by assumption)
  case agg=>exact .agg _ _ (by assumption)
  case tup=>exact .tup _ _ (by assumption)
  case iface=>exact .iface _ _ _ (by assumption)
  case niface=>exact .niface
  case yld=>exact .yld _ _ (by assumption)
  case any=>exact .any _
theorem aau{ρ:ae}{keep ks:List Nat}{w:World} :∀ (l:List AV) (t:Nat) {c:List Value},cv ρ w l c→cv (ρ.renamed keep) w (nmT (kY keep 0) ks t l) c
  | [],t,c,h=>by cases h;exact .nil
  | v::l,t,c,h=>by
    cases h with | cons _ u _ c' h1 h2 =>
    simp only [nmT]
    refine .cons _ _ _ _ ?_ (aau l (t+1) h2)
    cases qO ks t with
    | true=>exact R6 (Nh v h1)
    | false=>exact .any u
theorem vD{σ:Nat→Option Nat}{h:bC} :∀ {l:List Nat} {i c:Nat} {d:aB},bf (D9 σ h i l) c=some d→i≤c∧∃ b e,l[c-i]? = some b∧bf h b=some e∧d=nmB σ e
  | [],i,c,d,q=>by cases q
  | b::l,i,c,d,q=>by
    simp only [D9] at q
    have next:bf (D9 σ h (i+1) l) c=some d→i≤c∧∃ b' e,(b::l)[c-i]? = some b'∧bf h b'=some e∧d=nmB σ e:=by
      intro q
      obtain ⟨h1,b',e,h2,h3,h4⟩:=vD q
      refine ⟨by omega,b',e,?_,h3,h4⟩
      have:c-i=(c-(i+1))+1:=by omega
      rw [this];simpa using h2
    split at q
    · rename_i e he
      simp only [eB,dv] at q
      cases hc:Nat.beq i c with
      | true =>
        rw [hc] at q;simp only [cond_true,Option.some.injEq] at q
        have:=Nat.eq_of_beq_eq_true hc;subst this
        exact ⟨Nat.le_refl _,b,e,by simp,he,q.symm⟩
      | false=>rw [hc] at q;exact next q
    · exact next q
theorem aav{σ:Nat→Option Nat}{d:aB}(h:d.recKept) :(nmB σ d).recKept:=by
  cases d<;>first | exact h | trivial
theorem R7{σ:Nat→Option Nat}{d:aB}{x:Nat}{v:AV}(h:(nmB σ d).cell? x=some v)(hr:d.recKept) :∃ v',d.cell? x=some v'∧(v=R5 (nmA σ v')∨(v=v'∧v.foreign=true)):=by
  cases d with
  | vs l =>
    simp only [nmB,aB.cell?,List.getElem?_map,OK,Option.map_map,Option.map_eq_some_iff,Function.comp] at h
    obtain ⟨v',h1,rfl⟩:=h
    exact ⟨v',h1,.inl rfl⟩
  | fl xs=>exact ⟨v,h,.inr ⟨rfl,aV (d:=.fl xs) hr rfl x v h⟩⟩
  | ns k xs=>exact ⟨v,h,.inr ⟨rfl,aV (d:=.ns k xs) hr rfl x v h⟩⟩
  | bs xs=>exact ⟨v,h,.inr ⟨rfl,aV (d:=.bs xs) hr rfl x v h⟩⟩
  | ss xs=>exact ⟨v,h,.inr ⟨rfl,aV (d:=.ss xs) hr rfl x v h⟩⟩
  | rows k m get=>exact ⟨v,h,.inr ⟨rfl,aV (d:=.rows k m get) hr rfl x v h⟩⟩
  | cols m cs=>exact ⟨v,h,.inr ⟨rfl,aV (d:=.cols m cs) hr rfl x v h⟩⟩
def OO:Nat→Nat→List Nat→Bool
  | 0,_,_=>true
  | _+1,_,[]=>false
  | k+1,i,b::l=>Nat.beq b i&&OO k (i+1) l
theorem Ih:∀ {k i:Nat} {l:List Nat},OO k i l=true→∀ j,j<k→l[j]? = some (i+j)
  | 0,i,l,_,j,hj=>by omega
  | k+1,i,[],h,j,hj=>by cases h
  | k+1,i,b::l,h,j,hj=>by
    simp only [OO,Bool.and_eq_true] at h
    cases j with
    | zero=>simp;exact Nat.eq_of_beq_eq_true h.1
    | succ j=>simp only [List.getElem?_cons_succ];rw [Ih h.2 j (by omega)];congr 1;omega
def VZ(k:Nat)(keep:List Nat) :Bool:=vv keep&&OO k 0 keep
theorem aaw{lent:List aB}{keep ks:List Nat}(hk:VZ lent.length keep=true)(st:aG) :Zb lent st (norm keep ks st):=by
  unfold VZ at hk
  rw [Bool.and_eq_true] at hk
  obtain ⟨hn,hid⟩:=hk
  have idL:∀ {i:Nat},i<lent.length→keep[i]? = some i:=fun q=>by have:=Ih hid _ q;simpa using this
  have atL:∀ {ρ:ae} {i b:Nat},keep[i]? = some b→(ρ.renamed keep).at_ i=ρ.at_ b:=fun q=>by simp [ae.renamed,q]
  rintro ρ0 w0 a w hN ⟨ρ,E,W,S,hbk,hle⟩
  refine ⟨ρ.renamed keep,⟨fun b q=>?_,fun b q=>⟨b,idL (hN.heap.lt b q),E.ok b q⟩,E.live,E.new,E.out,E.pin⟩,W,⟨S.defers.renamed,aau _ _ S.tmps,?_⟩,fun i hi q=>?_,?_⟩
  · rw [atL (idL (hN.heap.lt b q))];exact E.at_ b q
  · have hh:=S.heap
    refine ⟨fun c d q=>?_,fun c c' d d' q q' ok1 ok2 he=>?_,hh.fresh,hh.liveLt,hh.outLt,fun c q=>?_,fun x hx=>eD (hh.rom x hx) (gh (Rom.kept x hx))⟩
    · obtain ⟨_,b,e,h1,h2,rfl⟩:=vD q
      rw [Nat.sub_zero] at h1
      rcases hh.cell b e h2 with ⟨k1,k2,hr,ce,t,r1,r2⟩ | ⟨k1,k2,k3,k4⟩
      · refine .inl ⟨⟨b,h1,k1⟩,by rw [atL h1];exact k2,aav hr,ce,t,by rw [atL h1];exact r1,fun x v hx=>?_⟩
        obtain ⟨v',s1,s2⟩:=R7 hx hr
        obtain ⟨u,t1,t2⟩:=r2 x v' s1
        refine ⟨u,t1,?_⟩
        rcases s2 with rfl | ⟨rfl,hf⟩
        · exact R6 (Nh v' t2)
        · exact eD t2 hf
      · refine .inr ⟨?_,(List.getElem?_eq_some_iff.1 h1).1,aav k3,fun x=>?_⟩
        · rintro ⟨b',q1,q2⟩
          rw [h1] at q1;cases q1
          exact k1 q2
        · cases hc:(nmB (kY keep 0) e).cell? x with
          | none=>rfl
          | some v=>obtain ⟨v',s1,_⟩:=R7 hc k3;rw [k4 x] at s1;cases s1
    · obtain ⟨_,b,e,h1,h2,rfl⟩:=vD q
      obtain ⟨_,b',e',h1',h2',rfl⟩:=vD q'
      rw [Nat.sub_zero] at h1 h1'
      obtain ⟨x,x1,x2⟩:=ok1
      obtain ⟨y,y1,y2⟩:=ok2
      rw [h1] at x1;cases x1
      rw [h1'] at y1;cases y1
      rw [atL h1,atL h1'] at he
      have:=hh.inj b b' e e' h2 h2' x2 y2 he
      subst this
      exact vw hn h1 h1'
    · obtain ⟨b,h1,_⟩:=q
      exact (List.getElem?_eq_some_iff.1 h1).1
  · obtain ⟨b,q1,q2⟩:=q
    rw [idL hi] at q1;cases q1
    exact hbk i hi q2
  · simp only [norm]
    rcases Nat.lt_or_ge keep.length lent.length with q | q
    · have:=idL q
      rw [List.getElem?_eq_none (Nat.le_refl _)] at this;cases this
    · exact q
inductive GP where
  | slot (t:Nat)
  | part (t i:Nat)
  | cell (b i:Nat)
def fY.empty:fY→Bool
  | .cf [] | .ci _ [] | .cb [] | .cs [] | .cfl [] | .cns _ []=>true
  | _=>false
def Ck:List fY→Bool
  | []=>true
  | c::l=>c.empty&&Ck l
def aB.isVoid:aB→Bool
  | .fl [] | .ns _ [] | .bs [] | .ss [] | .vs []=>true
  | .cols 0 cs=>Ck cs
  | _=>false
theorem Ii{c:fY}(h:c.empty=true) :c.len=0:=by
  unfold fY.empty at h
  split at h<;>first | rfl | cases h
theorem uq:∀ {l:List fY},Ck l=true→∀ c∈l,c.len=0
  | [],_,c,hc=>by cases hc
  | c::l,h,x,hx=>by
    simp only [Ck,Bool.and_eq_true] at h
    rcases List.mem_cons.1 hx with rfl | q
    · exact Ii h.1
    · exact uq h.2 x q
theorem xX{d:aB}(h:d.isVoid=true) :d.recKept∧d.void:=by
  unfold aB.isVoid at h
  split at h
  case h_6 =>
    rename_i cs
    have:=uq h
    refine ⟨this,fun x=>?_⟩
    cases hc:(aB.cols 0 cs).cell? x with
    | none=>rfl
    | some v =>
      obtain ⟨c,_,h2,h3⟩:=gw hc
      have:=xB h3
      rw [uq h c h2] at this;exact absurd this (Nat.not_lt_zero _)
  case h_7=>cases h
  all_goals exact ⟨trivial,fun x=>by simp [aB.cell?]⟩
theorem Ij(b w es:Nat) :bg .nsl (.sl b w es 0 0 0):=by
  intro ρ w' u h;cases h;exact .slEnd _ _ _ _ _
theorem HR.weaken{ρ:ae}{w:World}{h:bC}{n b:Nat}{d d':aB}(hh:HR ρ w h n)(hg:bf h b=some d)(hr:d'.recKept)(hw:∀ x v',d'.cell? x=some v'→∃ v,d.cell? x=some v∧bg v v') :HR ρ w (fM h b d') n:=by
  have look:∀ x e,bf (fM h b d') x=some e→(x=b∧e=d')∨(x≠b∧bf h x=some e):=by
    intro x e hx
    rw [cN] at hx
    by_cases q:b=x
    · rw [if_pos q] at hx;cases hx;exact .inl ⟨q.symm,rfl⟩
    · rw [if_neg q] at hx;exact .inr ⟨fun e=>q e.symm,hx⟩
  have had:∀ x e,bf (fM h b d') x=some e→∃ e',bf h x=some e':=by
    intro x e hx
    rcases look x e hx with ⟨rfl,_⟩ | ⟨_,q⟩
    · exact ⟨d,hg⟩
    · exact ⟨e,q⟩
  refine ⟨fun x e hx=>?_,fun x y e f h1 h2 ok1 ok2 he=>?_,hh.fresh,hh.liveLt,hh.outLt,hh.lt,hh.rom⟩
  · rcases look x e hx with ⟨rfl,rfl⟩ | ⟨_,q⟩
    · rcases hh.cell x d hg with ⟨k1,k2,_,c,t,r1,r2⟩ | ⟨k1,k2,_,k4⟩
      · refine .inl ⟨k1,k2,hr,c,t,r1,fun y v' hy=>?_⟩
        obtain ⟨v,q1,q2⟩:=hw y v' hy
        obtain ⟨u,t1,t2⟩:=r2 y v q1
        exact ⟨u,t1,q2 _ _ _ t2⟩
      · refine .inr ⟨k1,k2,hr,fun y=>?_⟩
        cases hc:e.cell? y with
        | none=>rfl
        | some v'=>obtain ⟨v,q1,_⟩:=hw y v' hc;rw [k4 y] at q1;cases q1
    · exact hh.cell x e q
  · obtain ⟨e',q1⟩:=had x e h1
    obtain ⟨f',q2⟩:=had y f h2
    exact hh.inj x y e' f' q1 q2 ok1 ok2 he
def V0(st:aG)(pos:GP)(w es:Nat)(d:aB) :aG :=
  match pos with
  | .slot t =>
    match st.tmps[t]? with
    | some .nsl=>⟨st.tmps.set t (.sl st.next w es 0 0 0),fM st.heap st.next d,st.next+1⟩
    | some .esl=>⟨st.tmps.set t (.sl st.next w es 0 0 0),fM st.heap st.next d,st.next+1⟩
    | _=>st
  | .part t i =>
    match st.tmps[t]? with
    | some (.agg l) =>
      match l[i]? with
      | some .nsl=>⟨st.tmps.set t (.agg (l.set i (.sl st.next w es 0 0 0))),fM st.heap st.next d,st.next+1⟩
      | _=>st
    | _=>st
  | .cell b i =>
    match bf st.heap b with
    | some (.vs l) =>
      match l[i]? with
      | some .nsl=>⟨st.tmps,fM (fM st.heap b (.vs (l.set i (.sl st.next w es 0 0 0)))) st.next d,st.next+1⟩
      | _=>st
    | _=>st
theorem aax(b w es:Nat) :bg .esl (.sl b w es 0 0 0):=by
  intro ρ w' u h;cases h;exact .slEnd _ _ _ _ _
theorem tA{ρ:ae}{w:World} :∀ {l:List AV} {c:List Value} {i:Nat} {v v':AV},cv ρ w l c→l[i]? = some v→bg v v'→cv ρ w (l.set i v') c
  | _,_,i,v,v',.nil,h,_=>by simp at h
  | _,_,0,v,v',.cons a u l c h t,hi,hw=>by simp at hi;subst hi;exact .cons _ _ _ _ (hw _ _ _ h) t
  | _,_,i+1,v,v',.cons a u l c h t,hi,hw=>.cons _ _ _ _ h (tA t (by simpa using hi) hw)
theorem V1{lent:List aB}{st:aG}{pos:GP}{w es:Nat}{d:aB}(hd:d.isVoid=true) :Zb lent st (V0 st pos w es d):=by
  obtain ⟨d1,d2⟩:=xX hd
  rintro ρ0 w0 a w' hN ⟨ρ,E,W,S,hbk,hle⟩
  have hh:=S.heap
  have hno : ¬ ρ.ok st.next:=fun q=>Nat.lt_irrefl _ (hh.lt _ q)
  have h1:HR ρ w' (fM st.heap st.next d) (st.next+1):=(hh.le (Nat.le_succ _)).ghost hno (Nat.lt_succ_self _) d1 d2
  have id_:At lent.length ρ0 w0 st a w':=⟨ρ,E,W,S,hbk,hle⟩
  unfold V0
  split
  · split
    · rename_i t h
      exact ⟨ρ,E,W,⟨S.defers,tA S.tmps h (Ij _ _ _),h1⟩,hbk,Nat.le_succ_of_le hle⟩
    · rename_i t h
      exact ⟨ρ,E,W,⟨S.defers,tA S.tmps h (aax _ _ _),h1⟩,hbk,Nat.le_succ_of_le hle⟩
    · exact id_
  · split
    · rename_i t i l h
      split
      · rename_i h2
        refine ⟨ρ,E,W,⟨S.defers,tA S.tmps h ?_,h1⟩,hbk,Nat.le_succ_of_le hle⟩
        intro ρ w u hu
        cases hu with | agg _ c hc=>exact .agg _ _ (tA hc h2 (Ij _ _ _))
      · exact id_
    · exact id_
  · split
    · rename_i b i _ l h
      split
      · rename_i h2
        have hw:HR ρ w' (fM st.heap b (.vs (l.set i (.sl st.next w es 0 0 0)))) st.next:=by
          refine hh.weaken h trivial fun x v' hx=>?_
          simp only [aB.cell?,List.getElem?_set] at hx ⊢
          by_cases hi:i=x
          · subst hi
            rw [if_pos rfl] at hx
            split at hx
            · cases hx;exact ⟨_,h2,Ij _ _ _⟩
            · cases hx
          · rw [if_neg hi] at hx;exact ⟨v',hx,bg.refl _⟩
        exact ⟨ρ,E,W,⟨S.defers,S.tmps,(hw.le (Nat.le_succ _)).ghost hno (Nat.lt_succ_self _) d1 d2⟩,hbk,Nat.le_succ_of_le hle⟩
      · exact id_
    · exact id_
def Ik(f:AV→Option AV)(st:aG)(pos:GP) :aG :=
  match pos with
  | .slot t =>
    match st.tmps[t]? with
    | some v=>match f v with
      | some v'=>⟨st.tmps.set t v',st.heap,st.next⟩
      | none=>st
    | none=>st
  | .part t i =>
    match st.tmps[t]? with
    | some (.agg l) =>
      match l[i]? with
      | some v=>match f v with
        | some v'=>⟨st.tmps.set t (.agg (l.set i v')),st.heap,st.next⟩
        | none=>st
      | none=>st
    | _=>st
  | .cell b i =>
    match bf st.heap b with
    | some (.vs l) =>
      match l[i]? with
      | some v=>match f v with
        | some v'=>⟨st.tmps,fM st.heap b (.vs (l.set i v')),st.next⟩
        | none=>st
      | none=>st
    | _=>st
theorem AX{lent:List aB}{st:aG}{pos:GP}{f:AV→Option AV}(hf:∀ v v',f v=some v'→bg v v') :Zb lent st (Ik f st pos):=by
  rintro ρ0 w0 a w' hN ⟨ρ,E,W,S,hbk,hle⟩
  have hh:=S.heap
  have id_:At lent.length ρ0 w0 st a w':=⟨ρ,E,W,S,hbk,hle⟩
  unfold Ik
  split
  · split
    · rename_i t v h
      split
      · rename_i v' hv
        exact ⟨ρ,E,W,⟨S.defers,tA S.tmps h (hf _ _ hv),hh⟩,hbk,hle⟩
      · exact id_
    · exact id_
  · split
    · rename_i t i l h
      split
      · rename_i v h2
        split
        · rename_i v' hv
          refine ⟨ρ,E,W,⟨S.defers,tA S.tmps h ?_,hh⟩,hbk,hle⟩
          intro ρ w u hu
          cases hu with | agg _ c hc=>exact .agg _ _ (tA hc h2 (hf _ _ hv))
        · exact id_
      · exact id_
    · exact id_
  · split
    · rename_i b i _ l h
      split
      · rename_i v h2
        split
        · rename_i v' hv
          have hw:HR ρ w' (fM st.heap b (.vs (l.set i v'))) st.next:=by
            refine hh.weaken h trivial fun x u hx=>?_
            simp only [aB.cell?,List.getElem?_set] at hx ⊢
            by_cases hi:i=x
            · subst hi
              rw [if_pos rfl] at hx
              split at hx
              · cases hx;exact ⟨_,h2,hf _ _ hv⟩
              · cases hx
            · rw [if_neg hi] at hx;exact ⟨u,hx,bg.refl _⟩
          exact ⟨ρ,E,W,⟨S.defers,S.tmps,hw⟩,hbk,hle⟩
        · exact id_
      · exact id_
    · exact id_
theorem tB{d:aB}(h:d.isVoid=true) :d.kept=true∧d.foreign=true:=by
  unfold aB.isVoid at h
  split at h<;>first | exact ⟨rfl,rfl⟩ | cases h
theorem Zc{d:aB}(w es:Nat)(hd:d.isVoid=true) :bg .nsl (.imm .free d w es 0 0):=by
  intro ρ w' u h;cases h;exact .immEnd _ _ _ _ _ _ _ (xX hd).1 (fun _=>(tB hd).1) (tB hd).2
theorem Zd{d:aB}(w es:Nat)(hd:d.isVoid=true) :bg .esl (.imm .free d w es 0 0):=by
  intro ρ w' u h;cases h;exact .immEnd _ _ _ _ _ _ _ (xX hd).1 (fun _=>(tB hd).1) (tB hd).2
def V2(w es:Nat)(d:aB) :AV→Option AV
  | .nsl | .esl=>some (.imm .free d w es 0 0)
  | _=>none
theorem R8{w es:Nat}{d:aB}(hd:d.isVoid=true) :∀ v v',V2 w es d v=some v'→bg v v':=by
  intro v v' h
  unfold V2 at h
  split at h
  · cases h;exact Zc _ _ hd
  · cases h;exact Zd _ _ hd
  · cases h
theorem Yh{l:Lv}{ρ:ae}{bl:Nat}(ha:ρ.avoid .free bl) :ρ.avoid l bl:=jM (fun j=>ha j (Nat.zero_le _)) _ _
def acQ(l:Lv) :AV→Option AV
  | .imm .free d w es i n=>some (.imm l d w es i n)
  | .iptr .free d w i j=>some (.iptr l d w i j)
  | _=>none
theorem Ze{l:Lv} :∀ v v',acQ l v=some v'→bg v v':=by
  intro v v' h
  unfold acQ at h
  split at h
  · cases h
    intro ρ w' u hu
    cases hu with
    | imm _ _ _ _ _ _ cap bl o u ha hb hc hv hn hr hk hg=>exact .imm _ _ _ _ _ _ cap bl o u (Yh ha) hb hc hv hn hr (fun _=>hk rfl) hg
    | immEnd _ _ _ _ _ cap a hr hk hg=>exact .immEnd _ _ _ _ _ cap a hr (fun _=>hk rfl) hg
  · cases h
    intro ρ w' u hu
    cases hu with
    | iptr _ _ _ _ _ bl o u ha hb hc hv hr hk hg=>exact .iptr _ _ _ _ _ bl o u (Yh ha) hb hc hv hr (fun _=>hk rfl) hg
  · cases h
def aay:AV→Option AV
  | .imm _ d w es i n=>some (.imm .lent d w es i n)
  | .iptr _ d w i j=>some (.iptr .lent d w i j)
  | _=>none
theorem V3:∀ v v',aay v=some v'→bg v v':=by
  intro v v' h
  unfold aay at h
  split at h
  · cases h
    intro ρ w' u hu
    cases hu with
    | imm _ _ _ _ _ _ cap bl o u ha hb hc hv hn hr hk hg=>exact .imm _ _ _ _ _ _ cap bl o u (AF (O:=ρ.own) ha) hb hc hv hn hr (fun q=>by cases q) hg
    | immEnd _ _ _ _ _ cap a hr hk hg=>exact .immEnd _ _ _ _ _ cap a hr (fun q=>by cases q) hg
  · cases h
    intro ρ w' u hu
    cases hu with
    | iptr _ _ _ _ _ bl o u ha hb hc hv hr hk hg=>exact .iptr _ _ _ _ _ bl o u (AF (O:=ρ.own) ha) hb hc hv hr (fun q=>by cases q) hg
  · cases h
inductive GK where
  | own (w es:Nat) (d:aB)
  | fre (w es:Nat) (d:aB)
  | lev (l:Lv)
  | low
abbrev GL:=List (GP×GK)
def Ea:GL→aG→aG
  | [],st=>st
  | (p,.fre w es d)::l,st=>Ea l (Ik (V2 w es d) st p)
  | (p,.own w es d)::l,st=>Ea l (V0 st p w es d)
  | (p,.lev v)::l,st=>Ea l (Ik (acQ v) st p)
  | (p,.low)::l,st=>Ea l (Ik aay st p)
def lB:GL→Bool
  | []=>true
  | (_,.own _ _ d)::l=>d.isVoid&&lB l
  | (_,.fre _ _ d)::l=>d.isVoid&&lB l
  | (_,.lev _)::l=>lB l
  | (_,.low)::l=>lB l
theorem sF{lent:List aB} :∀ {l:GL} {st:aG},lB l=true→Zb lent st (Ea l st)
  | [],st,_=>Zb.refl _ _
  | (p,.fre w es d)::l,st,h=>by
    simp only [lB,Bool.and_eq_true] at h
    exact (AX (R8 h.1)).trans (sF h.2)
  | (p,.own w es d)::l,st,h=>by
    simp only [lB,Bool.and_eq_true] at h
    exact (V1 h.1).trans (sF h.2)
  | (p,.lev v)::l,st,h=>(AX Ze).trans (sF (l:=l) (by simpa [lB] using h))
  | (p,.low)::l,st,h=>(AX V3).trans (sF (l:=l) (by simpa [lB] using h))
structure NS where
  gs:GL
  keep:List Nat
  ks:List Nat
def NS.ok(k:Nat)(s:NS) :Bool:=lB s.gs&&VZ k s.keep
def NS.on(s:NS)(st:aG) :aG:=norm s.keep s.ks (Ea s.gs st)
theorem aaz{lent:List aB}{s:NS}(h:s.ok lent.length=true)(st:aG) :Zb lent st (s.on st):=by
  unfold NS.ok at h
  rw [Bool.and_eq_true] at h
  exact (sF h.1).trans (aaw h.2 _)
def cR:Code→List Code
  | .seq a b=>cR a++cR b
  | .skip=>[]
  | .label _=>[]
  | c=>[c]
def Ke(P:Program) :List Code→(Exit→Act→World→Prop)→Act→World→Prop
  | [],K,a,w=>K .normal a w
  | c::l,K,a,w=>c.wp P (fun e a' w'=>match e with | .normal=>Ke P l K a' w' | e=>K e a' w') a w
theorem AY{P:Program}{K:Exit→Act→World→Prop} :∀ (l l':List Code) (a:Act) (w:World),Ke P l (fun e a' w'=>match e with | .normal=>Ke P l' K a' w' | e=>K e a' w') a w→Ke P (l++l') K a w
  | [],l',a,w,h=>h
  | c::l,l',a,w,h=>by
    simp only [List.cons_append,Ke] at h ⊢
    refine wp_mono h ?_
    intro e a' w' q
    cases e<;>first | exact AY l l' a' w' q | exact q
theorem ur{P:Program}{c:Code}{K:Exit→Act→World→Prop}{a:Act}{w:World}(h:Ke P [c] K a w) :c.wp P K a w:=by
  simp only [Ke] at h
  refine wp_mono h ?_
  intro e a' w' q
  cases e<;>exact q
theorem vE{P:Program} :∀ (c:Code) {K:Exit→Act→World→Prop} {a:Act} {w:World},Ke P (cR c) K a w→c.wp P K a w
  | .seq x y,K,a,w,h=>by
    simp only [cR] at h
    refine wp_seq (vE x ?_)
    have app:∀ (l l':List Code) (a:Act) (w:World),Ke P (l++l') K a w→Ke P l (fun e a' w'=>match e with | .normal=>Ke P l' K a' w' | e=>K e a' w') a w:=by
      intro l
      induction l with
      | nil=>intro l' a w h;exact h
      | cons c l ih =>
        intro l' a w h
        simp only [List.cons_append,Ke] at h ⊢
        refine wp_mono h ?_
        intro e a' w' q
        cases e<;>first | exact ih l' a' w' q | exact q
    have:=app _ _ _ _ h
    have mono:∀ (l:List Code) (K K':Exit→Act→World→Prop) (a:Act) (w:World),(∀ e a w,K e a w→K' e a w)→Ke P l K a w→Ke P l K' a w:=by
      intro l
      induction l with
      | nil=>intro K K' a w hK h;exact hK _ _ _ h
      | cons c l ih =>
        intro K K' a w hK h
        simp only [Ke] at h ⊢
        refine wp_mono h ?_
        intro e a' w' q
        cases e<;>first | exact ih K K' a' w' hK q | exact hK _ _ _ q
    refine mono _ _ _ _ _ ?_ this
    intro e a' w' q
    cases e<;>first | exact vE y q | exact q
  | .skip,K,a,w,h=>wp_skip h
  | .label _,K,a,w,h=>wp_label h
  | .region ..,K,a,w,h=>ur h
  | .cond ..,K,a,w,h=>ur h
  | .block ..,K,a,w,h=>ur h
  | .loop ..,K,a,w,h=>ur h
  | .exit ..,K,a,w,h=>ur h
  | .ret,K,a,w,h=>ur h
  | .scope ..,K,a,w,h=>ur h
  | .goto ..,K,a,w,h=>ur h
  | .rangeFunc ..,K,a,w,h=>ur h
  | .refuse ..,K,a,w,h=>ur h
def gQ(P:Program)(lent:List aB)(cs:List Code)(st:aG)(Q:AE→aG→Prop) :Prop :=
  ∀ (ρ0:ae) (w0:World),gV ρ0 w0 lent→∀ (K:Exit→Act→World→Prop),(∀ e st' a' w',Q e st'→At lent.length ρ0 w0 st' a' w'→K e.real a' w')→∀ a w,At lent.length ρ0 w0 st a w→Ke P cs K a w
def Zf(self:vB) :List Code→aG→dQ→Res
  | [],st,p=>some (.normal,st,[],p)
  | c::l,st,p =>
    match self c st p with
    | some (.normal,st1,o1,p1) =>
      match Zf self l st1 p1 with
      | some (e,Ax,o2,p2)=>some (e,Ax,o1++o2,p2)
      | none=>none
    | r=>r
theorem Yi{P:Program}{self:vB}(hself:OL P self) :∀ (cs:List Code) {st st':aG} {p p':dQ} {e:AE} {obs:List Bool},Zf self cs st p=some (e,st',obs,p')→ay obs→∀ {ρ:ae} {a:Act} {w:World} {Q:Exit→Act→World→Prop},ρ.pin.2=none→SR ρ st a w →
    (∀ ρ' a' w',HP ρ w st.next st' ρ' a' w'→Q e.real a' w')→Ke P cs Q a w
  | [],st,st',p,p',e,obs,h,ho,ρ,a,w,Q,hpn,hs,hQ=>by
    simp only [Zf,Option.some.injEq,Prod.mk.injEq] at h;obtain ⟨rfl,rfl,rfl,rfl⟩:=h
    exact hQ ρ a w (HP.refl hs)
  | c::l,st,st',p,p',e,obs,h,ho,ρ,a,w,Q,hpn,hs,hQ=>by
    simp only [Zf] at h
    split at h
    · rename_i st1 o1 p1 h1
      split at h
      case h_2=>cases h
      rename_i e2 Ax o2 p2 h2
      simp only [Option.some.injEq,Prod.mk.injEq] at h;obtain ⟨rfl,rfl,rfl,rfl⟩:=h
      rw [be] at ho
      refine hself c st p _ _ _ _ h1 ho.1 ρ a w _ hpn hs fun ρ1 a1 w1 P1=>?_
      exact Yi hself l h2 ho.2 (by rw [P1.ext.pin];exact hpn) P1.sr fun ρ2 a2 w2 P2=>hQ ρ2 a2 w2 (P1.trans P2)
    · rename_i hne
      refine hself c st p _ _ _ _ h ho ρ a w _ hpn hs fun ρ1 a1 w1 P1=>?_
      have:=hQ ρ1 a1 w1 P1
      cases e with
      | normal=>exact (hne _ _ _ h).elim
      | ret=>exact this
      | exit id=>exact this
theorem At.post{lent:List aB}{ρ0 ρ ρ':ae}{w0 w w':World}{st st':aG}{a a':Act}(E:jZ ρ0 ρ w0)(W:gO ρ0.live w0 w)(hbk:∀ i,i<lent.length→ρ.ok i→ρ0.ok i)(hle:lent.length≤st.next)(h:HP ρ w st.next st' ρ' a' w') :At lent.length ρ0 w0 st' a' w' :=
  ⟨ρ',E.trans h.ext W.size,W.trans h.wle (fun x hx q=>E.new x hx q),h.sr,fun i hi q=>(h.back i q).elim (hbk i hi) (fun r=>by omega),Nat.le_trans hle h.le⟩
theorem gQ.weak{P:Program}{lent:List aB}{cs:List Code}{st st1:aG}{Q:AE→aG→Prop}(hs:Zb lent st st1)(h:gQ P lent cs st1 Q) :gQ P lent cs st Q :=
  fun ρ0 w0 hN K hK a w hA=>h ρ0 w0 hN K hK a w (hs _ _ _ _ hN hA)
theorem gQ.nil{P:Program}{lent:List aB}{st:aG}{Q:AE→aG→Prop}(h:Q .normal st) :gQ P lent [] st Q :=
  fun ρ0 w0 hN K hK a w hA=>hK .normal st a w h hA
def Kv(P:Program)(lent:List aB)(rest:List Code)(e:AE)(st:aG)(Q:AE→aG→Prop) :Prop :=
  match e with
  | .normal=>gQ P lent rest st Q
  | e=>Q e st
theorem Kv.exit{P:Program}{lent:List aB}{rest:List Code}{id:Nat}{st:aG}{Q:AE→aG→Prop}(h:Q (.exit id) st) :Kv P lent rest (.exit id) st Q:=h
theorem Kv.ret{P:Program}{lent:List aB}{rest:List Code}{st:aG}{Q:AE→aG→Prop}(h:Q .ret st) :Kv P lent rest .ret st Q:=h
theorem Kv.normal{P:Program}{lent:List aB}{rest:List Code}{st:aG}{Q:AE→aG→Prop}(h:gQ P lent rest st Q) :Kv P lent rest .normal st Q:=h
def aaA(s:NS)(r:Res) :Option (AE×aG×List Bool) :=
  match r with
  | some (e,st,obs,_)=>some (e,s.on st,obs)
  | none=>none
theorem gQ.seg{C:uR}(hC:C.Ok){S:xT}(hS:aN C.P S){lent:List aB}{N n:Nat}(k:Nat)(p:dQ)(s:NS){cs:List Code}{st st1:aG}{e:AE}{obs:List Bool}{Q:AE→aG→Prop} 
    (h:aaA s (Zf (hJ C S N n) (cs.take k) st p)=some (e,st1,obs)) (hn:s.ok lent.length=true) (ho:ay obs) (hr:Kv C.P lent (cs.drop k) e st1 Q):gQ C.P lent cs st Q:=by
  intro ρ0 w0 hN K hK a w ⟨ρ,E,W,S1,hbk,hle⟩
  rw [←List.take_append_drop k cs]
  apply AY
  unfold aaA at h
  split at h
  case h_2=>cases h
  rename_i e' Ax obs' p' hrun
  simp only [Option.some.injEq,Prod.mk.injEq] at h;obtain ⟨rfl,rfl,rfl⟩:=h
  refine Yi (Ig hC hS N n) _ hrun ho (by rw [E.pin];exact hN.pin) S1 fun ρ' a' w' P1=>?_
  have hA:=aaz hn Ax ρ0 w0 a' w' hN (At.post (st:=st) (a:=a) E W hbk hle P1)
  cases e' with
  | normal=>exact hr ρ0 w0 hN K hK a' w' hA
  | ret=>exact hK _ _ _ _ hr hA
  | exit id=>exact hK _ _ _ _ hr hA
def Cl(P:Program)(lent:List aB){σ:Type}(I:σ→aG)(G:σ→Prop)(m:σ→Nat)(s:σ)(id:Nat)(rest:List Code)(Q:AE→aG→Prop)(e:AE)(st:aG) :Prop :=
  match e with
  | .normal=>∃ s',G s'∧m s'<m s∧st=I s'
  | .exit j=>if j=id then gQ P lent rest st Q else Q (.exit j) st
  | .ret=>Q .ret st
theorem Cl.out{P:Program}{lent:List aB}{σ:Type}{I:σ→aG}{G:σ→Prop}{m:σ→Nat}{s:σ}{id:Nat}{rest:List Code}{Q:AE→aG→Prop}{st:aG}(h:gQ P lent rest st Q) :Cl P lent I G m s id rest Q (.exit id) st:=by
  simp only [Cl,if_true];exact h
theorem Cl.on{P:Program}{lent:List aB}{σ:Type}{I:σ→aG}{G:σ→Prop}{m:σ→Nat}{s:σ}{id:Nat}{rest:List Code}{Q:AE→aG→Prop}{st:aG}(s':σ)(hs:st=I s')(hm:m s'<m s)(hG:G s') :gQ P lent [] st (Cl P lent I G m s id rest Q) :=
  gQ.nil ⟨s',hG,hm,hs⟩
theorem gQ.loop{P:Program}{lent:List aB}{σ:Type}(I:σ→aG)(G:σ→Prop)(m:σ→Nat){id:Nat}{b:Code}{cs rest:List Code}{Q:AE→aG→Prop}(hcs:cs=.block id (.loop b)::rest) 
    (body:∀ s,G s→gQ P lent (cR b) (I s) (Cl P lent I G m s id rest Q)) (s:σ) (hs:G s):gQ P lent cs (I s) Q:=by
  subst hcs
  intro ρ0 w0 hN K hK a w hA
  simp only [Ke]
  refine wp_block ?_
  refine wp_loop_rounds (m s+1) ?_
  have key:∀ n s,m s<n→G s→∀ a w,At lent.length ρ0 w0 (I s) a w→Code.rounds P b (Exit.inBlock id fun (e:Exit) a' w'=>match e with | .normal=>Ke P rest K a' w' | e=>K e a' w') n a w:=by
    intro n
    induction n with
    | zero=>intro s h;omega
    | succ n ih =>
      intro s hm hs a w hA
      rw [rounds_succ]
      refine vE b ?_
      refine body s hs ρ0 w0 hN _ ?_ a w hA
      intro e st' a' w' hR hA'
      cases e with
      | normal =>
        obtain ⟨s',h1,h2,rfl⟩:=hR
        exact ih s' (by omega) h1 a' w' hA'
      | ret=>exact hK _ _ _ _ hR hA'
      | exit j =>
        simp only [Cl] at hR
        by_cases hj:j=id
        · subst hj
          rw [if_pos rfl] at hR
          simp only [AE.real,Exit.then,Exit.inBlock,if_true]
          exact hR ρ0 w0 hN K hK a' w' hA'
        · rw [if_neg hj] at hR
          simp only [AE.real,Exit.then,Exit.inBlock,hj,if_false]
          exact hK _ _ _ _ hR hA'
  exact key _ s (Nat.lt_succ_self _) hs a w hA
theorem gQ.mono{P:Program}{lent:List aB}{cs:List Code}{st:aG}{Q Q':AE→aG→Prop}(hQ:∀ e st,Q e st→Q' e st)(h:gQ P lent cs st Q) :gQ P lent cs st Q' :=
  fun ρ0 w0 hN K hK a w hA=>h ρ0 w0 hN K (fun e st' a' w' q hA'=>hK e st' a' w' (hQ e st' q) hA') a w hA
theorem gQ.block{P:Program}{lent:List aB}{id:Nat}{b:Code}{cs rest:List Code}{st:aG}{Q:AE→aG→Prop}(hcs:cs=.block id b::rest) 
    (h:gQ P lent (cR b) st fun e st'=>match e with | .normal=>gQ P lent rest st' Q | .exit j=>if j=id then gQ P lent rest st' Q else Q (.exit j) st' | .ret=>Q .ret st'):gQ P lent cs st Q:=by
  subst hcs
  intro ρ0 w0 hN K hK a w hA
  simp only [Ke]
  refine wp_block (vE b ?_)
  refine h ρ0 w0 hN _ ?_ a w hA
  intro e st' a' w' hR hA'
  cases e with
  | normal=>exact hR ρ0 w0 hN K hK a' w' hA'
  | ret=>exact hK _ _ _ _ hR hA'
  | exit j =>
    simp only at hR
    by_cases hj:j=id
    · subst hj
      rw [if_pos rfl] at hR
      simp only [AE.real,Exit.inBlock,if_true]
      exact hR ρ0 w0 hN K hK a' w' hA'
    · rw [if_neg hj] at hR
      simp only [AE.real,Exit.inBlock,hj,if_false]
      exact hK _ _ _ _ hR hA'
theorem gQ.scope{P:Program}{lent:List aB}{b:Code}{cs rest:List Code}{st:aG}{Q:AE→aG→Prop}(hcs:cs=.scope b::rest) 
    (h:gQ P lent (cR b) st fun e st'=>Kv P lent rest e st' Q):gQ P lent cs st Q:=by
  subst hcs
  intro ρ0 w0 hN K hK a w hA
  simp only [Ke]
  refine wp_scope_straight (vE b ?_)
  refine h ρ0 w0 hN _ ?_ a w hA
  intro e st' a' w' hR hA'
  cases e with
  | normal=>exact hR ρ0 w0 hN K hK a' w' hA'
  | ret=>exact hK _ _ _ _ hR hA'
  | exit j=>exact hK _ _ _ _ hR hA'
def Yj(P:Program)(fn:Func)(k:Nat)(keep:Bool)(r:gd)(e:AE)(st:aG) :Prop :=
  (e=.normal∨e=.ret)∧∃ vs obs,jr P fn st fn.results.toList=some (vs,obs)∧ay obs∧H9 k keep st.heap (D8 vs)=some r
theorem gQ.contract{P:Program}{f:FuncId}{fn:Func}{c:Code}(hf:P.funcs[f]? = some fn)(hc:fn.body=some c){lent:List aB}{args:List AV}{r:gd}{keep:Bool} 
    (h:gQ P lent (cR c) (pT fn lent args) (Yj P fn lent.length keep r)):ag P f lent args r:=by
  refine xV (keep:=keep) hf hc ?_
  intro ρ w a hN hs
  refine vE c ?_
  refine h ρ w hN _ ?_ a w ⟨ρ,jZ.refl _ _,gO.refl _ _,hs,fun _ _ q=>q,Nat.le_refl _⟩
  rintro e st' a' w' ⟨he,vs,obs,h1,h2,h3⟩ ⟨ρ',E,W,S,hbk,_⟩
  refine ⟨?_,ρ',st',vs,obs,E,W,hbk,S,h1,h2,h3⟩
  rcases he with rfl | rfl
  · exact .inl rfl
  · exact .inr rfl
def qB(x:Nat) :Nat:=x%9223372036854775808
def pd(x y:Nat) :Nat:=x%9223372036854775808+y/9223372036854775808%2*9223372036854775808
def aaB(x y:Nat) :Bool:=(isNaN x&&isNaN y)||x==y
theorem zk(x:Nat) :BitVec.ofInt 64 (x:Int)=BitVec.ofNat 64 x:=by simp
theorem abU : ~~~ BitVec.ofInt 64 9223372036854775808=BitVec.ofNat 64 (2^63-1):=by decide
theorem nS(n:Nat) :IntKind.u64.wrap (n:Int)=((n%18446744073709551616:Nat):Int):=by
  simp [IntKind.wrap,IntKind.signed,IntKind.bits]
theorem aaC(x:Nat) :(dd .andNot .u64 (x:Int) 9223372036854775808)=((qB x:Nat):Int):=by
  have e:(BitVec.ofInt IntKind.u64.bits (x:Int) &&& ~~~ BitVec.ofInt IntKind.u64.bits 9223372036854775808).toNat=x%9223372036854775808:=by
    show (BitVec.ofInt 64 (x:Int) &&& ~~~ BitVec.ofInt 64 9223372036854775808).toNat=_
    rw [abU,zk,BitVec.toNat_and,BitVec.toNat_ofNat,BitVec.toNat_ofNat]
    have:(2^63-1)%2^64=2^63-1:=by decide
    rw [this,Nat.and_two_pow_sub_one_eq_mod]
    omega
  unfold dd
  simp only
  rw [e,nS]
  congr 1
  unfold qB
  omega
theorem acR(y:Nat) :(dd .and .u64 (y:Int) 9223372036854775808)=((y/9223372036854775808%2*9223372036854775808:Nat):Int):=by
  have e:(BitVec.ofInt IntKind.u64.bits (y:Int) &&& BitVec.ofInt IntKind.u64.bits 9223372036854775808).toNat=y/9223372036854775808%2*9223372036854775808:=by
    show (BitVec.ofInt 64 (y:Int) &&& BitVec.ofInt 64 9223372036854775808).toNat=_
    have h1:BitVec.ofInt 64 9223372036854775808=BitVec.ofNat 64 (2^63):=by decide
    rw [h1,zk,BitVec.toNat_and,BitVec.toNat_ofNat,BitVec.toNat_ofNat]
    have:2^63%2^64=2^63:=by decide
    rw [this]
    apply Nat.eq_of_testBit_eq;intro i
    have e2:(9223372036854775808:Nat)=2^63:=by decide
    rw [e2,Nat.testBit_and,Nat.testBit_two_pow,Nat.testBit_mod_two_pow,Nat.testBit_mul_two_pow]
    by_cases hi:63=i
    · subst hi
      simp [Nat.testBit_eq_decide_div_mod_eq]
    · by_cases h2:63≤i
      · have h3:∃ j,i-63=j+1:=⟨i-64,by omega⟩
        obtain ⟨j,hj⟩:=h3
        have:(y/2^63%2).testBit (i-63)=false:=by
          have:=Nat.mod_lt (y/2^63) (by decide:2>0)
          apply Nat.testBit_lt_two_pow
          calc y/2^63%2<2:=this
            _=2^1:=rfl
            _≤2^(i-63):=Nat.pow_le_pow_right (by decide) (by omega)
        simp [hi,this]
      · simp [hi,h2]
  unfold dd
  simp only
  rw [e,nS]
  congr 1
  omega
theorem Yk(x:Nat) :(IntKind.u64.wrap ((x:Int)*2^min (Int.toNat 1) IntKind.u64.bits)).fdiv (2^min (Int.toNat 1) IntKind.u64.bits)=((qB x:Nat):Int):=by
  have h1:min (Int.toNat 1) IntKind.u64.bits=1:=by decide
  have h2:(2:Int)^1=2:=by decide
  rw [h1,h2]
  have h3:(x:Int)*2=((x*2:Nat):Int):=by push_cast;rfl
  rw [h3,nS,Int.fdiv_eq_ediv_of_nonneg _ (by decide:(0:Int)≤2)]
  unfold qB
  omega
theorem abV(y:Nat) :IntKind.u64.wrap ((y:Int).fdiv (2^min (Int.toNat 63) IntKind.u64.bits)*2^min (Int.toNat 63) IntKind.u64.bits)=((y/9223372036854775808%2*9223372036854775808:Nat):Int):=by
  have h1:min (Int.toNat 63) IntKind.u64.bits=63:=by decide
  have h2:(2:Int)^63=9223372036854775808:=by decide
  rw [h1,h2,Int.fdiv_eq_ediv_of_nonneg _ (by decide:(0:Int)≤9223372036854775808)]
  have h3:(y:Int)/9223372036854775808*9223372036854775808=((y/9223372036854775808*9223372036854775808:Nat):Int):=by rw [Int.natCast_mul,Int.natCast_ediv];rfl
  rw [h3,nS]
  congr 1
  omega
theorem acn(x y:Nat) :dd .or .u64 ((qB x:Nat):Int) ((y/9223372036854775808%2*9223372036854775808:Nat):Int)=((pd x y:Nat):Int):=by
  have e:(BitVec.ofInt IntKind.u64.bits ((qB x:Nat):Int) ||| BitVec.ofInt IntKind.u64.bits ((y/9223372036854775808%2*9223372036854775808:Nat):Int)).toNat=pd x y:=by
    show (BitVec.ofInt 64 ((qB x:Nat):Int) ||| BitVec.ofInt 64 ((y/9223372036854775808%2*9223372036854775808:Nat):Int)).toNat=_
    rw [zk,zk,BitVec.toNat_or,BitVec.toNat_ofNat,BitVec.toNat_ofNat]
    unfold qB pd
    have hb0:=Nat.mod_lt (y/9223372036854775808) (by decide:2>0)
    generalize y/9223372036854775808%2=b at *
    have e2:(9223372036854775808:Nat)=2^63:=by decide
    have l1:x%9223372036854775808%2^64=x%9223372036854775808:=by omega
    rw [l1]
    rcases Nat.lt_or_ge b 2 with hb | hb
    · have l2:b*9223372036854775808%2^64=b*9223372036854775808:=by omega
      rw [l2,Nat.or_comm,Nat.add_comm,e2,Nat.mul_comm b,Nat.two_pow_add_eq_or_of_lt (Nat.mod_lt _ (by decide))]
    · omega
  unfold dd
  simp only
  rw [e,nS]
  congr 1
  unfold pd
  have:=Nat.mod_lt x (by decide:9223372036854775808>0)
  have:=Nat.mod_lt (y/9223372036854775808) (by decide:2>0)
  omega
theorem Il(x:Nat) :isNaN (qB x)=isNaN x:=by
  rw [ka,ka];unfold qB;rw [Nat.mod_mod]
theorem tC(x y:Nat) :isNaN (pd x y)=isNaN x:=by
  rw [ka,ka];unfold pd
  rw [Nat.add_mul_mod_self_right,Nat.mod_mod]
theorem aaD{ex:Bool}{x y:Nat}(h:FR ex x y) :FR false (qB x) (qB y):=by
  rcases h with rfl | ⟨h1,h2,h3⟩
  · exact .inl rfl
  · exact .inr ⟨rfl,by rw [Il];exact h2,by rw [Il];exact h3⟩
theorem FR.copy{e1 e2:Bool}{x y x' y':Nat}(h:FR e1 x x')(k:FR e2 y y')(hn:isNaN y=true→isNaN x=true) :FR false (pd x y) (pd x' y'):=by
  rcases h with rfl | ⟨h1,h2,h3⟩
  · rcases k with rfl | ⟨k1,k2,k3⟩
    · exact .inl rfl
    · exact .inr ⟨rfl,by rw [tC];exact hn k2,by rw [tC];exact hn k2⟩
  · exact .inr ⟨rfl,by rw [tC];exact h2,by rw [tC];exact h3⟩
theorem FR.same{e1 e2:Bool}{x y x' y':Nat}(h:FR e1 x x')(k:FR e2 y y') :aaB x' y'=aaB x y:=by
  unfold aaB
  rcases h with rfl | ⟨h1,h2,h3⟩
  · rcases k with rfl | ⟨k1,k2,k3⟩
    · rfl
    · rw [k2,k3]
      cases hx:isNaN x' with
      | true=>rfl
      | false =>
        have a:(x'==y')=false:=by
          rw [beq_eq_false_iff_ne];intro e;rw [e] at hx;rw [hx] at k3;cases k3
        have b:(x'==y)=false:=by
          rw [beq_eq_false_iff_ne];intro e;rw [e] at hx;rw [hx] at k2;cases k2
        rw [a,b]
  · rcases k with rfl | ⟨k1,k2,k3⟩
    · rw [h2,h3]
      cases hx:isNaN y' with
      | true=>rfl
      | false =>
        have a:(x'==y')=false:=by
          rw [beq_eq_false_iff_ne];intro e;rw [e] at h3;rw [hx] at h3;cases h3
        have b:(x==y')=false:=by
          rw [beq_eq_false_iff_ne];intro e;rw [e] at h2;rw [hx] at h2;cases h2
        rw [a,b]
    · rw [h2,h3,k2,k3];rfl
theorem gd.Holds.weak{ρ:ae}{w w':World}{k:Nat}{v v':AV}{own:List (Option aB)}{u:Value}(h:(⟨v,own⟩:gd).Holds ρ w w' k u)(hw:∀ ρ w,VR ρ w v u→VR ρ w v' u) :(⟨v',own⟩:gd).Holds ρ w w' k u:=by
  obtain ⟨ρ',h1,h2,h3,h4⟩:=h
  exact ⟨ρ',h1,h2,h3,hw _ _ h4⟩
theorem xm{P:Program}{f:FuncId}{ex:Bool}{x:Nat}{r:Nat→AV}{r':AV}(h:∀ y,ag P f [] [.flt true y] ⟨r y,[]⟩) 
    (hw:∀ y,FR ex x y→∀ ρ w u,VR ρ w (r y) u→VR ρ w r' u):ag P f [] [.flt ex x] ⟨r',[]⟩:=by
  intro ρ w us hN hv
  cases hv with | cons _ u _ _ h1 h2 =>
  cases h2
  cases h1 with | flt _ _ y hf =>
  obtain ⟨q1,q2⟩:=h y ρ w [.float .f64 y] hN (.cons _ _ _ _ (.flt _ _ _ (.inl rfl)) .nil)
  refine ⟨q1,q2.mono ?_⟩
  rintro e w' ⟨u,rfl,W,hu⟩
  exact ⟨u,rfl,W,hu.weak fun ρ w=>hw y hf ρ w u⟩
theorem xn{P:Program}{f:FuncId}{e1 e2:Bool}{x1 x2:Nat}{r:Nat→Nat→AV}{r':AV}(h:∀ y1 y2,ag P f [] [.flt true y1,.flt true y2] ⟨r y1 y2,[]⟩) 
    (hw:∀ y1 y2,FR e1 x1 y1→FR e2 x2 y2→∀ ρ w u,VR ρ w (r y1 y2) u→VR ρ w r' u):ag P f [] [.flt e1 x1,.flt e2 x2] ⟨r',[]⟩:=by
  intro ρ w us hN hv
  cases hv with | cons _ u _ _ h1 h2 =>
  cases h2 with | cons _ u _ _ h3 h4 =>
  cases h4
  cases h1 with | flt _ _ y1 hf1 =>
  cases h3 with | flt _ _ y2 hf2 =>
  obtain ⟨q1,q2⟩:=h y1 y2 ρ w [.float .f64 y1,.float .f64 y2] hN (.cons _ _ _ _ (.flt _ _ _ (.inl rfl)) (.cons _ _ _ _ (.flt _ _ _ (.inl rfl)) .nil))
  refine ⟨q1,q2.mono ?_⟩
  rintro e w' ⟨u,rfl,W,hu⟩
  exact ⟨u,rfl,W,hu.weak fun ρ w=>hw y1 y2 hf1 hf2 ρ w u⟩
theorem VR.flt_weak{ρ:ae}{w:World}{x y:Nat}{u:Value}(h:VR ρ w (.flt true y) u)(hf:FR false x y) :VR ρ w (.flt false x) u:=by
  cases h with | flt _ _ z hz =>
  rcases hz with rfl | ⟨h1,_⟩
  · exact .flt _ _ _ hf
  · cases h1
structure aw where
  f:FuncId
  on:List aB→List AV→Option (List qz)
def xY:List aw→xT
  | [],_,_,_=>none
  | e::l,f,lent,args=>bif Nat.beq e.f f then (match e.on lent args with | some r=>some r | none=>xY l f lent args) else xY l f lent args
def R9:List aw→Nat
  | []=>0
  | e::l=>Nat.lor (Nat.shiftLeft 1 e.f) (R9 l)
def aH(L:List aw) :xT:=fun f lent args=>bif HW (R9 L) f then xY L f lent args else none
def aO(P:Program)(e:aw) :Prop:=∀ lent args alts a,e.on lent args=some alts→a∈alts→ay a.obs→ag P e.f lent args a.out
theorem Nl:∀ {L:List aw} {e:aw},e∈L→HW (R9 L) e.f=true
  | x::l,e,h=>by
    rw [zi]
    show ((1 <<< x.f) ||| R9 l).testBit e.f=true
    rw [Nat.testBit_or,Bool.or_eq_true]
    rcases List.mem_cons.1 h with rfl | h
    · left;rw [Nat.one_shiftLeft,Nat.testBit_two_pow];simp
    · right;rw [←zi];exact Nl h
theorem AZ:∀ {L:List aw} {f:FuncId} {lent:List aB} {args:List AV} {alts:List qz},xY L f lent args=some alts→∃ e∈L,e.f=f∧e.on lent args=some alts
  | e::l,f,lent,args,alts,h=>by
    simp only [xY] at h
    cases hb:Nat.beq e.f f with
    | false=>rw [hb] at h;obtain ⟨x,h1,h2⟩:=AZ h;exact ⟨x,by simp [h1],h2⟩
    | true =>
      rw [hb] at h
      have:=Nat.eq_of_beq_eq_true hb
      simp only [cond_true] at h
      split at h
      · rename_i r hr;cases h;exact ⟨e,by simp,this,hr⟩
      · obtain ⟨x,h1,h2⟩:=AZ h;exact ⟨x,by simp [h1],h2⟩
theorem Nm{L:List aw}{f:FuncId}{lent:List aB}{args:List AV}{alts:List qz}(h:xY L f lent args=some alts) :aH L f lent args=some alts:=by
  obtain ⟨e,h1,h2,_⟩:=AZ h
  have:=Nl h1
  rw [h2] at this
  simp only [aH,this,cond_true];exact h
theorem Im{L:List aw}{f:FuncId}{lent:List aB}{args:List AV}{alts:List qz}(h:aH L f lent args=some alts) :xY L f lent args=some alts:=by
  unfold aH at h
  cases hb:HW (R9 L) f with
  | false=>rw [hb] at h;cases h
  | true=>rw [hb] at h;exact h
theorem In(P:Program) :aN P (aH []):=fun f lent args alts a h=>by have:=Im h;cases this
theorem ao{P:Program}{e:aw}{l:List aw}(he:aO P e)(hl:aN P (aH l)) :aN P (aH (e::l)):=by
  intro f lent args alts a h ha ho
  replace h:=Im h
  simp only [xY] at h
  cases hb:Nat.beq e.f f with
  | false=>rw [hb] at h;exact hl f lent args alts a (Nm h) ha ho
  | true =>
    rw [hb] at h
    have:=Nat.eq_of_beq_eq_true hb
    subst this
    simp only [cond_true] at h
    split at h
    · rename_i r hr
      cases h
      exact he lent args alts a hr ha ho
    · exact hl _ lent args alts a (Nm h) ha ho
def one(v:AV)(obs:List Bool) :Option (List qz):=some [⟨⟨v,[]⟩,obs⟩]
def aaE(v:AV)(own:List (Option aB))(obs:List Bool) :Option (List qz):=some [⟨⟨v,own⟩,obs⟩]
theorem Zg{P:Program}{f:FuncId}{lent:List aB}{args:List AV}{alts:List qz}{a:qz}{v:AV}{own:List (Option aB)}{obs:List Bool}(h:aaE v own obs=some alts)(ha:a∈alts)(ho:ay a.obs) 
    (hc:ay obs→ag P f lent args ⟨v,own⟩):ag P f lent args a.out:=by
  simp only [aaE,Option.some.injEq] at h;subst h
  simp only [List.mem_singleton] at ha;subst ha
  exact hc ho
theorem sk{P:Program}{f:FuncId}{lent:List aB}{args:List AV}{alts:List qz}{a:qz}{v:AV}{obs:List Bool}(h:one v obs=some alts)(ha:a∈alts)(ho:ay a.obs) 
    (hc:ay obs→ag P f lent args ⟨v,[]⟩):ag P f lent args a.out:=Zg (own:=[]) h ha ho hc
theorem ag.run{C:uR}(hC:C.Ok){S:xT}(hS:aN C.P S)(p:dQ){f:FuncId}{lent:List aB}{args:List AV}{p':dQ}{r:gd}{obs:List Bool}(N n:Nat)(h:qA C S (hJ C S N n) f lent args p=some (r,obs,p'))(ho:ay obs) :
    ag C.P f lent args r:=F4 hC hS N n h ho
theorem ob{b:Bool}{l:List Bool}(h:b=true)(t:ay l) :ay (b::l):=⟨h,t⟩
theorem nob:ay []:=trivial
inductive gj:List AV→List AV→Prop
  | nil:gj [] []
  | cons {v v':AV} {l l':List AV} (h:bg v v') (t:gj l l'):gj (v::l) (v'::l')
theorem gj.vrs{ρ:ae}{w:World} :∀ {l l':List AV} {c:List Value},gj l l'→cv ρ w l c→cv ρ w l' c
  | _,_,_,.nil,.nil=>.nil
  | _,_,_,.cons h t,.cons _ _ _ _ hv tv=>.cons _ _ _ _ (h _ _ _ hv) (gj.vrs t tv)
theorem gj.refl:∀ l:List AV,gj l l
  | []=>.nil
  | v::l=>.cons (bg.refl v) (gj.refl l)
theorem bg.agg{l l':List AV}(h:gj l l') :bg (.agg l) (.agg l'):=by
  intro ρ w u hv;cases hv with | agg _ _ hl=>exact .agg _ _ (h.vrs hl)
theorem bg.tup{l l':List AV}(h:gj l l') :bg (.tup l) (.tup l'):=by
  intro ρ w u hv;cases hv with | tup _ _ hl=>exact .tup _ _ (h.vrs hl)
theorem ag.args{P:Program}{f:FuncId}{lent:List aB}{a a':List AV}{r:gd}(h:ag P f lent a' r)(ha:gj a a') :ag P f lent a r :=
  fun ρ w us hN hv=>h ρ w us hN (ha.vrs hv)
theorem ag.weak{P:Program}{f:FuncId}{lent:List aB}{a:List AV}{v v':AV}{own:List (Option aB)}(h:ag P f lent a ⟨v,own⟩)(hw:bg v v') :ag P f lent a ⟨v',own⟩:=by
  intro ρ w us hN hv
  obtain ⟨q1,q2⟩:=h ρ w us hN hv
  refine ⟨q1,q2.mono ?_⟩
  rintro e w' ⟨u,rfl,W,hu⟩
  exact ⟨u,rfl,W,hu.weak fun ρ w=>hw ρ w u⟩
theorem A0(k k' b:Bool) :bg (.bool k b) (.bool k' b):=by
  intro ρ w u h;cases h;exact .bool _ _
end
end Go.Plb
namespace Go.Plb
noncomputable section
open Go.ChangeShapes Go.WideShapes Go.ChangeAt Go.RowKit Go.Deep
set_option linter.unusedSimpArgs false
set_option linter.unusedVariables false
set_option linter.unusedSectionVars false
variable [Rom]
def ae.none_:ae:={ at_:=fun _=>0,live:=fun _=>False,out:=fun _ _=>False,ok:=fun _=>False,pin:=(0,none) }
theorem abW(w:World)(hr:∀ x∈Rom.tab,VR ae.none_ w x.2 (.pointer (some ⟨x.1,0,none⟩))) :gV ae.none_ w [] :=
  ⟨⟨fun b d q=>by simp [ep,eB,dv] at q,fun b c d e q=>by simp [ep,eB,dv] at q,fun bl q=>q.elim,fun bl q=>q.elim,fun j bl q=>q.elim,fun b q=>q.elim,hr⟩,fun bl q=>q.elim,rfl⟩
theorem A1(l:Lv)(bl:Nat) :ae.none_.avoid l bl:=jM (fun j=>by cases j<;>exact id) l 0
inductive FA where
  | i (k:IntKind) (n:Int)
  | f (x:Nat)
  | s (b:ByteArray)
  | b (b:Bool)
  | fl (xs:List Nat)
  | ns (k:IntKind) (xs:List Int)
def FA.av:FA→AV
  | .i k n=>.int k n
  | .f x=>.flt true x
  | .s z=>.str z
  | .b z=>.bool false z
  | .fl xs=>.imm .free (.fl xs) 1 1 0 xs.length
  | .ns k xs=>.imm .free (.ns k xs) 1 1 0 xs.length
theorem FA.kept(a:FA) :a.av.kept=true:=by cases a<;>rfl
inductive FT where
  | i (k:IntKind)
  | f
  | s
  | b
  | fl
  | ns (k:IntKind)
def FA.has:FT→FA→Prop
  | .i k,.i k' n=>k'=k∧(Lit.int k n).wf=true
  | .f,.f x=>(Lit.float .f64 x).wf=true
  | .s,.s z=>z.size≤maxLen
  | .b,.b _=>True
  | .fl,.fl xs=>xs.length≤maxLen∧∀ x∈xs,(Lit.float .f64 x).wf=true
  | .ns k,.ns k' xs=>k'=k∧xs.length≤maxLen∧∀ n∈xs,(Lit.int k n).wf=true
  | _,_=>False
def abX(P:Program)(t:TypeId) :Option FT :=
  match P.underlying t with
  | some (.int k)=>some (.i k)
  | some (.float .f64)=>some .f
  | some .string=>some .s
  | some .bool=>some .b
  | some (.slice e) =>
    match P.underlying e,P.cellsOf e with
    | some (.float .f64),1=>some .fl
    | some (.int k),1=>some (.ns k)
    | _,_=>none
  | _=>none
def OP:Value→Nat
  | .float _ b=>b
  | _=>0
def OQ:Value→Int
  | .int _ n=>n
  | _=>0
theorem Fl{W:World}{a:Addr}{i:Nat}{v:Value}(c:W.cell? (a.add i)=some v)(h0:a.spot=none) :a.add i=⟨a.block,a.off+i,none⟩:=by
  cases a;simp only at h0;subst h0
  unfold Addr.add;split
  · rename_i q;subst q;rfl
  · rfl
theorem Cm{W:World}{a:Addr}{v:Value}(c:W.cell? a=some v) :a.spot=none:=by
  unfold World.cell? at c
  split at c
  · cases q:a.spot with
    | none=>rfl
    | some s=>rw [q] at c;simp at c
  · cases c
theorem Io{W:World}{a:Addr}{v:Value}(c:W.cell? a=some v) :a.block<W.heap.size:=by
  unfold World.cell? at c
  split at c
  · rename_i q;exact (Array.getElem?_eq_some_iff.1 q).1
  · cases c
theorem nT{α:Type}(f:Nat→α)(n x:Nat)(y:α)(h:((List.range n).map f)[x]? = some y) :x<n∧y=f x:=by
  rw [List.getElem?_map] at h
  rcases Nat.lt_or_ge x n with q | q
  · rw [List.getElem?_range q] at h;simp only [Option.map_some,Option.some.injEq] at h;exact ⟨q,h.symm⟩
  · rw [List.getElem?_eq_none (by simpa using q)] at h;cases h
variable {H : Type} {enc : TypeId × Value → H} {P : Program} {W : World}
theorem Zh{t : TypeId}{ft : FT}{fuel : Nat}{v : Value}{x : DataW H × List MemPlace}(ht : abX P t = some ft)(h : DataW.trod enc P W 0 (fun _ => true) true fuel t [v] = some x) :
    ∃ a:FA,a.has ft∧VR ae.none_ W a.av v:=by
  cases fuel with
  | zero=>simp [DataW.trod] at h
  | succ fuel =>
  have h0:=h
  unfold abX at ht
  split at ht
  · rename_i k hk
    cases ht
    simp only [DataW.trod,hk] at h
    cases v<;>simp at h
    rename_i k' n
    obtain ⟨⟨rfl,hw⟩,_⟩:=h
    exact ⟨.i k' n,⟨rfl,hw⟩,.int _ _⟩
  · rename_i hk
    cases ht
    simp only [DataW.trod,hk] at h
    cases v<;>simp at h
    rename_i k b
    obtain ⟨⟨rfl,hw⟩,_⟩:=h
    exact ⟨.f b,hw,.flt _ _ _ (.inl rfl)⟩
  · rename_i hk
    cases ht
    simp only [DataW.trod,hk] at h
    cases v<;>simp at h
    exact ⟨.s _,h.1,.str _⟩
  · rename_i hk
    cases ht
    simp only [DataW.trod,hk] at h
    cases v<;>simp at h
    exact ⟨.b _,trivial,.bool _ _⟩
  · rename_i e hk
    have key:∀ (he:P.cellsOf e=1),(v=.slice none 0 0)∨∃ (a:Addr) (len cap n:Nat) (V:Nat→Value),v=.slice (some a) len cap∧len≤cap∧cap≤maxLen ∧
        ∀ i,i<len→∃ y,W.cell? (a.add i)=some (V i)∧DataW.trod enc P W 0 (fun _=>true) true n e [V i]=some y:=by
      intro he
      rcases open_slice1 hk he h0 with ⟨h1,_⟩ | ⟨a,len,cap,m,n,V,D,Pl,h1,hb,hl,hm,hmm,_,hx⟩
      · simp only [List.cons.injEq,and_true] at h1
        exact .inl h1
      · simp only [List.cons.injEq,and_true] at h1
        refine .inr ⟨a,len,cap,n,V,h1,hl,hm,fun i hi=>⟨_,hx i (by rw [hmm,if_pos rfl];omega)⟩⟩
    split at ht
    · rename_i he hc
      cases ht
      rcases key hc with rfl | ⟨a,len,cap,n,V,rfl,hl,hm,hx⟩
      · exact ⟨.fl [],⟨Nat.zero_le _,fun x hx=>by cases hx⟩,.immEnd _ _ _ _ _ _ _ trivial (fun _=>rfl) rfl⟩
      · have hV:∀ i,i<len→V i=.float .f64 (OP (V i))∧(Lit.float .f64 (OP (V i))).wf=true:=by
          intro i hi
          obtain ⟨y,c1,c2⟩:=hx i hi
          cases n with
          | zero=>simp [DataW.trod] at c2
          | succ n =>
            simp only [DataW.trod,he] at c2
            cases hV:V i<;>rw [hV] at c2<;>simp at c2
            obtain ⟨⟨rfl,hw⟩,_⟩:=c2
            exact ⟨rfl,hw⟩
        refine ⟨.fl ((List.range len).map fun i=>OP (V i)),⟨by simp;omega,fun x hx=>?_⟩,?_⟩
        · simp only [List.mem_map,List.mem_range] at hx
          obtain ⟨i,hi,rfl⟩:=hx
          exact (hV i hi).2
        · simp only [FA.av,List.length_map,List.length_range]
          rcases Nat.eq_zero_or_pos len with rfl | hz
          · exact .immEnd _ _ _ _ _ _ _ trivial (fun _=>rfl) rfl
          · have h0:=Cm (hx 0 hz).choose_spec.1
            have hs:a.spot=none:=by
              have e:a.add 0=a:=by simp [Addr.add]
              rw [e] at h0;exact h0
            have hcell:∀ i,i<len→W.cell? ⟨a.block,a.off+i,none⟩=some (V i):=fun i hi=>by
              obtain ⟨y,c1,_⟩:=hx i hi
              rw [Fl c1 hs] at c1;exact c1
            have ha:a=⟨a.block,a.off+0*1,none⟩:=by cases a;simp only at hs;subst hs;rfl
            have:=VR.imm (ρ:=ae.none_) (w:=W) .free (.fl ((List.range len).map fun i=>OP (V i))) 1 1 0 len cap a.block a.off V (A1 _ _) (Io (a:=⟨a.block,a.off+0,none⟩) (hcell 0 hz))
              (fun x v hx'=>by
                simp only [aB.cell?,Option.map_eq_some_iff] at hx'
                obtain ⟨y,h1,h2⟩:=hx'
                exact hcell x (nT _ _ _ _ h1).1)
              (fun x v hx'=>by
                simp only [aB.cell?,Option.map_eq_some_iff] at hx'
                obtain ⟨y,h1,rfl⟩:=hx'
                obtain ⟨q1,rfl⟩:=nT _ _ _ _ h1
                rw [(hV x q1).1]
                exact .flt _ _ _ (.inl rfl)) hl trivial (fun _=>rfl) rfl
            rw [ha];exact this
    · rename_i k he hc
      cases ht
      rcases key hc with rfl | ⟨a,len,cap,n,V,rfl,hl,hm,hx⟩
      · exact ⟨.ns k [],⟨rfl,Nat.zero_le _,fun x hx=>by cases hx⟩,.immEnd _ _ _ _ _ _ _ trivial (fun _=>rfl) rfl⟩
      · have hV:∀ i,i<len→V i=.int k (OQ (V i))∧(Lit.int k (OQ (V i))).wf=true:=by
          intro i hi
          obtain ⟨y,c1,c2⟩:=hx i hi
          cases n with
          | zero=>simp [DataW.trod] at c2
          | succ n =>
            simp only [DataW.trod,he] at c2
            cases hV:V i<;>rw [hV] at c2<;>simp at c2
            obtain ⟨⟨rfl,hw⟩,_⟩:=c2
            exact ⟨rfl,hw⟩
        refine ⟨.ns k ((List.range len).map fun i=>OQ (V i)),⟨rfl,by simp;omega,fun x hx=>?_⟩,?_⟩
        · simp only [List.mem_map,List.mem_range] at hx
          obtain ⟨i,hi,rfl⟩:=hx
          exact (hV i hi).2
        · simp only [FA.av,List.length_map,List.length_range]
          rcases Nat.eq_zero_or_pos len with rfl | hz
          · exact .immEnd _ _ _ _ _ _ _ trivial (fun _=>rfl) rfl
          · have h0:=Cm (hx 0 hz).choose_spec.1
            have hs:a.spot=none:=by
              have e:a.add 0=a:=by simp [Addr.add]
              rw [e] at h0;exact h0
            have hcell:∀ i,i<len→W.cell? ⟨a.block,a.off+i,none⟩=some (V i):=fun i hi=>by
              obtain ⟨y,c1,_⟩:=hx i hi
              rw [Fl c1 hs] at c1;exact c1
            have ha:a=⟨a.block,a.off+0*1,none⟩:=by cases a;simp only at hs;subst hs;rfl
            have:=VR.imm (ρ:=ae.none_) (w:=W) .free (.ns k ((List.range len).map fun i=>OQ (V i))) 1 1 0 len cap a.block a.off V (A1 _ _) (Io (a:=⟨a.block,a.off+0,none⟩) (hcell 0 hz))
              (fun x v hx'=>by
                simp only [aB.cell?,Option.map_eq_some_iff] at hx'
                obtain ⟨y,h1,h2⟩:=hx'
                exact hcell x (nT _ _ _ _ h1).1)
              (fun x v hx'=>by
                simp only [aB.cell?,Option.map_eq_some_iff] at hx'
                obtain ⟨y,h1,rfl⟩:=hx'
                obtain ⟨q1,rfl⟩:=nT _ _ _ _ h1
                rw [(hV x q1).1]
                exact .int _ _) hl trivial (fun _=>rfl) rfl
            rw [ha];exact this
    · cases ht
  · cases ht
theorem aaF{t:TypeId}{ft:FT}{v:Value}{d:DataW H}{p:List MemPlace}{base:Nat}(ht:abX P t=some ft)(ho:Value.okWide P W .any base t v)(h:DataW.Trod enc P W 0 (fun _=>true) true t v d p) :
    ∃ a:FA,a.has ft∧VR ae.none_ W a.av v:=by
  obtain ⟨fuel,hf⟩:=h
  have hc:v.cells.toList=[v]:=by
    have hne:∀ c,v ≠ .agg c:=by
      rintro c rfl
      unfold abX at ht
      unfold Value.okWide at ho
      split at ht
      case h_6=>cases ht
      all_goals (rename_i hk;rw [hk] at ho;simp [Cell.okWide,Cell.ok,hk] at ho)
    cases v<;>first | rfl | exact (hne _ rfl).elim
  rw [hc] at hf
  exact Zh ht hf
def FA.avs:List FA→List AV
  | []=>[]
  | a::l=>a.av::FA.avs l
theorem aaG{W W':World}(h:gO (fun _=>False) W W') :Below W.heap.size W W' :=
  ⟨h.os,h.tape,h.output,h.size,fun k hk=>h.same k hk (fun q=>q)⟩
def tD(P:Program)(ts:List TypeId) :Bool:=ts.all fun t=>P.readableRec t&&decide (t<P.types.size)
theorem Nn{W W':World}(hl:laidOutB P=true)(hb:Below W.heap.size W W') :∀ {ts:List TypeId} {vs:List Value} {ds:List (DataW H)} {ps:List MemPlace},tD P ts=true →
    DataW.TrodAll enc P W 0 (fun _=>true) true ts vs ds ps→(∀ x∈ps,x.block<W.heap.size)→∀ sp:Nat→Bool,(∀ p∈ps,sp p.block=true)→DataW.TrodAll enc P W' 0 sp true ts vs ds ps
  | [],vs,ds,ps,_,h,_,_,_=>by obtain ⟨rfl,rfl,rfl⟩:=trodAll_nil h;rfl
  | t::ts,vs,ds,ps,hp,h,hlt,sp,hsp=>by
    obtain ⟨v,vs',d,ds',p,q,rfl,rfl,rfl,h1,h2⟩:=trodAll_cons h
    simp only [tD,List.all_cons,Bool.and_eq_true,decide_eq_true_eq] at hp
    exact ⟨p,q,WideElems.Trod_stays hl hp.1.1 hp.1.2 h1 (fun x hx=>hb.same (hlt x (by simp [hx]))) (fun x hx=>hsp x (by simp [hx])),
      Nn hl hb (by simpa [tD] using hp.2) h2 (fun x hx=>hlt x (by simp [hx])) sp (fun x hx=>hsp x (by simp [hx])),rfl⟩
theorem aaH{f:Func}{s:ChangeSpec}{W W':World}{args:Array Value}{ds gs:List (DataW H)}{before:List MemPlace}{tb:TypeId}(hl:laidOutB P=true) 
    (hW:DataW.Whole enc P f.params.toList s.vars false W args.toList ds gs before) (hv:s.vars=[]) (hp:tD P f.params.toList=true)
    (hs:s.fn H (ds++gs) = { results:=[.lit (.bool true)],args:=ds }) (hr:f.resultTypes = #[tb]) (ht:P.underlying tb=some .bool) (hw:gO (fun _=>False) W W') :
    s.post enc P f false true false false W args (.bool true) W':=by
  have hb:=aaG hw
  have hlt:∀ p∈before,p.block<W.heap.size:=fun p hp=>hW.lt p hp
  have hW':=hW
  obtain ⟨p,q,hA,hV,rfl,hfz,kI⟩:=hW'
  rw [hv] at hV
  obtain ⟨rfl,rfl⟩:=trodVars_none hV
  simp only [List.append_nil] at hlt hs hW
  have harg:=Nn hl hb hp hA hlt (fun b=>decide (b<W.heap.size)) (fun x hx=>by simpa using hlt x hx)
  refine ⟨ds,[],p,[],p,[],hW,?_,?_,?_,World.keptBut_mono (fun x hx=>⟨hx,.inr (.inl hx)⟩) (hb.frame (· ∈ p)),fun e=>(by cases e)⟩
  · rw [List.append_nil,hs,hr]
    exact trodAll_mk1 (shut_bool ht true)
  · rw [List.append_nil,hs];exact harg
  · rw [hv];simp only [List.append_nil,hs];exact rfl
theorem acS{a:FA}(h:a.has .fl) :∃ x,a=.fl x:=by
  cases a<;>simp only [FA.has] at h
  exact ⟨_,rfl⟩
theorem aaI{ρ:ae}{w w':World}{k b:Bool}{u:Value}(h:(⟨.bool k b,[]⟩:gd).Holds ρ w w' 0 u) :u=.bool b:=by
  obtain ⟨ρ',_,_,_,h4⟩:=h
  cases h4;rfl
end
end Go.Plb
namespace Go.Plb.Seat
open Go Go.Plb Go.Proofs
noncomputable abbrev prog:Program:=Tryz.prog
def ba:List Int:=[0,1,56,2,57,49,28,3,61,58,42,50,38,29,17,4,62,47,59,36,45,43,51,22,53,39,33,30,24,18,12,5,63,55,48,27,60,41,37,16,46,35,44,21,52,32,23,11,54,26,40,15,34,20,31,10,25,14,19,9,13,8,7,6]
instance:Rom:=⟨[(1,.iptr .free (.ns .u8 ba) 1 0 0)],by intro x hx;simp only [List.mem_cons,List.not_mem_nil,or_false] at hx;rcases hx with rfl<;>rfl⟩
abbrev mX:FuncId:=10
abbrev Eb:FuncId:=22
abbrev Sa:FuncId:=23
abbrev iP:FuncId:=36
abbrev ut:FuncId:=39
abbrev xZ:FuncId:=41
abbrev Cn:FuncId:=43
abbrev zX:FuncId:=44
abbrev vF:FuncId:=60
abbrev vG:FuncId:=63
abbrev nU:FuncId:=65
abbrev Kw:FuncId:=69
abbrev Kx:FuncId:=70
abbrev OR:FuncId:=71
abbrev OS:FuncId:=72
abbrev OT:FuncId:=73
abbrev Ec:FuncId:=74
abbrev Ip:FuncId:=75
abbrev mY:FuncId:=76
abbrev vH:FuncId:=78
abbrev pU:FuncId:=82
abbrev sG:FuncId:=93
abbrev zY:FuncId:=95
abbrev A2:FuncId:=99
abbrev Ed:FuncId:=100
abbrev A3:FuncId:=101
abbrev A4:FuncId:=104
abbrev sH:FuncId:=105
abbrev Sb:FuncId:=106
abbrev Sc:FuncId:=108
abbrev A5:FuncId:=110
abbrev Co:FuncId:=112
abbrev Cp:FuncId:=113
abbrev Iq:FuncId:=117
abbrev F5:FuncId:=118
abbrev OU:FuncId:=127
abbrev V4:FuncId:=131
abbrev Zi:FuncId:=132
abbrev Ky:FuncId:=133
abbrev vI:FuncId:=134
abbrev ya:FuncId:=135
abbrev vJ:FuncId:=136
abbrev V5:FuncId:=137
abbrev Cq:FuncId:=138
abbrev yb:FuncId:=139
abbrev vK:FuncId:=140
abbrev Cr:FuncId:=141
abbrev Cs:FuncId:=142
abbrev qQ:FuncId:=143
abbrev Ct:FuncId:=144
abbrev Kz:FuncId:=145
abbrev KA:FuncId:=146
abbrev KB:FuncId:=147
abbrev Sd:FuncId:=148
abbrev OV:FuncId:=149
abbrev mv:FuncId:=152
abbrev xy:FuncId:=163
abbrev rK:FuncId:=167
abbrev nV:FuncId:=169
abbrev Fm:FuncId:=170
abbrev Cu:FuncId:=171
abbrev yc:FuncId:=173
abbrev Ir:FuncId:=174
abbrev Se:FuncId:=175
abbrev zl:FuncId:=176
abbrev yd:FuncId:=177
abbrev vL:FuncId:=178
abbrev Ee:FuncId:=179
abbrev ye:FuncId:=180
abbrev Sh:FuncId:=181
abbrev OW:FuncId:=182
abbrev OX:FuncId:=183
abbrev Si:FuncId:=184
abbrev OY:FuncId:=185
abbrev Sj:FuncId:=186
abbrev OZ:FuncId:=187
abbrev KC:FuncId:=188
abbrev Sk:FuncId:=189
abbrev Cv:FuncId:=194
abbrev Is:FuncId:=197
abbrev Ef:FuncId:=198
abbrev Cw:FuncId:=201
abbrev It:FuncId:=202
abbrev Cx:FuncId:=204
abbrev Cy:FuncId:=217
abbrev mw:FuncId:=218
abbrev vM:FuncId:=219
abbrev sI:FuncId:=220
abbrev rL:FuncId:=221
abbrev gL:FuncId:=222
abbrev cU:FuncId:=223
abbrev vN:FuncId:=224
abbrev tE:FuncId:=225
abbrev A6:FuncId:=226
abbrev bQ:FuncId:=227
abbrev Sl:FuncId:=228
abbrev Sn:FuncId:=229
abbrev tF:FuncId:=237
abbrev mZ:FuncId:=240
abbrev cB:FuncId:=246
abbrev Cz:FuncId:=251
abbrev A7:FuncId:=252
abbrev tG:FuncId:=253
abbrev Eg:FuncId:=254
abbrev na:FuncId:=255
abbrev A8:FuncId:=256
abbrev V6:FuncId:=257
abbrev zm:FuncId:=258
abbrev sJ:FuncId:=259
abbrev Eh:FuncId:=261
abbrev So:FuncId:=262
abbrev O0:FuncId:=263
abbrev KD:FuncId:=264
abbrev Sp:FuncId:=265
abbrev Sq:FuncId:=266
abbrev O1:FuncId:=267
abbrev Sr:FuncId:=269
abbrev zD:FuncId:=291
abbrev O2:FuncId:=292
abbrev zE:FuncId:=294
abbrev Iu:FuncId:=299
abbrev F6:FuncId:=300
abbrev KE:FuncId:=301
abbrev KF:FuncId:=302
abbrev A9:FuncId:=304
abbrev Ss:FuncId:=305
abbrev St:FuncId:=306
abbrev O3:FuncId:=307
abbrev yf:FuncId:=313
abbrev bJ:FuncId:=314
abbrev jV:FuncId:=315
abbrev zn:FuncId:=316
abbrev KG:FuncId:=317
abbrev tH:FuncId:=318
abbrev nW:FuncId:=319
abbrev Ei:FuncId:=320
abbrev O4:FuncId:=321
abbrev Su:FuncId:=322
abbrev O5:FuncId:=323
abbrev F7:FuncId:=326
abbrev Ba:FuncId:=334
abbrev Bb:FuncId:=335
abbrev KH:FuncId:=338
abbrev Iv:FuncId:=339
abbrev F8:FuncId:=340
abbrev Iw:FuncId:=341
abbrev Bc:FuncId:=342
abbrev kG:FuncId:=343
abbrev zo:FuncId:=344
abbrev Ej:FuncId:=345
abbrev KI:FuncId:=346
abbrev zp:FuncId:=347
abbrev Ek:FuncId:=351
abbrev yg:FuncId:=352
abbrev El:FuncId:=353
abbrev CA:FuncId:=354
abbrev tI:FuncId:=355
abbrev zq:FuncId:=356
abbrev nX:FuncId:=358
noncomputable def FN(f:FuncId) :Func:=(prog.funcs[f]?).getD default
noncomputable def nY(f:FuncId) :Code:=((FN f).body).getD .skip
noncomputable def C0:uR:=Yf prog [(iP,.frombits),(mY,.bits),(yf,.sqrt),(nW,.add64),(nX,.sub64)] [(Eb,⟨[],true⟩),(Sa,⟨[],true⟩),(vG,⟨[],true⟩),(Kw,⟨[],true⟩),(Kx,⟨[],true⟩),(OR,⟨[],true⟩),(OS,⟨[],true⟩),(OT,⟨[],true⟩),(Ec,⟨[],true⟩),(Ip,⟨[],true⟩),(pU,⟨[],true⟩),(Ed,⟨[],true⟩),(A3,⟨[],true⟩),(A4,⟨[],true⟩),(Sb,⟨[],true⟩),(Sc,⟨[],true⟩),(A5,⟨[true,true,true,true,true,true,true,true,true,true],false⟩),(Co,⟨[true,true,true,true,true,true,true,true,true,true],false⟩),(Cp,⟨[true,true,true,true,true,true,true,true,true,true],false⟩),(Iq,⟨[true,true,true,true,true,true,true,true,true,true],false⟩),(F5,⟨[true,true,true,true,true,true,true,true,true,true],false⟩),(V4,⟨[],true⟩),(Zi,⟨[],true⟩),(Ky,⟨[],true⟩),(vI,⟨[],true⟩),(ya,⟨[],true⟩),(vJ,⟨[],true⟩),(V5,⟨[],true⟩),(yb,⟨[],true⟩),(vK,⟨[],true⟩),(qQ,⟨[],true⟩),(Kz,⟨[],true⟩),(KA,⟨[],true⟩),(KB,⟨[],true⟩),(Sd,⟨[],true⟩),(OV,⟨[],true⟩),(xy,⟨[true,true,true,true,true,true,true,true,true,true],false⟩),(yc,⟨[],true⟩),(Ir,⟨[],true⟩),(Se,⟨[true],false⟩),(zl,⟨[],true⟩),(yd,⟨[],true⟩),(vL,⟨[],true⟩),(Ee,⟨[],true⟩),(ye,⟨[],true⟩),(Sh,⟨[],true⟩),(OW,⟨[],true⟩),(OX,⟨[],true⟩),(Si,⟨[],true⟩),(OY,⟨[],true⟩),(Sj,⟨[],true⟩),(OZ,⟨[],true⟩),(KC,⟨[],true⟩),(Sk,⟨[],true⟩),(Cv,⟨[true,true,true,true,true,true,true,true,true,true],false⟩),(Is,⟨[true,true,true,true,true,true,true,true,true,true],false⟩),(Ef,⟨[true,true,true,true,true,true,true,true,true,true],false⟩),(Cw,⟨[true,true,true,true,true,true,true,true,true,true],false⟩),(It,⟨[true,true,true,true,true,true,true,true,true,true],false⟩),(Cx,⟨[true,true,true,true,true,true,true,true,true,true],false⟩),(vM,⟨[],true⟩),(sI,⟨[],true⟩),(rL,⟨[],true⟩),(gL,⟨[],true⟩),(vN,⟨[],true⟩),(tE,⟨[],true⟩),(A6,⟨[],true⟩),(Sl,⟨[],true⟩),(Sn,⟨[],true⟩),(A7,⟨[],true⟩),(tG,⟨[],true⟩),(Eg,⟨[],true⟩),(na,⟨[true],false⟩),(A8,⟨[],true⟩),(V6,⟨[true],false⟩),(zm,⟨[true],false⟩),(sJ,⟨[true],false⟩),(So,⟨[],true⟩),(O0,⟨[],true⟩),(KD,⟨[],true⟩),(Sp,⟨[],true⟩),(Sq,⟨[],true⟩),(O1,⟨[],true⟩),(Sr,⟨[],true⟩),(zD,⟨[true,true,true,true,true,true,true,true,true,true],false⟩),(O2,⟨[true,true,true,true,true,true,true,true,true,true],false⟩),(zE,⟨[true,true,true,true,true,true,true,true,true,true],false⟩),(Iu,⟨[true,true,true,true,true,true,true,true,true,true],false⟩),(F6,⟨[true,true,true,true,true,true,true,true,true,true],false⟩),(KE,⟨[true,true,true,true,true,true,true,true,true,true],false⟩),(KF,⟨[true,true,true,true,true,true,true,true,true,true],false⟩),(A9,⟨[],true⟩),(Ss,⟨[],true⟩),(St,⟨[],true⟩),(O3,⟨[],true⟩),(zn,⟨[],true⟩),(KG,⟨[],true⟩),(Ei,⟨[],true⟩),(O4,⟨[],true⟩),(Su,⟨[],true⟩),(O5,⟨[],true⟩),(F7,⟨[true,true,true,true,true,true,true,true,true,true],false⟩),(Ba,⟨[true,true,true,true,true,true,true,true,true,true],false⟩),(Bb,⟨[true,true,true,true,true,true,true,true,true,true],false⟩),(KH,⟨[true,true,true,true,true,true,true,true,true,true],false⟩),(Iv,⟨[true,true,true,true,true,true,true,true,true,true],false⟩),(F8,⟨[true,true,true,true,true,true,true,true,true,true],false⟩),(Iw,⟨[true,true,true,true,true,true,true,true,true,true],false⟩),(Bc,⟨[true,true,true,true,true,true,true,true,true,true],false⟩),(zo,⟨[],true⟩),(Ej,⟨[],true⟩),(KI,⟨[],true⟩),(zp,⟨[],true⟩),(Ek,⟨[true,true,true,true,true,true,true,true,true,true],false⟩),(yg,⟨[true,true,true,true,true,true,true,true,true,true],false⟩),(El,⟨[true,true,true,true,true,true,true,true,true,true],false⟩),(CA,⟨[true,true,true,true,true,true,true,true,true,true],false⟩),(tI,⟨[false,false,true],false⟩),(zq,⟨[],true⟩)]
theorem uu:Nj prog iP .frombits:=⟨FN iP,by kernel_rfl,by kernel_rfl,by kernel_rfl,by kernel_rfl,by kernel_rfl⟩
theorem yh:Nj prog mY .bits:=⟨FN mY,by kernel_rfl,by kernel_rfl,by kernel_rfl,by kernel_rfl,by kernel_rfl⟩
theorem KJ:Nj prog yf .sqrt:=⟨FN yf,by kernel_rfl,by kernel_rfl,by kernel_rfl,by kernel_rfl,by kernel_rfl⟩
theorem zF:Nj prog nW .add64:=⟨FN nW,by kernel_rfl,by kernel_rfl,by kernel_rfl,by kernel_rfl,by kernel_rfl⟩
theorem zG:Nj prog nX .sub64:=⟨FN nX,by kernel_rfl,by kernel_rfl,by kernel_rfl,by kernel_rfl,by kernel_rfl⟩
theorem mixed:prog.follows .mixedOrders=true:=by kernel_rfl
theorem adi:Yg prog=true:=by kernel_rfl
theorem gM:C0.Ok:=aat mixed adi (by
  intro x hx
  simp only [List.mem_cons,List.not_mem_nil,or_false] at hx
  rcases hx with rfl | rfl | rfl | rfl | rfl
  · exact uu
  · exact yh
  · exact KJ
  · exact zF
  · exact zG
  )
end Go.Plb.Seat
namespace Go.Proofs.YtcfhbjfbfmlkiaaGreatDoor
open Go.ChangeShapes Go.WideShapes Go.ChangeAt Go.RowKit Go.Plb Go.Plb.Seat
theorem acT:ownKnob Tryz.prog.godebug=none:=by kernel_rfl
theorem abY:laidOutB Tryz.prog=true:=by kernel_rfl
theorem Yl : Tryz.prog.globalNamed "math/bits.deBruijn64tab" = some 1 := by kernel_rfl
def CB : List (String × DataW Unit) := [("math/bits.deBruijn64tab", Rows.laid_math_bits_deBruijn64tab)]
theorem abZ:(Rows.laid_math_bits_deBruijn64tab:DataW Unit)=Lib.tabData .u8 ba:=by rfl
theorem acU{W : World}(h : laidMetH Tryz.prog CB W) : Lib.TabIs Tryz.prog W "math/bits.deBruijn64tab" .u8 ba := by
  have h':laidMet Tryz.prog CB W:=h
  unfold CB at h'
  rw [abZ] at h'
  exact Lib.tabIs_of_head Yl (t:=333) (e:=5) (n:=64) (by kernel_rfl) (by kernel_rfl) (by kernel_rfl) (by kernel_rfl) (by kernel_rfl) h'
theorem ab0{W:World}(h:laidMetH Tryz.prog CB W) :∀ x∈Rom.tab,VR ae.none_ W x.2 (.pointer (some ⟨x.1,0,none⟩)):=by
  intro x hx
  obtain rfl:=List.mem_singleton.1 hx
  have ht:=acU h
  have cell:∀ i,i<64→W.cell? ⟨1,i,none⟩=some (.int .u8 (ba.getD i 0)):=fun i hi=>ht.cell Yl i hi
  have hb:1<W.heap.size:=by
    have h0:=cell 0 (by decide)
    unfold World.cell? at h0
    rcases Nat.lt_or_ge 1 W.heap.size with q | q
    · exact q
    · have e:W.heap[1]? = none:=Array.getElem?_eq_none q
      rw [e] at h0;cases h0
  have look:∀ (y:Nat) v,(aB.ns .u8 ba).cell? y=some v→y<64∧v=.int .u8 (ba.getD y 0):=by
    intro y v hv
    have hv':(ba[y]?).map (fun z=>AV.int .u8 z)=some v:=hv
    cases e:ba[y]? with
    | none=>rw [e] at hv';cases hv'
    | some z =>
      rw [e] at hv'
      have hy:=(List.getElem?_eq_some_iff.1 e).1
      refine ⟨hy,?_⟩
      rw [List.getD_eq_getElem?_getD,e]
      exact (Option.some.inj hv').symm
  exact .iptr .free _ 1 0 0 1 0 (fun y=>.int .u8 (ba.getD y 0)) (A1 _ _) hb
    (fun y v hv=>by rw [Nat.zero_add];exact cell y (look y v hv).1) (fun y v hv=>by rw [(look y v hv).2];exact .int _ _) trivial (fun _=>rfl) rfl
noncomputable def No(os:Os) :World :=
  { World.holding Tryz.prog os ⟨#[],#[],[]⟩ with heap:=(World.holding Tryz.prog os ⟨#[],#[],[]⟩).heap.modify 1 fun
      | .cells _ t frozen=>.cells (ba.map fun z=>Value.int .u8 z).toArray t frozen
      | o=>o }
theorem aaJ(os:Os)(args:Array Value) :laidMetH Tryz.prog CB ((No os).forCall (fun _ _=>0) ⟨#[],args,[]⟩).memory :=
  (laidMet_of_run' 8 (by kernel_rfl) (by kernel_rfl):laidMet Tryz.prog CB _)
end Go.Proofs.YtcfhbjfbfmlkiaaGreatDoor
