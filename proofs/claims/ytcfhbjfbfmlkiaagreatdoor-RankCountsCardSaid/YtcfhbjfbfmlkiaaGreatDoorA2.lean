/-
  Part 2 of what the claim leans on: an evaluator of the model, proved sound; the contracts of the functions.
-/
import Derived.Laws.BytesString
import GoSem.Instr.Lookup
import GoSem.Extern.MathSqrt
import GoSem.Extern.MathFloatBits
import GoSem.Extern.MathBitsCarry
import GoSem.Extern.BytealgIndexByte
import GoSem.Extern.BytealgCount
import Derived.OrdersIn
import Derived.LoopNIn
import Derived.RangeFuncRecord
import Derived.RangeFuncLeaves
import Derived.LoopN
import Derived.Scope
import Derived.RangeFuncIn
import Derived.Laws.Externs
import Derived.WalkKit
import Derived.ProofKit
import Derived.OpenShut
import Derived.Deep.Slices
import Derived.Test.YtcfhbjfbfmlkiaaGreatDoorChecked
import Derived.KernelRfl
import Derived.Test.YtcfhbjfbfmlkiaaGreatDoorRows
import Derived.LaidLaws
import Derived.LaidHandle
import Derived.Lib.LaidTab
import Derived.JoinedOf
import Derived.Test.YtcfhbjfbfmlkiaaGreatDoorA1
namespace Go.Plb
noncomputable section
set_option linter.unusedSimpArgs false
set_option linter.unusedVariables false
set_option linter.unusedSectionVars false
variable [Rom]
def Bv(d:aN) :Nat→Nat→Option (List AV)
  | 0,_=>some []
  | n+1,x=>match d.cell? x,Bv d n (x+1) with
    | some v,some l=>some (v::l)
    | _,_=>none
theorem Pb{d:aN} :∀ {n x:Nat} {l:List AV},Bv d n x=some l→l.length=n∧∀ j,j<n→d.cell? (x+j)=l[j]?
  | 0,x,l,h=>by simp only [Bv,Option.some.injEq] at h;subst h;exact ⟨rfl,fun j hj=>absurd hj (Nat.not_lt_zero _)⟩
  | n+1,x,l,h=>by
    unfold Bv at h
    split at h
    case h_2=>cases h
    rename_i v l' h1 h2
    simp only [Option.some.injEq] at h;subst h
    obtain ⟨a,b⟩:=Pb h2
    refine ⟨by simp [a],fun j hj=>?_⟩
    cases j with
    | zero=>simpa using h1
    | succ j =>
      have:=b j (by omega)
      rw [show x+(j+1)=x+1+j by omega,this];simp
def cpL{α:Type}(xs:List α)(i k:Nat)(ys:List α) :List α:=xs.take i++(ys.take k++xs.drop (i+k))
def arH(blk nb:aN)(w i k:Nat) :Option (aN×List Bool) :=
  match blk,nb with
  | .fl xs,.fl ys=>bif Nat.beq w 1 then some (.fl (cpL xs i k ys),[mQ (i+k) xs.length,mQ k ys.length]) else none
  | .ns kd xs,.ns kd' ys=>bif Nat.beq w 1&&cT kd kd' then some (.ns kd (cpL xs i k ys),[mQ (i+k) xs.length,mQ k ys.length]) else none
  | .bs xs,.bs ys=>bif Nat.beq w 1 then some (.bs (cpL xs i k ys),[mQ (i+k) xs.length,mQ k ys.length]) else none
  | blk,nb=>match Bv nb k 0 with
    | some l=>bif jM l then blk.wrN w i l 0 else none
    | none=>none
theorem Sz{α:Type}{d:aN}{f:α→AV}{ys:List α}(hd:∀ x,d.cell? x=(ys[x]?).map f) :∀ {k x:Nat},x+k≤ys.length→Bv d k x=some (((ys.drop x).take k).map f)
  | 0,x,h=>by simp [Bv]
  | k+1,x,h=>by
    have e1:ys[x]? = some (ys[x]'(by omega)):=List.getElem?_eq_getElem (by omega)
    have e2:=Sz hd (k:=k) (x:=x+1) (by omega)
    unfold Bv
    rw [hd,e1,e2]
    simp only [Option.map_some]
    rw [List.drop_eq_getElem_cons (show x<ys.length by omega),List.take_succ_cons,List.map_cons]
theorem al6{α:Type}{g:List α→aN}{f:α→AV}{i:Nat}(hg:∀ xs j z,(g xs).wr 1 i j (f z)=some (g (xs.set (gw j i) z),[fO (gw j i) xs.length])) :
    ∀ {zs xs:List α} {j:Nat},i+j+zs.length≤xs.length→∃ o,(g xs).wrN 1 i (zs.map f) j=some (g (xs.take (i+j)++(zs++xs.drop (i+j+zs.length))),o)∧aH o
  | [],xs,j,h=>⟨[],by simp [aN.wrN],trivial⟩
  | z::zs,xs,j,h=>by
    rw [List.length_cons] at h
    have ad:gw j i=i+j:=by rw [ky];omega
    obtain ⟨o,h1,h2⟩:=al6 hg (zs:=zs) (xs:=xs.set (gw j i) z) (j:=j+1) (by rw [List.length_set];omega)
    refine ⟨fO (gw j i) xs.length::o,?_,by rw [ad];unfold fO;exact decide_eq_true (by omega),h2⟩
    simp only [List.map_cons,aN.wrN,hg,h1,List.singleton_append,Option.some.injEq,Prod.mk.injEq,and_true]
    congr 1
    rw [ad]
    have hp:i+j<xs.length:=by omega
    rw [show i+(j+1)=i+j+1 by omega,show i+j+(z::zs).length=i+j+1+zs.length by rw [List.length_cons];omega]
    generalize i+j=p at hp
    rw [List.drop_set_of_lt (by omega),List.take_succ_eq_append_getElem (by rw [List.length_set];exact hp),List.take_set_of_le (Nat.le_refl p),List.getElem_set_self]
    simp
theorem SA{α:Type}{f:α→AV}(hf:∀ z,(f z).one=true) :∀ (zs:List α),jM (zs.map f)=true
  | []=>rfl
  | z::zs=>by simp only [List.map_cons,jM,hf,SA hf zs,Bool.and_self]
theorem abN{α:Type}{g:List α→aN}{f:α→AV}{i k:Nat}{xs ys:List α}(hg:∀ xs j z,(g xs).wr 1 i j (f z)=some (g (xs.set (gw j i) z),[fO (gw j i) xs.length]))(hd:∀ x,(g ys).cell? x=(ys[x]?).map f)(hf:∀ z,(f z).one=true) 
    (h1:mQ (i+k) xs.length=true) (h2:mQ k ys.length=true):∃ l o',Bv (g ys) k 0=some l∧jM l=true∧(g xs).wrN 1 i l 0=some (g (cpL xs i k ys),o')∧aH o':=by
  unfold mQ at h1 h2
  rw [decide_eq_true_eq] at h1 h2
  have hlen:(ys.take k).length=k:=by rw [List.length_take];omega
  obtain ⟨o,w1,w2⟩:=al6 hg (zs:=ys.take k) (xs:=xs) (j:=0) (by rw [hlen];omega)
  refine ⟨_,o,Sz hd (by omega),SA hf _,?_,w2⟩
  rw [List.drop_zero,w1,hlen];rfl
theorem am7{blk nb blk':aN}{w i k:Nat}{o:List Bool}(h:arH blk nb w i k=some (blk',o))(ho:aH o) :∃ l o',Bv nb k 0=some l∧jM l=true∧blk.wrN w i l 0=some (blk',o')∧aH o':=by
  unfold arH at h
  split at h
  · cases e:Nat.beq w 1 with
    | false=>rw [e] at h;cases h
    | true =>
      rw [e] at h;cases h
      cases Nat.eq_of_beq_eq_true e
      exact abN (g:=.fl) (f:=.flt false) (fun _ _ _=>rfl) (fun _=>rfl) (fun _=>rfl) ho.1 ho.2.1
  · rename_i kd xs kd' ys
    cases e:Nat.beq w 1&&cT kd kd' with
    | false=>rw [e] at h;cases h
    | true =>
      rw [e] at h;cases h
      rw [Bool.and_eq_true] at e
      cases Nat.eq_of_beq_eq_true e.1
      have e2:kd=kd':=by have:=e.2;simpa [cT] using this
      cases e2
      exact abN (g:=.ns kd) (f:=.int kd) (fun xs j z=>by simp [aN.wr,cT]) (fun _=>rfl) (fun _=>rfl) ho.1 ho.2.1
  · cases e:Nat.beq w 1 with
    | false=>rw [e] at h;cases h
    | true =>
      rw [e] at h;cases h
      cases Nat.eq_of_beq_eq_true e
      exact abN (g:=.bs) (f:=.bool false) (fun _ _ _=>rfl) (fun _=>rfl) (fun _=>rfl) ho.1 ho.2.1
  · split at h
    case h_2=>cases h
    rename_i l hl
    cases e:jM l with
    | false=>rw [e] at h;cases h
    | true=>rw [e] at h;exact ⟨l,o,hl,e,h,ho⟩
def aag(P:Program)(g:Nat→Option aN)(t:TypeId)(d x:AV) :Option (Nat×Nat×aN×List Bool×List Nat) :=
  match P.underlying t,d with
  | some (.slice e),.sl b w es i len _ =>
    match P.info? e,g b,afN g x with
    | some inf,some blk,some (m,es',nb,obs,rs) =>
      bif Nat.beq inf.size 1&&Nat.beq es' 1 then (arH blk nb w i (Nat.min m len)).map fun r=>(Nat.min m len,b,r.1,obs++r.2,b::rs) else none
    | _,_,_=>none
  | _,_=>none
theorem HR.same{ρ:am}{w:World}{h:bO}{n b:Nat}{d:aN}(hh:HR ρ w h n)(hg:bp h b=some d) :HR ρ w (fB h b d) n:=by
  have e:∀ c,bp (fB h b d) c=bp h c:=by
    intro c;rw [dJ];split
    · rename_i q;subst q;exact hg.symm
    · rfl
  exact ⟨fun c e' he=>hh.cell c e' (by rw [←e];exact he),fun a c d e' h1 h2=>hh.inj a c d e' (by rw [←e];exact h1) (by rw [←e];exact h2),hh.fresh,hh.liveLt,hh.outLt,hh.lt,hh.rom⟩
theorem afT{P:Program}{ρ:am}{w:World}{h:bO}{n:Nat}(hh:HR ρ w h n){t t' T:TypeId}{d x:AV}{d' x':Value}(hd:VR ρ w d d')(hx:VR ρ w x x'){k b:Nat}{blk:aN}{obs:List Bool}{rs:List Nat} 
    (hc:aag P (bp h) t d x=some (k,b,blk,obs,rs)) (ho:aH obs):∃ w',(Builtin.copy_ #[t,t'] T #[d',x']).run P w=.ok (.int .i64 (k:Int)) w'∧HR ρ w' (fB h b blk) n∧jX ρ.live w w':=by
  unfold aag at hc
  split at hc
  case h_2=>cases hc
  rename_i e b' kk es i len cap ht
  split at hc
  case h_2=>cases hc
  rename_i inf blk0 m es' nb obs' rs' hi hg hsrc
  cases h1:Nat.beq inf.size 1&&Nat.beq es' 1 with
  | false=>rw [h1] at hc;cases hc
  | true =>
  rw [h1] at hc
  simp only [Bool.and_eq_true] at h1
  have hsz:=Nat.eq_of_beq_eq_true h1.1
  have hes:=Nat.eq_of_beq_eq_true h1.2
  subst hes
  simp only [cond_true,Option.map_eq_some_iff,Prod.mk.injEq] at hc
  obtain ⟨⟨blk',o'0⟩,hc2,rfl,rfl,rfl,rfl,rfl⟩:=hc
  rw [bn] at ho
  obtain ⟨l,o',hl,h2,hw,ho2⟩:=am7 hc2 ho.2
  replace ho:aH obs'∧aH o':=⟨ho.1,ho2⟩
  have hS:=Su hh hx hsrc ho.1
  obtain ⟨l1,l2⟩:=Pb hl
  obtain ⟨a,c,rfl,hv⟩:=hS.val
  have hsize:P.cellsOf e=1:=by simp [Program.cellsOf,hi,hsz]
  by_cases hn0:Nat.min m len=0
  · have el:l=[]:=List.length_eq_zero_iff.1 (by rw [l1,hn0])
    subst el
    simp only [aN.wrN,Option.some.injEq,Prod.mk.injEq] at hw
    obtain ⟨rfl,rfl⟩:=hw
    refine ⟨w,?_,hh.same hg,jX.refl _ _⟩
    rw [hn0]
    cases hd with
    | sl _ _ _ _ _ _ cap' hb hcap hle c' t' hhh hss =>
      have hn0':min m len=0:=hn0
      cases a<;>simp [Builtin.copy_,run_underlying ht,sizeOf,typeInfo,hi,Builtin.lenOf,Builtin.firstCells,storeCells,loadCells,loadCellsFrom,hn0',goInt]<;>rfl
    | slEnd _ _ _ _ a' =>
      cases a<;>cases a'<;>simp [Builtin.copy_,run_underlying ht,sizeOf,typeInfo,hi,Builtin.lenOf,Builtin.firstCells,storeCells,loadCells,loadCellsFrom,goInt]<;>rfl
  · have hmn : ¬ m=0:=fun q=>hn0 (by subst q;exact Nat.zero_min _)
    rcases hv with q | ⟨bl,o,rfl,news,hnl,hnews,hone,hrel⟩
    · exact absurd q hmn
    have hle:Nat.min m len≤news.length:=by rw [hnl,Nat.mul_one];exact Nat.min_le_left _ _
    have hvs:da ρ w l (news.take (Nat.min m len)):=by
      have key:∀ (l:List AV) (us:List Value),l.length=us.length→(∀ (j:Nat) (v:AV) (u:Value),l[j]? = some v→us[j]? = some u→VR ρ w v u)→da ρ w l us:=by
        intro l
        induction l with
        | nil=>intro us h1 _;have:us=[]:=List.length_eq_zero_iff.1 h1.symm;subst this;exact .nil
        | cons v l ih =>
          intro us h1 h2
          cases us with
          | nil=>simp at h1
          | cons u us=>exact .cons _ _ _ _ (h2 0 v u rfl rfl) (ih us (by simpa using h1) fun j v' u' q1 q2=>h2 (j+1) v' u' (by simpa using q1) (by simpa using q2))
      refine key _ _ (by rw [l1,List.length_take];omega) fun j v u q1 q2=>?_
      have hj:j<Nat.min m len:=by
        rcases Nat.lt_or_ge j (Nat.min m len) with z | z
        · exact z
        · rw [List.getElem?_eq_none (by omega)] at q1;cases q1
      have:=l2 j hj
      rw [Nat.zero_add,q1] at this
      obtain ⟨u',r1,r2⟩:=hrel j v this
      rw [List.getElem?_take,if_pos hj,r1] at q2
      cases q2
      exact r2
    cases hd with
    | slEnd=>exact absurd (Nat.min_zero m) hn0
    | sl _ _ _ _ _ _ cap' hb hcap hle' c' t'' hhh hss =>
      obtain ⟨w',r1,r2,r3⟩:=zm (P:=P) (x0:=0) (j:=0) hh hg hvs h2 hw ho.2
      refine ⟨w',?_,r2,r3⟩
      have hf:=run_firstCells_some (P:=P) w 1 (Nat.min m len) ⟨bl,o,none⟩ m c (news.take (Nat.min m len)) (by rw [List.length_take];omega) (fun j v hj=>by
        rw [List.getElem?_take] at hj
        split at hj
        · exact hnews j v hj
        · cases hj)
      simp only [Nat.add_zero] at r1
      have hf':(Builtin.firstCells 1 (min m len) (.slice (some ⟨bl,o,none⟩) m c)).run P w=.ok (news.take (min m len)).toArray w:=hf
      have r1':(storeCells ⟨ρ.at_ b',i*kk,none⟩ (news.take (min m len)) 0).run P w=.ok () w':=r1
      have hm:((Nat.min m len:Nat):Int)=((min m len:Nat):Int):=rfl
      simp [Builtin.copy_,run_underlying ht,sizeOf,typeInfo,hi,hsz,Builtin.lenOf,hf',r1',goInt,hm]
def aoG:AV→Bool
  | .nsl | .esl | .zsl _=>true
  | _=>false
theorem aoH{ρ:am}{w:World}{x:AV}{u:Value}(h:VR ρ w x u)(hv:aoG x=true) :∃ a c,u=.slice a 0 c:=by
  cases h<;>first | exact ⟨_,_,rfl⟩ | cases hv
def aah(P:Program)(g:Nat→Option aN)(t:TypeId)(d x:AV) :Option (Nat×Nat×aN×List Bool×List Nat) :=
  match aoG x with
  | false=>aag P g t d x
  | true=>match P.underlying t,d with
    | some (.slice e),.sl b _ _ _ _ _=>match P.info? e,g b with
      | some _,some blk=>some (0,b,blk,[],[b])
      | _,_=>none
    | _,_=>none
theorem afU{P:Program}{ρ:am}{w:World}{h:bO}{n:Nat}(hh:HR ρ w h n){t t' T:TypeId}{d x:AV}{d' x':Value}(hd:VR ρ w d d')(hx:VR ρ w x x'){k b:Nat}{blk:aN}{obs:List Bool}{rs:List Nat} 
    (hc:aah P (bp h) t d x=some (k,b,blk,obs,rs)) (ho:aH obs):∃ w',(Builtin.copy_ #[t,t'] T #[d',x']).run P w=.ok (.int .i64 (k:Int)) w'∧HR ρ w' (fB h b blk) n∧jX ρ.live w w':=by
  unfold aah at hc
  split at hc
  · exact afT hh hd hx hc ho
  · rename_i hvx
    obtain ⟨a,c,rfl⟩:=aoH hx hvx
    split at hc
    case h_2=>cases hc
    rename_i e b' kk es i len cap ht
    split at hc
    case h_2=>cases hc
    rename_i inf blk0 hi hg
    simp only [Option.some.injEq,Prod.mk.injEq] at hc
    obtain ⟨rfl,rfl,rfl,rfl,rfl⟩:=hc
    refine ⟨w,?_,hh.same hg,jX.refl _ _⟩
    cases hd with
    | sl _ _ _ _ _ _ cap' hb hcap hle c' t' hhh hss =>
      cases a<;>simp [Builtin.copy_,run_underlying ht,sizeOf,typeInfo,hi,Builtin.lenOf,Builtin.firstCells,storeCells,loadCells,loadCellsFrom,goInt]<;>rfl
    | slEnd _ _ _ _ a' =>
      cases a<;>cases a'<;>simp [Builtin.copy_,run_underlying ht,sizeOf,typeInfo,hi,Builtin.lenOf,Builtin.firstCells,storeCells,loadCells,loadCellsFrom,goInt]<;>rfl
def aso(l:List Int) :ByteArray:=l.foldl (fun r n=>r.push (UInt8.ofNat n.toNat)) ByteArray.empty
def am8(P:Program)(g:Nat→Option aN)(s d:TypeId)(x:AV) :Option (ByteArray×List Bool×List Nat) :=
  match P.underlying s,P.underlying d with
  | some (.slice e),some .string =>
    match P.underlying e,afN g x with
    | some (.int .u8),some (m,es,.ns k ys,obs,rs)=>bif Nat.beq es 1&&cT k .u8 then some (aso ys,obs,rs) else none
    | _,_=>none
  | _,_=>none
theorem ajE{P:Program}{ρ:am}{w:World}{h:bO}{n:Nat}(hh:HR ρ w h n){s d:TypeId}{x:AV}{x':Value}(hx:VR ρ w x x'){t:ByteArray}{obs:List Bool}{rs:List Nat} 
    (hc:am8 P (bp h) s d x=some (t,obs,rs)) (ho:aH obs):(convert s d x').run P w=.ok (.string t) w:=by
  unfold am8 at hc
  split at hc
  case h_2=>cases hc
  rename_i e hs hd
  split at hc
  case h_2=>cases hc
  rename_i m es k ys obs' rs' he hsrc
  cases h1:Nat.beq es 1&&cT k .u8 with
  | false=>rw [h1] at hc;cases hc
  | true =>
  rw [h1] at hc
  simp only [Bool.and_eq_true] at h1
  have hes:=Nat.eq_of_beq_eq_true h1.1
  have hk:k=.u8:=by simpa [cT] using h1.2
  subst hes hk
  simp only [cond_true,Option.some.injEq,Prod.mk.injEq] at hc
  obtain ⟨rfl,rfl,rfl⟩:=hc
  have hS:=Su hh hx hsrc ho
  obtain ⟨a,c,rfl,hv⟩:=hS.val
  have hlen:ys.length=m:=by
    have:=hS.count
    rw [Nat.mul_one] at this
    exact this
  rw [run_convert_bytes_string w s d e a m c hs he hd]
  rcases hv with h0 | ⟨bl,o,rfl,news,hnl,hnews,hone,hrel⟩
  · subst h0
    have hy:ys=[]:=List.length_eq_zero_iff.1 hlen
    subst hy
    cases a with
    | none=>rfl
    | some a=>exact run_bytesToString w a 0 c [] (by simp [loadCells,loadCellsFrom])
  · have hnews':news=ys.map (Value.int .u8):=by
      refine List.ext_getElem? fun j=>?_
      rw [List.getElem?_map]
      cases hj:ys[j]? with
      | none =>
        rw [List.getElem?_eq_none_iff] at hj
        rw [List.getElem?_eq_none (by omega)];rfl
      | some z =>
        obtain ⟨u,q1,q2⟩:=hrel j (.int .u8 z) (by show (ys[j]?).map _=_;rw [hj];rfl)
        rw [q1]
        cases q2
        rfl
    subst hnews'
    refine run_bytesToString w ⟨bl,o,none⟩ m c ys ?_
    have hf:=run_firstCells_some (P:=P) w 1 m ⟨bl,o,none⟩ m c (ys.map (Value.int .u8)) (by rw [hnl]) hnews
    simpa [Builtin.firstCells] using hf
def NF(P:Program)(g:Nat→Option aN)(t:TypeId)(x:AV)(lo hi:Option AV) :Option (AV×List Bool×List Nat) :=
  match P.underlying t,x with
  | some (.array n e),.ptr b 1 0 0 =>
    match g b,P.info? e,Nv hi n,Nv lo 0 with
    | some (.ns k xs),some ie,some h,some l =>
      bif Nat.beq ie.size 1 then some (.sl b 1 1 l.toNat (h.toNat-l.toNat) (n-l.toNat),[CE h n,CE l h.toNat,mQ n xs.length],[b]) else none
    | _,_,_,_=>none
  | _,_=>none
theorem abO{P:Program}{ρ:am}{w:World}{hp:bO}{m:Nat}(hh:HR ρ w hp m){e:Operand→AV}{g:Operand→Value}(hops:∀ x,VR ρ w (e x) (g x)){t:TypeId}{x:AV}{x':Value}{lo hi:Option Operand}{v:AV}{obs:List Bool}{rs:List Nat} 
    (hx:VR ρ w x x') (h:NF P (bp hp) t x (lo.map e) (hi.map e)=some (v,obs,rs)) (ho:aH obs):lC P ρ w (Instr.sliceAt t x' (lo.map g) (hi.map g) none) v:=by
  unfold NF at h
  split at h
  case h_2=>cases h
  rename_i n el b hu
  split at h
  case h_2=>cases h
  rename_i k xs ie hh' ll hg hi' e1 e2
  cases hb1:Nat.beq ie.size 1 with
  | false=>rw [hb1] at h;cases h
  | true =>
  rw [hb1] at h
  simp only [cond_true,Option.some.injEq,Prod.mk.injEq] at h
  obtain ⟨rfl,rfl,rfl⟩:=h
  have hsz:ie.size=1:=Nat.eq_of_beq_eq_true hb1
  have b1:=kz ho.1
  have b2:=kz ho.2.1
  have b3:n≤xs.length:=by have:=ho.2.2.1;unfold mQ at this;exact of_decide_eq_true this
  have hce:P.cellsOf el=1:=by simp [Program.cellsOf,hi',hsz]
  cases hx with
  | ptr _ _ _ _ hbo =>
  obtain ⟨hl,hr,c,ty,hc,hcv⟩:=hh.real hg hbo
  have hn:n≤c.size:=by
    rcases Nat.eq_zero_or_pos n with z | z
    · omega
    · have hlt:n-1<xs.length:=by omega
      obtain ⟨u,q,_⟩:=hcv (n-1) (.int k (xs[n-1]'hlt)) (by show (xs[n-1]?).map _=_;rw [List.getElem?_eq_getElem hlt];rfl)
      have:=(Array.getElem?_eq_some_iff.1 q).1
      omega
  have run:=mS (P:=P) (w:=w) false n n (lo.map g) (hi.map g) ll hh' (pM hops e2) (pM hops e1) b1 ⟨b2.1,by omega⟩
  have run2:(Instr.sliceAt t (.pointer (some ⟨ρ.at_ b,0*1+0,none⟩)) (lo.map g) (hi.map g) none).run P w=.ok (.slice (some (if n=ll.toNat then ⟨ρ.at_ b,0*1+0,none⟩ else (Addr.add ⟨ρ.at_ b,0*1+0,none⟩ (ll.toNat*P.cellsOf el)))) (hh'.toNat-ll.toNat) (n-ll.toNat)) w:=by
    simp only [Instr.sliceAt,Sem.run_bind,run_underlying hu,Result.andThen]
    simp [Instr.sureAddr,run,run_sizeOf w hi',hce,hsz,Sem.run_bind,Result.andThen,Sem.run_pure,Go.asAddr]
  refine .plain run2 ?_
  by_cases q:n=ll.toNat
  · rw [if_pos q]
    have z1:hh'.toNat-ll.toNat=0:=by omega
    have z2:n-ll.toNat=0:=by omega
    rw [z1,z2]
    exact .slEnd _ _ _ _ _
  · rw [if_neg q,oc,hce]
    have:0*1+0+ll.toNat*1=ll.toNat*1:=by omega
    rw [this]
    exact .sl _ _ _ _ _ _ _ hbo (Nat.le_refl _) (by omega) c ty hc (by omega)
theorem abP{P:Program}{g g':Nat→Option aN}{t:TypeId}{x:AV}{lo hi:Option AV}{r:AV×List Bool×List Nat}(h:NF P g t x lo hi=some r)(hg:∀ b∈r.2.2,g' b=g b) :NF P g' t x lo hi=some r:=by
  unfold NF at h ⊢
  split at h
  case h_2=>cases h
  rename_i n el b hu
  split at h
  case h_2=>cases h
  rename_i k xs ie hh' ll hgb hi' e1 e2
  cases hb1:Nat.beq ie.size 1 with
  | false=>rw [hb1] at h;cases h
  | true =>
  rw [hb1] at h
  simp only [cond_true,Option.some.injEq] at h
  subst h
  have:g' b=some (.ns k xs):=by rw [hg b (by simp)];exact hgb
  simp only [this,hi',e1,e2,hb1,cond_true]
def dQ.like:dQ→dQ→Bool
  | .i k _,.i k' _=>cT k k'
  | .s _,.s _=>true
  | .p k _ _,.p k' _ _=>cT k k'
  | _,_=>false
def dQ.same:dQ→dQ→Bool
  | .i _ n,.i _ m=>n==m
  | .s a,.s b=>decide (a=b)
  | .p _ x y,.p _ x' y'=>x==x'&&y==y'
  | _,_=>false
def dQ.fits:TypeDesc→dQ→Bool
  | .int _,.i ..=>true
  | .string,.s _=>true
  | _,_=>false
def KY(k:dQ) :List dQ→Bool
  | []=>true
  | q::l=>k.like q&&KY k l
def SB:List dQ→Bool
  | []=>true
  | q::l=>(l.all fun r=>!q.same r)&&SB l
def arI:AV→Option dQ
  | .int k n=>some (.i k n)
  | .str s=>some (.s s)
  | .agg [.int k x,.int k' y]=>bif cT k k' then some (.p k x y) else none
  | _=>none
def SC(P:Program)(kt:TypeId) :dQ→Bool
  | .p k _ _=>match P.underlying kt with
    | some (.array 2 et)=>match P.underlying et,(P.info? et).map (·.size) with
      | some (.int _),some 1=>true
      | _,_=>false
    | _=>false
  | _=>false
def aoI:Value→AV
  | .agg c=>.agg (c.toList.map il)
  | v=>il v
def okV(cok:Bool)(v:AV)(b:Bool) :AV:=bif cok then .tup [v,.bool true b] else v
def KZ(cok:Bool)(k:dQ) :List dQ→List AV→List yg
  | q::ks,v::vs=>⟨okV cok v true,[],[k.same q]⟩::KZ cok k ks vs
  | _,_=>[]
def abQ(P:Program)(t:TypeId)(x k:AV)(cok:Bool) :List yg :=
  match P.underlying t,x,arI k with
  | some (.map kt et),.gmap ks vs,some key =>
    match P.underlying kt,(P.info? et).bind (·.zero) with
    | some d,some z=>bif (key.fits d||SC P kt key)&&KY key ks&&SB ks then KZ cok key ks vs++[⟨okV cok (aoI z) false,[],ks.map fun q=>!key.same q⟩] else []
    | _,_=>[]
  | _,_,_=>[]
theorem SD{P:Program}{w:World}{t:TypeId}{n:Nat}(h:(P.info? t).map (·.size)=some n) :(sizeOf t).run P w=.ok n w:=by
  obtain ⟨i,h1,h2⟩:=Option.map_eq_some_iff.1 h
  subst h2
  simp [sizeOf,typeInfo,Sem.run_bind,h1]
theorem K0{P:Program}{w:World}{et:TypeId}{k:IntKind}(he:P.underlying et=some (.int k)){cs:Array Value}{off:Nat}{v:Value}(hc:cs[off]? = some v) :(part et cs off).run P w=.ok v w:=by
  unfold part
  simp [isAgg,Sem.run_bind,run_underlying he,hc]
theorem aqv{P:Program}{w:World}{kt et:TypeId}{k:IntKind}(hu:P.underlying kt=some (.array 2 et))(he:P.underlying et=some (.int k))(hs:(P.info? et).map (·.size)=some 1)(j:IntKind)(x y x' y':Int)(n:Nat) :
    (Op.equalIn (n+2) kt (.agg #[.int j x,.int j y]) (.agg #[.int j x',.int j y'])).run P w=.ok (x==x'&&y==y') w:=by
  unfold Op.equalIn
  rw [Sem.run_bind,run_underlying hu]
  simp only [Result.andThen_ok,Sem.run_bind,SD hs]
  have e1:∀ a b,(Op.equalIn (n+1) et (.int j a) (.int j b)).run P w=.ok (a==b) w:=fun a b=>by
    unfold Op.equalIn
    rw [Sem.run_bind,run_underlying he]
    simp
  have p0:∀ a b:Int,(part et #[.int j a,.int j b] 0).run P w=.ok (.int j a) w:=fun a b=>K0 he rfl
  have p1:∀ a b:Int,(part et #[.int j a,.int j b] 1).run P w=.ok (.int j b) w:=fun a b=>K0 he rfl
  simp [Std.Legacy.Range.forIn_eq_forIn_range',Std.Legacy.Range.size,List.range',Sem.run_bind,p0,p1,e1]
  cases h1:(x==x')<;>cases h2:(y==y')<;>simp_all [Sem.run_bind,p0,p1,e1]
theorem SE{P:Program}{w:World}{kt et:TypeId}{k:IntKind}(hu:P.underlying kt=some (.array 2 et))(he:P.underlying et=some (.int k))(hs:(P.info? et).map (·.size)=some 1)(j:IntKind)(x y:Int)(b:Bool)(n:Nat) :
    (Instr.checkKey b (n+2) kt (.agg #[.int j x,.int j y])).run P w=.ok () w:=by
  unfold Instr.checkKey
  rw [Sem.run_bind,run_underlying hu]
  have p0:∀ a b:Int,(part et #[.int j a,.int j b] 0).run P w=.ok (.int j a) w:=fun a b=>K0 he rfl
  have p1:∀ a b:Int,(part et #[.int j a,.int j b] 1).run P w=.ok (.int j b) w:=fun a b=>K0 he rfl
  have c1:∀ a,(Instr.checkKey b (n+1) et (.int j a)).run P w=.ok () w:=fun a=>by
    unfold Instr.checkKey
    rw [Sem.run_bind,run_underlying he]
    rfl
  simp [Std.Legacy.Range.forIn_eq_forIn_range',Std.Legacy.Range.size,List.range',Sem.run_bind,SD hs,p0,p1,c1]
theorem aai{P:Program}{kt:TypeId}{key:dQ}(h:SC P kt key=true) :∃ k x y et k',key=.p k x y∧P.underlying kt=some (.array 2 et)∧P.underlying et=some (.int k')∧(P.info? et).map (·.size)=some 1:=by
  unfold SC at h
  split at h
  case h_2=>cases h
  rename_i k x y
  split at h
  case h_2=>cases h
  rename_i et hu
  split at h
  case h_2=>cases h
  rename_i k' he hs
  exact ⟨k,x,y,et,k',rfl,hu,he,hs⟩
theorem rM{k:dQ} :∀ {l:List dQ},KY k l=true→∀ q∈l,k.like q=true
  | [],_,q,h=>by cases h
  | r::l,h,q,hq=>by
    simp only [KY,Bool.and_eq_true] at h
    rcases List.mem_cons.1 hq with rfl | hq
    · exact h.1
    · exact rM h.2 q hq
theorem afV(ρ:am)(w:World)(v:Value) :VR ρ w (aoI v) v:=by
  unfold aoI
  split
  · exact .agg _ _ (C3 ρ w _)
  · exact ut ρ w v
theorem aoJ{ρ:am}{w:World}{k:AV}{k':Value}{key:dQ}(h:VR ρ w k k')(hk:arI k=some key) :k'=key.val:=by
  unfold arI at hk
  split at hk
  · cases hk;cases h;rfl
  · cases hk;cases h;rfl
  · rename_i k x k' y
    cases hs:cT k k' with
    | false=>rw [hs] at hk;cases hk
    | true =>
      rw [hs] at hk
      have hkk:k=k':=by simpa [cT] using hs
      subst hkk
      cases hk
      cases h with | agg _ c h =>
      obtain ⟨c⟩:=c
      cases h with | cons _ _ _ _ h1 h2 =>
      cases h2 with | cons _ _ _ _ h2 h3 =>
      cases h3;cases h1;cases h2;rfl
  · cases hk
theorem CI{k q:dQ}(h:k.like q=true) :k.same q=true↔q.val=k.val:=by
  cases k with
  | i k n =>
    cases q with
    | i k' m =>
      have:k=k':=by simpa [dQ.like,cT] using h
      subst this
      simp only [dQ.same,dQ.val,beq_iff_eq,Value.int.injEq,true_and]
      exact ⟨fun e=>e.symm,fun e=>e.symm⟩
    | s b=>cases h
    | p=>cases h
  | p k x y =>
    cases q with
    | p k' x' y' =>
      have:k=k':=by simpa [dQ.like,cT] using h
      subst this
      simp only [dQ.same,dQ.val,Bool.and_eq_true,beq_iff_eq]
      exact ⟨fun ⟨h1,h2⟩=>by rw [h1,h2],fun h=>by simp at h;exact ⟨h.1.symm,h.2.symm⟩⟩
    | i=>cases h
    | s=>cases h
  | s a =>
    cases q with
    | i k' m=>cases h
    | p=>cases h
    | s b =>
      simp only [dQ.same,dQ.val,decide_eq_true_eq,Value.string.injEq]
      exact ⟨fun e=>e.symm,fun e=>e.symm⟩
theorem arJ(a b:ByteArray) :(a==b)=decide (a=b):=by
  have e:(a==b)=(a.data==b.data):=rfl
  rw [e]
  by_cases h:a=b
  · subst h;simp
  · rw [decide_eq_false h]
    have:a.data≠b.data:=fun c=>h (by cases a;cases b;simp at c;subst c;rfl)
    simpa using this
theorem aqw{d:TypeDesc}{k q:dQ}(hf:k.fits d=true)(h:k.like q=true) :Instr.sameNow d k.val q.val=some (k.same q):=by
  cases k with
  | i k n =>
    cases q with
    | i k' m =>
      have:k=k':=by simpa [dQ.like,cT] using h
      subst this
      cases d<;>first | (cases hf;done) | simp [dQ.val,Instr.sameNow,dQ.same]
    | s b=>cases h
    | p=>cases h
  | p k x y=>cases d<;>cases hf
  | s a =>
    cases q with
    | i k' m=>cases h
    | p=>cases h
    | s b =>
      cases d<;>first | (cases hf;done) | (simp only [dQ.val,Instr.sameNow,dQ.same,arJ])
theorem K1{d:TypeDesc}{key:dQ}(hf:key.fits d=true) :∀ (es:List MapEntry) (i:Nat),(∀ e∈es,∃ q:dQ,key.like q=true∧e.key=q.val) →
    (Instr.findNow d key.val es i=some none∧∀ e∈es,e.key≠key.val)∨∃ j e,e∈es∧e.key=key.val∧Instr.findNow d key.val es i=some (some (j,e.val))
  | [],i,_=>.inl ⟨rfl,fun e h=>by cases h⟩
  | e::es,i,h=>by
    obtain ⟨q,hq,he⟩:=h e (by simp)
    have hn:Instr.sameNow d key.val e.key=some (key.same q):=by rw [he];exact aqw hf hq
    cases hs:key.same q with
    | true =>
      refine .inr ⟨i,e,by simp,by rw [he];exact (CI hq).1 hs,?_⟩
      simp only [Instr.findNow,hn,hs]
    | false =>
      have hne:e.key≠key.val:=by rw [he];intro c;rw [(CI hq).2 c] at hs;cases hs
      rcases K1 hf es (i+1) (fun e he=>h e (by simp [he])) with ⟨q1,q2⟩ | ⟨j,e',q1,q2,q3⟩
      · refine .inl ⟨by simp only [Instr.findNow,hn,hs];exact q1,fun e' he'=>?_⟩
        rcases List.mem_cons.1 he' with rfl | he'
        · exact hne
        · exact q2 e' he'
      · exact .inr ⟨j,e',by simp [q1],q2,by simp only [Instr.findNow,hn,hs];exact q3⟩
theorem K2{P:Program}{w:World}{kt et:TypeId}{k':IntKind}(hu:P.underlying kt=some (.array 2 et))(he:P.underlying et=some (.int k'))(hs:(P.info? et).map (·.size)=some 1){k:IntKind}{x y:Int} :∀ (es:List MapEntry) (i:Nat),(∀ e∈es,∃ q:dQ,(dQ.p k x y).like q=true∧e.key=q.val) →
    ((Instr.findAsking kt (dQ.p k x y).val es i).run P w=.ok none w∧∀ e∈es,e.key≠(dQ.p k x y).val)∨∃ j e,e∈es∧e.key=(dQ.p k x y).val∧(Instr.findAsking kt (dQ.p k x y).val es i).run P w=.ok (some (j,e.val)) w
  | [],i,_=>.inl ⟨by simp [Instr.findAsking],fun e h=>by cases h⟩
  | e::es,i,h=>by
    obtain ⟨q,hq,hk⟩:=h e (by simp)
    obtain ⟨k2,x',y',rfl⟩:∃ k2 x' y',q=.p k2 x' y':=by cases q<;>first | exact ⟨_,_,_,rfl⟩ | cases hq
    have hkk:k=k2:=by simpa [dQ.like,cT] using hq
    subst hkk
    have heq:(Op.equal kt (dQ.p k x y).val e.key).run P w=.ok (x==x'&&y==y') w:=by
      rw [hk];exact aqv hu he hs k x y x' y' _
    have hfa:(Instr.findAsking kt (dQ.p k x y).val (e::es) i).run P w=if (x==x'&&y==y')=true then .ok (some (i,e.val)) w else (Instr.findAsking kt (dQ.p k x y).val es (i+1)).run P w:=by
      rw [Instr.findAsking]
      simp only [Sem.run_bind,heq,Result.andThen_ok]
      split<;>simp
    cases hb:(x==x'&&y==y') with
    | true =>
      refine .inr ⟨i,e,by simp,?_,by rw [hfa,hb];rfl⟩
      simp only [Bool.and_eq_true,beq_iff_eq] at hb
      rw [hk,hb.1,hb.2]
    | false =>
      have hne:e.key≠(dQ.p k x y).val:=by
        rw [hk]
        intro c
        simp [dQ.val] at c
        rw [c.1,c.2] at hb
        simp at hb
      rw [hb] at hfa
      simp only [Bool.false_eq_true,if_false] at hfa
      rcases K2 hu he hs es (i+1) (fun e he=>h e (by simp [he])) with ⟨q1,q2⟩ | ⟨j,e',q1,q2,q3⟩
      · refine .inl ⟨by rw [hfa];exact q1,fun e' he'=>?_⟩
        rcases List.mem_cons.1 he' with rfl | he'
        · exact hne
        · exact q2 e' he'
      · exact .inr ⟨j,e',by simp [q1],q2,by rw [hfa];exact q3⟩
theorem am9{P:Program}{w:World}{kt:TypeId}{d:TypeDesc}(hu:P.underlying kt=some d){key:dQ}(hf:key.fits d=true)(b:Bool)(n:Nat) :(Instr.checkKey b (n+1) kt key.val).run P w=.ok () w:=by
  unfold Instr.checkKey
  rw [Sem.run_bind,run_underlying hu]
  cases key<;>cases d<;>first | (cases hf;done) | rfl
theorem aaj{P:Program}{w:World}{kt:TypeId}{d:TypeDesc}(hu:P.underlying kt=some d){key:dQ}(hf:(key.fits d||SC P kt key)=true)(b:Bool)(n:Nat) :(Instr.checkKey b (n+2) kt key.val).run P w=.ok () w:=by
  rcases Bool.or_eq_true _ _ ▸ hf with h | h
  · exact am9 hu h b (n+1)
  · obtain ⟨k,x,y,et,k',rfl,h1,h2,h3⟩:=aai h
    exact SE h1 h2 h3 k x y b n
theorem K3{P:Program}{w:World}{kt:TypeId}{d:TypeDesc}(hu:P.underlying kt=some d){key:dQ}(hf:(key.fits d||SC P kt key)=true)(es:List MapEntry)(h:∀ e∈es,∃ q:dQ,key.like q=true∧e.key=q.val) :
    ((Instr.findKey kt key.val es).run P w=.ok none w∧∀ e∈es,e.key≠key.val)∨∃ j e,e∈es∧e.key=key.val∧(Instr.findKey kt key.val es).run P w=.ok (some (j,e.val)) w:=by
  unfold Instr.findKey
  rcases Bool.or_eq_true _ _ ▸ hf with hk | hk
  · rcases K1 hk es 0 h with ⟨q1,q2⟩ | ⟨j,e,q1,q2,q3⟩
    · exact .inl ⟨by simp only [Sem.run_bind,run_underlying hu,Result.andThen_ok,q1];rfl,q2⟩
    · exact .inr ⟨j,e,q1,q2,by simp only [Sem.run_bind,run_underlying hu,Result.andThen_ok,q3];rfl⟩
  · obtain ⟨k,x,y,et,k',rfl,h1,h2,h3⟩:=aai hk
    have hd:d=.array 2 et:=by rw [hu] at h1;exact Option.some.inj h1
    subst hd
    cases es with
    | nil=>exact .inl ⟨by simp only [Sem.run_bind,run_underlying hu,Result.andThen_ok,Instr.findNow];rfl,fun e h=>by cases h⟩
    | cons e es =>
      have hn:Instr.findNow (.array 2 et) (dQ.p k x y).val (e::es) 0=none:=rfl
      simp only [Sem.run_bind,run_underlying hu,Result.andThen_ok,hn]
      exact K2 h1 h2 h3 (e::es) 0 h
theorem Db{cok:Bool}{k:dQ} :∀ {ks:List dQ} {vs:List AV} {r:yg},r∈KZ cok k ks vs→∃ (i:Nat) (q:dQ) (v:AV),ks[i]? = some q∧vs[i]? = some v∧r=⟨okV cok v true,[],[k.same q]⟩
  | q::ks,v::vs,r,h=>by
    simp only [KZ,List.mem_cons] at h
    rcases h with rfl | h
    · exact ⟨0,q,v,rfl,rfl,rfl⟩
    · obtain ⟨i,q',v',h1,h2,h3⟩:=Db h
      exact ⟨i+1,q',v',by simpa using h1,by simpa using h2,h3⟩
  | [],_,r,h=>by cases h
  | _::_,[],r,h=>by cases h
theorem JG:∀ {l:List dQ},SB l=true→∀ {i j:Nat} {q r:dQ},l[i]? = some q→l[j]? = some r→i<j→q.same r=false
  | [],_,i,j,q,r,h1,_,_=>by simp at h1
  | x::l,hn,i,j,q,r,h1,h2,hlt=>by
    simp only [SB,Bool.and_eq_true,List.all_eq_true,Bool.not_eq_true'] at hn
    cases j with
    | zero=>omega
    | succ j =>
      cases i with
      | zero =>
        simp at h1 h2;subst h1
        exact hn.1 r (List.mem_of_getElem? h2)
      | succ i=>exact JG hn.2 (i:=i) (j:=j) (by simpa using h1) (by simpa using h2) (by omega)
theorem SF{P:Program}{w:World}{t kt et:TypeId}(ht:P.underlying t=some (.map kt et)){bl cl:Nat}{es:Array MapEntry}(hh:w.heap[bl]? = some (.map es cl)){key:dQ}(hck:∀ b,(Instr.checkKey b 10000 kt key.val).run P w=.ok () w) 
    {r:Option (Nat×Value)} (hfk:(Instr.findKey kt key.val es.toList).run P w=.ok r w) {z:Value} (hz:(zeroValue et).run P w=.ok z w) (cok:Bool) :
    (Instr.lookup t (.map (some bl)) key.val cok).run P w=.ok (if cok then .tuple #[(r.map Prod.snd).getD z,.bool r.isSome] else (r.map Prod.snd).getD z) w:=by
  unfold Instr.lookup
  simp only [Sem.run_bind,run_underlying ht,Result.andThen_ok]
  have hg:(getObj bl).run P w=.ok (.map es cl) w:=by simp [getObj,Sem.run,hh]
  simp only [Sem.run_bind,hg,Result.andThen_ok,Sem.run_pure,hck]
  simp only [hfk,Result.andThen_ok]
  cases r with
  | none=>simp only [Sem.run_bind,hz,Result.andThen_ok,Sem.run_pure];cases cok<;>rfl
  | some p=>obtain ⟨j,v⟩:=p;simp only [Sem.run_bind,Result.andThen_ok,Sem.run_pure];cases cok<;>rfl
theorem Wx{P:Program}{ρ:am}{w:World}{t:TypeId}{x k:AV}{x' k':Value}{cok:Bool}{r:yg}(hx:VR ρ w x x')(hk:VR ρ w k k')(h:r∈abQ P t x k cok)(ho:aH r.obs) :
    lC P ρ w (Instr.lookup t x' k' cok) r.v:=by
  unfold abQ at h
  split at h
  case h_2=>cases h
  rename_i kt et ks vs key ht hkey
  split at h
  case h_2=>cases h
  rename_i d z hd hz
  cases hb:(key.fits d||SC P kt key)&&KY key ks&&SB ks with
  | false=>rw [hb] at h;cases h
  | true =>
  rw [hb] at h
  simp only [cond_true,List.mem_append,List.mem_singleton] at h
  simp only [Bool.and_eq_true] at hb
  obtain ⟨⟨hf,hl⟩,hn⟩:=hb
  have hkv:=aoJ hk hkey
  subst hkv
  cases hx with | gmap _ _ bl es cl u ha hb' hh hin hex hv hlen hkept =>
  simp only [Option.bind_eq_some_iff] at hz
  obtain ⟨inf,hi,hz⟩:=hz
  have hzv:(zeroValue et).run P w=.ok z w:=by simp [zeroValue,typeInfo,hi,hz]
  have hes:∀ e∈es.toList,∃ q:dQ,key.like q=true∧e.key=q.val:=fun e he=>by
    obtain ⟨i,q,h1,h2,_⟩:=hin e he
    exact ⟨q,rM hl q (List.mem_of_getElem? h1),h2⟩
  rcases K3 hd hf es.toList hes with ⟨q1,q2⟩ | ⟨j,e,q1,q2,q3⟩
  · have run:=SF ht hh (fun b=>aaj hd hf b 9998) q1 hzv cok
    rcases h with h | rfl
    · obtain ⟨i,q,v,h1,h2,rfl⟩:=Db h
      obtain ⟨e,he,h3,_⟩:=hex i q h1
      exact absurd (h3.trans ((CI (rM hl q (List.mem_of_getElem? h1))).1 ho.1)) (q2 e he)
    · refine .plain run ?_
      cases cok
      · exact afV ρ w z
      · exact .tup _ #[_,_] (.cons _ _ _ _ (afV ρ w z) (.cons _ _ _ _ (.bool _ _) .nil))
  · have run:=SF ht hh (fun b=>aaj hd hf b 9998) q3 hzv cok
    obtain ⟨i,q,h1,h2,h3⟩:=hin e q1
    have hsame:key.same q=true:=(CI (rM hl q (List.mem_of_getElem? h1))).2 (h2.symm.trans q2)
    rcases h with h | rfl
    · obtain ⟨i',q',v,k1,k2,rfl⟩:=Db h
      have hij:i=i':=by
        have l1:=rM hl q (List.mem_of_getElem? h1)
        have l2:=rM hl q' (List.mem_of_getElem? k1)
        have e1:=(CI l1).1 hsame
        have e2:=(CI l2).1 ho.1
        have lk:∀ {a b:dQ},key.like a=true→key.like b=true→a.val=b.val→a.same b=true:=by
          intro a b ha hb e
          cases key<;>cases a<;>cases b<;>simp_all [dQ.like,dQ.same,dQ.val]
        rcases Nat.lt_trichotomy i i' with c | c | c
        · have:=JG hn h1 k1 c
          rw [lk l1 l2 (e1.trans e2.symm)] at this;cases this
        · exact c
        · have:=JG hn k1 h1 c
          rw [lk l2 l1 (e2.trans e1.symm)] at this;cases this
      subst hij
      refine .plain run ?_
      have hvr:VR ρ w v e.val:=by rw [h3];exact hv i v k2
      cases cok
      · exact hvr
      · exact .tup _ #[_,_] (.cons _ _ _ _ hvr (.cons _ _ _ _ (.bool _ _) .nil))
    · exfalso
      have:∀ (l:List dQ),aH (l.map fun q=>!key.same q)→∀ q∈l,key.same q=false:=by
        intro l
        induction l with
        | nil=>intro _ q hq;cases hq
        | cons a l ih =>
          intro h q hq
          simp only [List.map_cons,aH,Bool.not_eq_true'] at h
          rcases List.mem_cons.1 hq with rfl | hq
          · exact h.1
          · exact ih h.2 q hq
      have:=this ks ho q (List.mem_of_getElem? h1)
      rw [hsame] at this;cases this
inductive QA where
  | sqrt | bits | frombits | add64 | sub64 | idxb | cntb
def arK(s:ByteArray)(c:Int) :Int:=match (List.range s.size).find? fun i=>s[i]! == c.toNat.toUInt8 with
  | some i=>(i:Int)
  | none=>-1
def arL(s:ByteArray)(c:Int) :Int:=s.foldl (fun n x=>if x==c.toNat.toUInt8 then n+1 else n) (0:Int)
def FG:QA→Array Value→Sem Value
  | .sqrt=>Extern.MathSqrt.sqrt
  | .bits=>Extern.MathFloatBits.float64bits
  | .frombits=>Extern.MathFloatBits.float64frombits
  | .add64=>fun args=>do
    let (x, y, c) ← Extern.MathBitsCarry.three "Add64" args
    pure (Extern.MathBitsCarry.pair ((x+y+c)%Extern.MathBitsCarry.m64) ((x+y+c)/Extern.MathBitsCarry.m64))
  | .sub64=>fun args=>do
    let (x, y, b) ← Extern.MathBitsCarry.three "Sub64" args
    pure (Extern.MathBitsCarry.pair ((x+Extern.MathBitsCarry.m64-y-b)%Extern.MathBitsCarry.m64) (if x<y+b then 1 else 0))
  | .idxb=>Extern.BytealgIndexByte.indexByte
  | .cntb=>Extern.BytealgCount.count
def aqx(k:QA)(args:List AV) :List yg :=
  match k,args with
  | .sqrt,[.flt _ x]=>[⟨.flt false (aop x),[],[]⟩]
  | .bits,[.flt true x]=>[⟨.int .u64 x,[],[]⟩]
  | .bits,[.flt false x]=>[⟨.int .u64 x,[],[!isNaN x]⟩,⟨.nan,[],[isNaN x]⟩]
  | .frombits,[.int .u64 n]=>[⟨.flt true n.toNat,[],[]⟩]
  | .add64,[.int _ x,.int _ y,.int _ c]=>[⟨.tup [.int .u64 (((x.toNat+y.toNat+c.toNat)%18446744073709551616:Nat):Int),.int .u64 (((x.toNat+y.toNat+c.toNat)/18446744073709551616:Nat):Int)],[],[mQ c.toNat 1]⟩]
  | .sub64,[.int _ x,.int _ y,.int _ c]=>[⟨.tup [.int .u64 (((x.toNat+18446744073709551616-y.toNat-c.toNat)%18446744073709551616:Nat):Int),.int .u64 (bif Nat.blt x.toNat (y.toNat+c.toNat) then 1 else 0)],[],[mQ c.toNat 1]⟩]
  | .idxb,[.str s,.int .u8 c]=>[⟨.int .i64 (arK s c),[],[]⟩]
  | .cntb,[.str s,.int .u8 c]=>[⟨.int .i64 (arL s c),[],[]⟩]
  | _,_=>[]
abbrev fD:=Option (List Nat)
structure aoK where
  mask:List Bool
  keep:Bool
abbrev gn:=FuncId→List aN→List AV→fD→Option (fU×List Bool×fD)
structure CB where
  P:Program
  ext:FuncId→Option QA
  mode:FuncId→aoK
  wrap:Bool
structure CB.Ok (C:CB):Prop where
  mixed:C.P.follows .mixedOrders=true
  enter:∀ (f:FuncId) (fn:Func) (args:Array Value) (w:World),C.P.funcs[f]? = some fn→fn.body.isSome=true→(callFunc f args).run C.P w=.ok (.enter f args) w
  ext:∀ (f:FuncId) (k:QA) (args:Array Value) (w:World),C.ext f=some k→(callFunc f args).run C.P w=(do pure (Next.value (←FG k args)):Sem Next).run C.P w
def SG(P:Program)(run:gn) :Prop :=
  ∀ f lent args p r obs p',run f lent args p=some (r,obs,p')→aH obs→∀ (ρ:am) (w:World) (us:List Value),km ρ w lent→da ρ w args us →
    (∃ fn,P.funcs[f]? = some fn∧fn.body.isSome=true)∧Calls P f us.toArray w fun e w'=>∃ u,e=.returned u∧jX ρ.live w w'∧r.Holds ρ w w' lent.length u
structure OpR where
  v:AV
  sets:List (Nat×Option aN)
  reads:List Nat
  obs:List Bool
  path:fD
def abR:List Bool→Bool
  | []=>true
  | b::l=>b&&abR l
theorem NG:∀ {l:List Bool},abR l=true→aH l
  | [],_=>trivial
  | b::l,h=>by simp only [abR,Bool.and_eq_true] at h;exact ⟨h.1,NG h.2⟩
def Dc(alts:List yg)(p:fD) :Option (yg×fD) :=
  match alts,p with
  | [a],p=>some (a,p)
  | alts,none=>(alts.find? fun a=>abR a.obs).map fun a=>(a,none)
  | alts,some (k::r)=>(alts[k]?).map fun a=>(a,some r)
  | _,_=>none
theorem AC{alts:List yg}{p p':fD}{a:yg}(h:Dc alts p=some (a,p')) :a∈alts:=by
  unfold Dc at h
  split at h
  · simp only [Option.some.injEq,Prod.mk.injEq] at h;rw [←h.1];simp
  · simp only [Option.map_eq_some_iff,Prod.mk.injEq] at h;obtain ⟨b,h1,rfl,_⟩:=h;exact List.mem_of_find?_eq_some h1
  · simp only [Option.map_eq_some_iff,Prod.mk.injEq] at h;obtain ⟨b,h1,rfl,_⟩:=h;exact List.mem_of_getElem? h1
  · cases h
def jY:Nat:=100000
mutual
def abS:AV→List Nat
  | .ptr b ..=>[b]
  | .sl b ..=>[b]
  | .fn _ l1 l2=>kA l1++kA l2
  | .agg l | .tup l=>kA l
  | .iface _ v=>abS v
  | _=>[]
def kA:List AV→List Nat
  | []=>[]
  | v::l=>abS v++kA l
end
def aqy:aN→List Nat
  | .vs l=>kA l
  | _=>[]
def wW:List Nat→Nat→Bool
  | [],_=>false
  | k::l,b=>bif Nat.beq k b then true else wW l b
def pO(g:Nat→Option aN) :Nat→List Nat→List Nat→List Nat
  | 0,_,acc=>acc
  | _+1,[],acc=>acc
  | n+1,b::t,acc=>match wW acc b with
    | true=>pO g n t acc
    | false=>pO g n ((match g b with | some d=>aqy d | none=>[])++t) (acc++[b])
def sc:List Bool→List AV→List AV
  | true::m,v::l=>v::sc m l
  | false::m,_::l=>sc m l
  | _,_=>[]
def mU(σ:Nat→Option Nat)(g:Nat→Option aN) :List Bool→List AV→List AV×List Nat
  | _,[]=>([],[])
  | true::m,v::l=>let s:=mU σ g m l;(R1 σ v::s.1,s.2)
  | false::m,v::l=>let r:=ND σ g jY v;let s:=mU σ g m l;(r.1::s.1,r.2++s.2)
  | [],v::l=>let r:=ND σ g jY v;let s:=mU σ g [] l;(r.1::s.1,r.2++s.2)
theorem AD{ρ τ:am}{w:World}{h:bO}{m:Nat}{σ:Nat→Option Nat}(hh:HR ρ w h m)(L:afR ρ τ w h σ) :∀ (k:List Bool) {l:List AV} {c:List Value},da ρ w l c→da τ w (mU σ (bp h) k l).1 c
  | k,[],c,hv=>by cases hv;cases k<;>exact .nil
  | true::k,v::l,c,hv=>by cases hv with | cons _ u _ c' h1 h2=>exact .cons _ _ _ _ (ml L h1) (AD hh L k h2)
  | false::k,v::l,c,hv=>by cases hv with | cons _ u _ c' h1 h2=>exact .cons _ _ _ _ (abM hh L _ h1) (AD hh L k h2)
  | [],v::l,c,hv=>by cases hv with | cons _ u _ c' h1 h2=>exact .cons _ _ _ _ (abM hh L _ h1) (AD hh L [] h2)
def Dd:List Nat→Bool
  | []=>true
  | k::l=>bif wW l k then false else Dd l
def sd(g:Nat→Option aN)(nid:Nat) :List Nat→Bool
  | []=>true
  | b::l=>(match g b with | some _=>Nat.blt b nid||Nat.ble (nid+ww) b | none=>false)&&sd g nid l
theorem JH:∀ {l:List Nat} {i b:Nat},l[i]? = some b→wW l b=true
  | [],i,b,h=>by simp at h
  | k::l,0,b,h=>by simp at h;subst h;simp [wW,rX]
  | k::l,i+1,b,h=>by
    simp only [wW]
    cases Nat.beq k b with
    | true=>rfl
    | false=>simp only [cond_false];exact JH (i:=i) (by simpa using h)
theorem De:∀ {l:List Nat},Dd l=true→∀ {i j b:Nat},l[i]? = some b→l[j]? = some b→i=j
  | [],_,i,j,b,h1,_=>by simp at h1
  | k::l,hn,i,j,b,h1,h2=>by
    simp only [Dd] at hn
    cases e:wW l k with
    | true=>rw [e] at hn;cases hn
    | false =>
      rw [e] at hn;simp only [cond_false] at hn
      cases i with
      | zero =>
        cases j with
        | zero=>rfl
        | succ j=>simp at h1 h2;subst h1;rw [JH h2] at e;cases e
      | succ i =>
        cases j with
        | zero=>simp at h1 h2;subst h2;rw [JH h1] at e;cases e
        | succ j=>have:=De hn (i:=i) (j:=j) (b:=b) (by simpa using h1) (by simpa using h2);omega
theorem Bw{g:Nat→Option aN}{nid:Nat} :∀ {l:List Nat},sd g nid l=true→∀ b,b∈l→(∃ d,g b=some d)∧(b<nid∨nid+ww≤b)
  | [],_,b,hb=>by cases hb
  | k::l,h,b,hb=>by
    simp only [sd,Bool.and_eq_true] at h
    rcases List.mem_cons.1 hb with rfl | q
    · have:=h.1
      cases e:g b with
      | none=>rw [e] at this;cases this
      | some d =>
        rw [e] at this
        simp only [Bool.or_eq_true] at this
        refine ⟨⟨d,rfl⟩,this.imp (fun q=>by simpa [Nat.blt_eq] using q) (fun q=>Nat.le_of_ble_eq_true q)⟩
    · exact Bw h.2 b q
def FH(e:Operand→AV)(f:Operand)(args:Array Operand) :Option (FuncId×List AV) :=
  match e f with
  | .fn (.func fid) first caps=>some (fid,first++args.toList.map e++caps)
  | _=>none
def SH(C:CB)(run:gn)(g:Nat→Option aN)(nid:Nat)(p:fD)(fid:FuncId)(vals:List AV) :Option OpR :=
  let bs:=pO g jY (kA (sc (C.mode fid).mask vals)) []
  let la:=mU (pw bs 0) g (C.mode fid).mask vals
  bif Dd bs&&sd g nid bs then
    match run fid (wV (pw bs 0) g bs) la.1 p with
    | some (r,obs,p') =>
      bif Nat.ble r.own.length (bs.length+ww) then
        some { v:=pN (ia bs nid) r.v,sets:=mT (ia bs nid) 0 r.own,reads:=bs++la.2,obs,path:=p' }
      else none
    | none=>none
  else none
def opM(C:CB)(run:gn)(e:Operand→AV)(g:Nat→Option aN)(nid:Nat)(p:fD)(op:Op) :Option OpR :=
  match zk C.wrap C.P e op with
  | some (v,obs)=>some { v,sets:=[],reads:=[],obs,path:=p }
  | none =>
    match op with
    | .load t x=>(Il C.P g t (e x)).map fun r=>{ v:=r.1,sets:=[],reads:=r.2.2,obs:=r.2.1,path:=p }
    | .convert t d x=>(am8 C.P g t d (e x)).map fun r=>{ v:=.str r.1,sets:=[],reads:=r.2.2,obs:=r.2.1,path:=p }
    | .slice t x lo hi none=>(NF C.P g t (e x) (lo.map e) (hi.map e)).map fun r=>{ v:=r.1,sets:=[],reads:=r.2.2,obs:=r.2.1,path:=p }
    | .store t x v=>(JA C.P g t (e x) (e v)).map fun r=>{ v:=.any,sets:=[(r.1,some r.2.1)],reads:=[r.1],obs:=r.2.2,path:=p }
    | .lookup t x k cok=>(Dc (abQ C.P t (e x) (e k) cok) p).map fun r=>{ v:=r.1.v,sets:=[],reads:=[],obs:=r.1.obs,path:=r.2 }
    | .alloc t=>(abB C.P nid t).map fun r=>{ v:=r.1,sets:=[(nid,some r.2)],reads:=[],obs:=[],path:=p }
    | .box t x=>(aqt C.P nid t (e x)).map fun r=>{ v:=r.1,sets:=[(nid,some r.2)],reads:=[],obs:=[],path:=p }
    | .makeSlice t l c=>(aoz C.P nid t (e l) (e c)).map fun r=>{ v:=r.1,sets:=[(nid,some r.2.1)],reads:=[],obs:=r.2.2,path:=p }
    | .build t parts=>(ajx C.P t (parts.toList.map fun x=>(x.1,e x.2))).map fun v=>{ v,sets:=[],reads:=[],obs:=[],path:=p }
    | .buildSlice t len parts=>(FC C.P nid t len (parts.toList.map fun x=>(x.1,e x.2))).map fun r=>{ v:=r.1,sets:=[(nid,some r.2)],reads:=[],obs:=[],path:=p }
    | .call { callee:=.builtin .append,args,argTypes } =>
      match args.toList,argTypes.toList with
      | [s,x],[t,t']=>bif Nat.beq t t' then
          match Hz C.P g nid t (e s) (e x) with
          | some (alts,rs)=>(Dc alts p).map fun r=>{ v:=r.1.v,sets:=r.1.sets,reads:=rs,obs:=r.1.obs,path:=r.2 }
          | none=>none
        else match HA C.P g nid t t' (e s) (e x) with
          | some (alts,rs)=>(Dc alts p).map fun r=>{ v:=r.1.v,sets:=r.1.sets,reads:=rs,obs:=r.1.obs,path:=r.2 }
          | none=>none
      | _,_=>none
    | .call { callee:=.builtin .copy,args,argTypes } =>
      match args.toList,argTypes.toList with
      | [s,x],[t,_]=>(aah C.P g t (e s) (e x)).map fun r=>{ v:=.int .i64 (r.1:Int),sets:=[(r.2.1,some r.2.2.1)],reads:=r.2.2.2.2,obs:=r.2.2.2.1,path:=p }
      | _,_=>none
    | .call { callee:=.value f,args,.. } =>
      match FH e f args with
      | some (fid,l) =>
        match C.ext fid with
        | some k=>(Dc (aqx k l) p).map fun r=>{ v:=r.1.v,sets:=[],reads:=[],obs:=r.1.obs,path:=r.2 }
        | none=>SH C run g nid p fid l
      | none=>none
    | _=>none
def Bx(p:fD)(r:Option (AV×List Bool)) :Option OpR:=match r with | some (v,obs)=>some { v,sets:=[],reads:=[],obs,path:=p } | none=>none
def arM(P:Program)(g:Nat→Option aN)(p:fD)(t:TypeId)(v:AV) :Option OpR:=(Il P g t v).map fun r=>{ v:=r.1,sets:=[],reads:=r.2.2,obs:=r.2.1,path:=p }
def aqz(P:Program)(g:Nat→Option aN)(p:fD)(t:TypeId)(x v:AV) :Option OpR:=(JA P g t x v).map fun r=>{ v:=.any,sets:=[(r.1,some r.2.1)],reads:=[r.1],obs:=r.2.2,path:=p }
def aqA(P:Program)(nid:Nat)(p:fD)(t:TypeId) :Option OpR:=(abB P nid t).map fun r=>{ v:=r.1,sets:=[(nid,some r.2)],reads:=[],obs:=[],path:=p }
def asp(P:Program)(nid:Nat)(p:fD)(t:TypeId)(x:AV) :Option OpR:=(aqt P nid t x).map fun r=>{ v:=r.1,sets:=[(nid,some r.2)],reads:=[],obs:=[],path:=p }
def asq(C:CB)(run:gn)(e:Operand→AV)(g:Nat→Option aN)(nid:Nat)(p:fD)(f:Operand)(args:Array Operand) :Option OpR :=
  match FH e f args with
  | some (fid,l) =>
    match C.ext fid with
    | some k=>(Dc (aqx k l) p).map fun r=>{ v:=r.1.v,sets:=[],reads:=[],obs:=r.1.obs,path:=r.2 }
    | none=>SH C run g nid p fid l
  | none=>none
def arN(C:CB)(run:gn)(e:Operand→AV)(g:Nat→Option aN)(nid:Nat)(p:fD)(c:Call) :Option OpR :=
  match c.callee with
  | .value f=>asq C run e g nid p f c.args
  | _=>opM C run e g nid p (.call c)
def opF(C:CB)(run:gn)(e:Operand→AV)(g:Nat→Option aN)(nid:Nat)(p:fD)(op:Op) :Option OpR :=
  match op with
  | .move x=>some { v:=e x,sets:=[],reads:=[],obs:=[],path:=p }
  | .assign x=>some { v:=e x,sets:=[],reads:=[],obs:=[],path:=p }
  | .binOp op t x y _=>Bx p (aor C.wrap C.P op t (e x) (e y))
  | .unOp op _ x=>Bx p (unA op (e x))
  | .load t x=>arM C.P g p t (e x)
  | .store t x v=>aqz C.P g p t (e x) (e v)
  | .fieldAddr s x f=>Bx p (E5 (C1 C.P s (e x) f))
  | .field t x f=>Bx p (E5 (abt C.P t (e x) f))
  | .indexAddr t x ix=>Bx p (C2 C.P t (e x) (e ix))
  | .alloc t=>aqA C.P nid p t
  | .box t x=>asp C.P nid p t (e x)
  | .call c=>arN C run e g nid p c
  | op=>opM C run e g nid p op
theorem aoL(C:CB)(run:gn)(e:Operand→AV)(g:Nat→Option aN)(nid:Nat)(p:fD)(op:Op) :opF C run e g nid p op=opM C run e g nid p op:=by
  cases op with
  | binOp op t x y _=>simp only [opF,opM,zk,Bx]
  | unOp op t x=>simp only [opF,opM,zk,Bx]
  | fieldAddr s x f=>simp only [opF,opM,zk,Bx]
  | field s x f=>simp only [opF,opM,zk,Bx]
  | indexAddr s x f=>simp only [opF,opM,zk,Bx]
  | call c =>
    obtain ⟨callee,args,ats⟩:=c
    cases callee<;>rfl
  | _=>rfl
theorem afW{x:Nat}(h:isNaN x=true) :FloatKind.f64.format.sqrt x=none:=by
  obtain ⟨s,t,e⟩:=zj h
  simp [Ieee.Format.sqrt,e,Ieee.Datum.root]
theorem SI{ρ:am}{w:World}{k1 k2 k3:IntKind}{x y z:Int}{c:Array Value}(hl:da ρ w [.int k1 x,.int k2 y,.int k3 z] c.toList) :c = #[.int k1 x,.int k2 y,.int k3 z]:=by
  have h:c.toList=[.int k1 x,.int k2 y,.int k3 z]:=by
    generalize c.toList=l at hl
    cases hl with | cons _ u1 _ _ h1 t1 =>
    cases t1 with | cons _ u2 _ _ h2 t2 =>
    cases t2 with | cons _ u3 _ _ h3 t3 =>
    cases t3;cases h1;cases h2;cases h3;rfl
  rw [←c.toArray_toList,h]
theorem aak{P:Program}{w:World}(name:String){k1 k2 k3:IntKind}{x y z:Int}(hz:z.toNat≤1) :(Extern.MathBitsCarry.three name #[.int k1 x,.int k2 y,.int k3 z]).run P w=.ok (x.toNat,y.toNat,z.toNat) w:=by
  have e:Extern.MathBitsCarry.three name #[.int k1 x,.int k2 y,.int k3 z]=(do
      if z.toNat > 1 then unsupported (.noEntry ("extern/math/bits." ++ name ++ ": a carry that is neither 0 nor 1"))
      pure (x.toNat,y.toNat,z.toNat):Sem (Nat×Nat×Nat)):=rfl
  rw [e,if_neg (by omega)]
  rfl
theorem ajG{P:Program}{ρ:am}{w:World}{k:QA}{l:List AV}{c:Array Value}{r:yg}(hl:da ρ w l c.toList)(h:r∈aqx k l)(ho:aH r.obs) :lC P ρ w (FG k c) r.v:=by
  have one:∀ {a:AV},da ρ w [a] c.toList→∃ u,c = #[u]∧VR ρ w a u:=by
    intro a h
    generalize hc:c.toList=l at h
    cases h with | cons _ u _ _ h1 h2=>cases h2;exact ⟨u,by rw [←hc],h1⟩
  unfold aqx at h
  split at h
  · simp only [List.mem_singleton] at h;subst h
    obtain ⟨u,rfl,hu⟩:=one hl
    cases hu with | flt _ _ y hf =>
    rename_i ex x
    have es:FG .sqrt #[.float .f64 y]=(match FloatKind.f64.format.sqrt y with
      | some r=>pure (.float .f64 r)
      | none=>do pure (.float .f64 (←choose (.nanBits .f64 y y)))):=rfl
    rw [es]
    have e:FloatKind.f64.format.sqrt y=FloatKind.f64.format.sqrt x:=by
      rcases hf with rfl | ⟨_,h2,h3⟩
      · rfl
      · rw [afW h2,afW h3]
    cases hr:FloatKind.f64.format.sqrt y with
    | some r=>exact ⟨.float .f64 r,w.drawn,rfl,.flt _ _ _ (.inl (by rw [e] at hr;simp [aop,hr]))⟩
    | none=>exact ⟨_,w.drawn+1,rfl,.flt _ _ _ (.inr ⟨rfl,by rw [e] at hr;simp [aop,hr,Se],alT y y _⟩)⟩
  · simp only [List.mem_singleton] at h;subst h
    obtain ⟨u,rfl,hu⟩:=one hl
    cases hu with | flt _ _ y hf =>
    rcases hf with rfl | ⟨h1,_⟩
    · exact ⟨_,w.drawn,rfl,.int _ _⟩
    · cases h1
  · simp only [List.mem_cons,List.not_mem_nil,or_false] at h
    obtain ⟨u,rfl,hu⟩:=one hl
    cases hu with | flt _ _ y hf =>
    rcases h with rfl | rfl
    · rcases hf with rfl | ⟨_,h2,_⟩
      · exact ⟨_,w.drawn,rfl,.int _ _⟩
      · have:=ho.1;rw [h2] at this;cases this
    · have hy:isNaN y=true:=by
        rcases hf with rfl | ⟨_,_,h3⟩
        · exact ho.1
        · exact h3
      exact ⟨_,w.drawn,rfl,.nan _ hy⟩
  · simp only [List.mem_singleton] at h;subst h
    obtain ⟨u,rfl,hu⟩:=one hl
    cases hu
    exact ⟨_,w.drawn,rfl,.flt _ _ _ (.inl rfl)⟩
  · simp only [List.mem_singleton] at h;subst h
    have hz:=ho.1
    replace hz:=of_decide_eq_true hz
    cases SI hl
    refine ⟨_,w.drawn,?_,.tup _ #[_,_] (.cons _ _ _ _ (.int _ _) (.cons _ _ _ _ (.int _ _) .nil))⟩
    simp only [FG, Sem.run_bind, aak "Add64" hz, Result.andThen_ok]
    rfl
  · simp only [List.mem_singleton] at h;subst h
    have hz:=ho.1
    replace hz:=of_decide_eq_true hz
    cases SI hl
    refine ⟨_,w.drawn,?_,.tup _ #[_,_] (.cons _ _ _ _ (.int _ _) (.cons _ _ _ _ (.int _ _) .nil))⟩
    simp only [FG, Sem.run_bind, aak "Sub64" hz, Result.andThen_ok]
    rename_i x _ y _ z
    have e:(bif Nat.blt x.toNat (y.toNat+z.toNat) then (1:Int) else 0)=Int.ofNat (if x.toNat<y.toNat+z.toNat then 1 else 0):=by
      by_cases q:x.toNat<y.toNat+z.toNat
      · rw [if_pos q,show Nat.blt x.toNat (y.toNat+z.toNat)=true by rw [Nat.blt_eq];exact q];rfl
      · rw [if_neg q]
        have:Nat.blt x.toNat (y.toNat+z.toNat)=false:=by
          cases h:Nat.blt x.toNat (y.toNat+z.toNat) with
          | false=>rfl
          | true=>rw [Nat.blt_eq] at h;exact absurd h q
        rw [this];rfl
    rw [e]
    rfl
  · simp only [List.mem_singleton] at h;subst h
    rename_i s b
    obtain ⟨u,rfl⟩:∃ u,c=u:=⟨c,rfl⟩
    have hc:c = #[.string s,.int .u8 b]:=by
      have h:c.toList=[.string s,.int .u8 b]:=by
        generalize c.toList=l at hl
        cases hl with | cons _ u1 _ _ h1 t1 =>
        cases t1 with | cons _ u2 _ _ h2 t2 =>
        cases t2;cases h1;cases h2;rfl
      rw [←c.toArray_toList,h]
    subst hc
    refine ⟨.int .i64 (arK s b),w.drawn,?_,.int _ _⟩
    have e:FG .idxb #[.string s,.int .u8 b]=(match (List.range s.size).find? fun i=>s[i]! == b.toNat.toUInt8 with
      | some i=>pure (goInt i)
      | none=>pure (goInt (-1))):=rfl
    rw [e]
    unfold arK
    cases (List.range s.size).find? fun i=>s[i]! == b.toNat.toUInt8<;>rfl
  · simp only [List.mem_singleton] at h;subst h
    rename_i s b
    have hc:c = #[.string s,.int .u8 b]:=by
      have h:c.toList=[.string s,.int .u8 b]:=by
        generalize c.toList=l at hl
        cases hl with | cons _ u1 _ _ h1 t1 =>
        cases t1 with | cons _ u2 _ _ h2 t2 =>
        cases t2;cases h1;cases h2;rfl
      rw [←c.toArray_toList,h]
    subst hc
    refine ⟨.int .i64 (arL s b),w.drawn,?_,.int _ _⟩
    have e:FG .cntb #[.string s,.int .u8 b]=(do
      let b' ← Extern.Bytes.bytesOf (.string s)
      let c ← Extern.Bytes.asByte (.int .u8 b)
      pure (goInt (b'.foldl (fun n x=>if x==c then n+1 else n) (0:Nat)))):=rfl
    rw [e]
    simp [Extern.Bytes.bytesOf,Extern.Bytes.asByte,Sem.run_bind,Sem.run_pure,goInt,arL]
  · simp at h
theorem anb{C:CB}(hC:C.Ok){run:gn}(hrun:SG C.P run){e:Operand→AV}{h:bO}{nid:Nat}{p:fD}{o:Oper}{r:OpR}(hr:opM C run e (bp h) nid p o.op=some r)(ho:aH r.obs) 
    {ρ:am} {w:World} {n:Nat} (hh:HR ρ w h n) (hid:∀ x,nid≤x→x<nid+ww→¬ ρ.ok x) (hn0:nid+ww≤n) {a:Act} (hops:∀ x,VR ρ w (e x) (a.eval x)) {next:Act→World→Prop} {Q:Exit→Act→World→Prop}
    (hK:∀ ρ' w' u,oa ρ ρ' w→jX ρ.live w w'→HR ρ' w' (cY r.sets h) n→VR ρ' w' r.v u→(∀ b,ρ'.ok b→ρ.ok b∨(nid≤b∧b<nid+ww))→next (a.put o.dst u) w'):o.wp C.P a w next Q:=by
  have hS:0<ww:=by decide
  have hb : ¬ ρ.ok nid:=hid nid (Nat.le_refl _) (by omega)
  have hn:nid<n:=by omega
  have one:∀ {b:Nat},b=nid→nid≤b∧b<nid+ww:=fun e=>by omega
  have plain:∀ {v:AV},(∃ u k,(execOp a.eval o).run C.P w=.ok (.value u) { w with drawn:=k }∧VR ρ w v u)→r.v=v→r.sets=[]→o.wp C.P a w next Q:=by
    intro v ⟨u,k,h1,h2⟩ hv hs
    unfold Oper.wp
    rw [h1]
    have E:=oa.refl ρ w
    have W:=jX.drawn ρ.live w k
    exact hK ρ _ u E W (by rw [hs];exact hh.drawn k) (by rw [hv];exact h2.mono E W) (fun b q=>.inl q)
  have made:∀ {s:Sem Value} {v:AV} {h':bO},(execOp a.eval o).run C.P w=(do pure (Next.value (←s)):Sem Next).run C.P w→E6 C.P ρ w h n nid s v h'→r.v=v→cY r.sets h=h'→o.wp C.P a w next Q:=by
    intro s v h' he ⟨u,w',ρ',h1,h2,h3,h4,h5,h6⟩ hv hs
    unfold Oper.wp
    rw [he,de h1]
    exact hK ρ' w' u h2 h3 (by rw [hs];exact h4) (by rw [hv];exact h5) (fun b q=>(h6 b q).imp id one)
  unfold opM at hr
  split at hr
  · rename_i v obs hp
    simp only [Option.some.injEq] at hr;subst hr
    exact plain (abx hops hp ho) rfl rfl
  · rename_i hpo
    clear hpo
    generalize hop:o.op=op at hr
    split at hr
    · rename_i t x
      simp only [Option.map_eq_some_iff] at hr
      obtain ⟨⟨v,obs,rs⟩,hl,rfl⟩:=hr
      obtain ⟨u,k,h1,h2⟩:=afE (P:=C.P) hh (hops x) hl ho
      exact plain ⟨u,k,by simp only [execOp,hop];exact de h1,h2⟩ rfl rfl
    · rename_i t d x
      simp only [Option.map_eq_some_iff] at hr
      obtain ⟨⟨z,obs,rs⟩,hc,rfl⟩:=hr
      exact plain ⟨.string z,w.drawn,by simp only [execOp,hop];exact de (ajE hh (hops x) hc ho),.str _⟩ rfl rfl
    · rename_i t x lo hi
      simp only [Option.map_eq_some_iff] at hr
      obtain ⟨⟨v,obs,rs⟩,hc,rfl⟩:=hr
      obtain ⟨u,k,q1,q2⟩:=abO (P:=C.P) hh hops (hops x) hc ho
      exact plain ⟨u,k,by simp only [execOp,hop];exact de q1,q2⟩ rfl rfl
    · rename_i t x v
      simp only [Option.map_eq_some_iff] at hr
      obtain ⟨⟨b,d,obs⟩,hl,rfl⟩:=hr
      obtain ⟨w',h1,h2,h3⟩:=aby (P:=C.P) hh (hops x) (hops v) hl ho
      unfold Oper.wp
      have:(execOp a.eval o).run C.P w=.ok .skip w':=by
        simp only [execOp,hop];rw [Sem.run_bind,h1];rfl
      rw [this]
      exact hK ρ w' undef (oa.refl _ _) h3 h2 (.any _) (fun b q=>.inl q)
    · rename_i t x k cok
      simp only [Option.map_eq_some_iff] at hr
      obtain ⟨⟨a,_⟩,hl,rfl⟩:=hr
      obtain ⟨u,kk,q1,q2⟩:=Wx (P:=C.P) (hops x) (hops k) (AC hl) ho
      exact plain ⟨u,kk,by simp only [execOp,hop];exact de q1,q2⟩ rfl rfl
    · rename_i t
      simp only [Option.map_eq_some_iff] at hr
      obtain ⟨⟨v,d⟩,hl,rfl⟩:=hr
      exact made (by simp only [execOp,hop]) (abC hh hb hn hl true) rfl rfl
    · rename_i t x
      simp only [Option.map_eq_some_iff] at hr
      obtain ⟨⟨v,d⟩,hl,rfl⟩:=hr
      exact made (by simp only [execOp,hop]) (ajv hh hb hn (hops x) hl) rfl rfl
    · rename_i t l c
      simp only [Option.map_eq_some_iff] at hr
      obtain ⟨⟨v,d,obs⟩,hl,rfl⟩:=hr
      exact made (by simp only [execOp,hop]) (afG hh hb hn (hops l) (hops c) hl ho) rfl rfl
    · rename_i t parts
      simp only [Option.map_eq_some_iff] at hr
      obtain ⟨v,hl,rfl⟩:=hr
      have h1:(parts.toList.map fun x=>(x.1,e x.2)).map Prod.fst=(parts.map fun (x:Nat×Operand)=>(x.1,a.eval x.2)).toList.map Prod.fst:=by simp
      have h2:da ρ w ((parts.toList.map fun x=>(x.1,e x.2)).map Prod.snd) ((parts.map fun (x:Nat×Operand)=>(x.1,a.eval x.2)).toList.map Prod.snd):=by
        have:=da.map hops (parts.toList.map Prod.snd)
        simpa [Function.comp_def] using this
      obtain ⟨u,k,q1,q2⟩:=abH (P:=C.P) h1 h2 hl
      exact plain ⟨u,k,by simp only [execOp,hop];exact de q1,q2⟩ rfl rfl
    · rename_i t len parts
      simp only [Option.map_eq_some_iff] at hr
      obtain ⟨⟨v,d⟩,hl,rfl⟩:=hr
      have h1:(parts.toList.map fun x=>(x.1,e x.2)).map Prod.fst=(parts.map fun (x:Nat×Operand)=>(x.1,a.eval x.2)).toList.map Prod.fst:=by simp
      have h2:da ρ w ((parts.toList.map fun x=>(x.1,e x.2)).map Prod.snd) ((parts.map fun (x:Nat×Operand)=>(x.1,a.eval x.2)).toList.map Prod.snd):=by
        have:=da.map hops (parts.toList.map Prod.snd)
        simpa [Function.comp_def] using this
      exact made (by simp only [execOp,hop]) (KS hh hb hn h1 h2 hl) rfl rfl
    · rename_i args argTypes
      split at hr
      case h_2=>cases hr
      rename_i s x t t' e1 e2
      cases ht:Nat.beq t t' with
      | false =>
        rw [ht] at hr
        simp only [cond_false] at hr
        split at hr
        case h_2=>cases hr
        rename_i alts rs ha
        simp only [Option.map_eq_some_iff] at hr
        obtain ⟨⟨alt,p'⟩,hp,rfl⟩:=hr
        have ea:args = #[s,x]:=by rw [←e1]
        have et:argTypes = #[t,t']:=by rw [←e2]
        subst ea;subst et
        have hm:=Wv hh hb hn (hops s) (hops x) ha (AC hp) ho o.type
        refine made (s:=Builtin.append_ #[t,t'] o.type #[a.eval s,a.eval x]) ?_ hm rfl rfl
        simp only [execOp,hop]
        rw [ki a.eval .append #[s,x] #[t,t'] o.type _ rfl]
        simp [invoke,builtin]
      | true =>
      rw [ht] at hr
      have:=Nat.eq_of_beq_eq_true ht
      subst this
      simp only [cond_true] at hr
      split at hr
      case h_2=>cases hr
      rename_i alts rs ha
      simp only [Option.map_eq_some_iff] at hr
      obtain ⟨⟨alt,p'⟩,hp,rfl⟩:=hr
      have ea:args = #[s,x]:=by rw [←e1]
      have et:argTypes = #[t,t]:=by rw [←e2]
      subst ea;subst et
      have hm:=Wu hh hb hn (hops s) (hops x) ha (AC hp) ho o.type
      refine made (s:=Builtin.append_ #[t,t] o.type #[a.eval s,a.eval x]) ?_ hm rfl rfl
      simp only [execOp,hop]
      rw [ki a.eval .append #[s,x] #[t,t] o.type _ rfl]
      simp [invoke,builtin]
    · rename_i args argTypes
      split at hr
      case h_2=>cases hr
      rename_i s x t t' e1 e2
      simp only [Option.map_eq_some_iff] at hr
      obtain ⟨⟨k,b,d,obs,rs⟩,hc,rfl⟩:=hr
      have ea:args = #[s,x]:=by rw [←e1]
      have et:argTypes = #[t,t']:=by rw [←e2]
      subst ea;subst et
      obtain ⟨w',h1,h2,h3⟩:=afU (P:=C.P) (T:=o.type) (t':=t') hh (hops s) (hops x) hc ho
      refine made (s:=Builtin.copy_ #[t,t'] o.type #[a.eval s,a.eval x]) ?_ ⟨_,w',ρ,h1,oa.refl _ _,h3,h2,.int _ _,fun b q=>.inl q⟩ rfl rfl
      simp only [execOp,hop]
      rw [ki a.eval .copy #[s,x] #[t,t'] o.type _ rfl]
      simp [invoke,builtin]
    · rename_i f args ats
      split at hr
      case h_2=>cases hr
      rename_i fid l hca
      unfold FH at hca
      split at hca
      case h_2=>cases hca
      rename_i fid' first caps hef
      simp only [Option.some.injEq,Prod.mk.injEq] at hca
      obtain ⟨rfl,rfl⟩:=hca
      have hf:=hops f
      rw [hef] at hf
      generalize hgf:a.eval f=gf at hf
      cases hf with | fn _ _ _ c1 c2 v1 v2 =>
      have hargs:da ρ w (first++args.toList.map e++caps) (c1++args.map a.eval++c2).toList:=by
        simp only [Array.toList_append,Array.toList_map]
        exact da.append v2 (da.append (da.map hops args.toList) v1)
      have hex:∀ w0,(execOp a.eval o).run C.P w0=(callFunc fid' (c1++args.map a.eval++c2)).run C.P w0:=by
        intro w0
        simp only [execOp,hop,resolve,hgf,Deferred.ofValue]
        rfl
      split at hr
      · rename_i k hk
        simp only [Option.map_eq_some_iff] at hr
        obtain ⟨⟨a,_⟩,hl,rfl⟩:=hr
        obtain ⟨u,kk,q1,q2⟩:=ajG (P:=C.P) hargs (AC hl) ho
        refine plain ⟨u,kk,?_,q2⟩ rfl rfl
        rw [hex,hC.ext fid' k _ w hk]
        exact de q1
      · unfold SH at hr
        simp only at hr
        generalize hbs:pO (bp h) jY (kA (sc (C.mode fid').mask (first++args.toList.map e++caps))) []=bs at hr
        cases hlen:(Dd bs&&sd (bp h) nid bs) with
        | false=>rw [hlen] at hr;cases hr
        | true =>
        rw [hlen] at hr
        simp only [cond_true] at hr
        rw [Bool.and_eq_true] at hlen
        split at hr
        case h_2=>cases hr
        rename_i r' obs p' hl
        cases hle:Nat.ble r'.own.length (bs.length+ww) with
        | false=>rw [hle] at hr;cases hr
        | true =>
        rw [hle] at hr
        simp only [cond_true,Option.some.injEq] at hr;subst hr
        have hLs:afS h bs:=⟨fun q1 q2=>De hlen.1 q1 q2,fun b q=>(Bw hlen.2 b q).1⟩
        have L:=al4 hh hLs
        have hcall:=hrun fid' _ _ p r' obs p' hl ho
        obtain ⟨⟨fn,hfn,hbody⟩,hcalls⟩:=hcall (ρ.lend bs) w _ (ajD hh hLs) (AD hh L _ hargs)
        unfold Oper.wp
        rw [hex,hC.enter fid' fn _ w hfn hbody]
        simp only [Oper.upon]
        have hl2:(c1++args.map a.eval++c2).toList.toArray=c1++args.map a.eval++c2:=by simp
        rw [hl2] at hcalls
        refine hcalls.mono ?_
        rintro e' w' ⟨u,rfl,W,ρ',E,hbk,H,hv⟩
        rw [vn] at hbk
        obtain ⟨q1,q2,q3,q4,q5⟩:=aoF hh hLs hid (fun b q=>(Bw hlen.2 b q).2) hn0 (Nat.le_of_ble_eq_true hle) W E hbk H hv
        exact hK _ w' u q1 q2 q3 q4 q5
    · cases hr
def FW(ro:Option Nat) :Fence:={ Fence.wide with round:=ro }
theorem asr(ro:Option Nat)(f:FuncId) :(FW ro).fn f:=trivial
theorem R2{ro:Option Nat}{n:Nat} :(FW ro).depth.isSome=true→1≤n:=fun h=>by simp [FW,Fence.wide] at h
theorem ajH{ro:Option Nat}{n:Nat}{P:Program}{f:FuncId}{args:Array Value}{w:World}{R:Ending→World→Prop}(h:Calls P f args w R) :CallsIn (FW ro) n P f args w R :=
  callsIn_wide.2 h
theorem abT{P:Program}{o:Oper}{a:Act}{w:World}{next:Act→World→Prop}{Q:Exit→Act→World→Prop}{ro:Option Nat}{n:Nat}(hd:∀ c,o.op ≠ .defer c)(h:o.wp P a w next Q) :o.wpIn (FW ro) n P a w next Q:=by
  refine ⟨fun _ _=>trivial,?_⟩
  have e:(FW ro).round=ro:=rfl
  rw [e,Oper.semAt_eq ro a.eval o hd]
  unfold Oper.wp at h
  generalize (execOp a.eval o).run P w=r at h ⊢
  cases r with
  | ok x w' =>
    cases x with
    | value v=>exact h
    | skip=>exact h
    | defer d=>exact h
    | enter f args=>exact ⟨R2,ajH h⟩
    | row row args =>
      refine ⟨R2,fun c cs _=>?_⟩
      obtain ⟨v,w2,h1,h2⟩:=h c cs
      exact ⟨v,w2,h1,stepsIn_wide.2 h2⟩
    | _=>exact h.elim
  | halt x w'=>cases x<;>exact h
structure zp (w w':World):Prop where
  os:w'.os=w.os
  tape:w'.tape=w.tape
  output:w'.output=w.output
  size:w'.heap.size=w.heap.size
  same:∀ b:Nat,w'.heap[b]? = w.heap[b]?∨((∃ o,w.heap[b]? = some o∧((∃ r,o=Obj.loop r)∨∃ r,o=Obj.deferred r))∧∃ o,w'.heap[b]? = some o∧((∃ r,o=Obj.loop r)∨∃ r,o=Obj.deferred r))
theorem zp.cells{w w':World}(h:zp w w'){b:Nat}{c:Array Value}{t:TypeId}{z:Nat×Nat}(hb:w.heap[b]? = some (.cells c t z)) :w'.heap[b]? = some (.cells c t z):=by
  rcases h.same b with q | ⟨⟨o,h1,h2⟩,_⟩
  · rw [q];exact hb
  · rw [hb] at h1;cases h1
    rcases h2 with ⟨r,h2⟩ | ⟨r,h2⟩<;>cases h2
theorem zp.map{w w':World}(h:zp w w'){b:Nat}{es:Array MapEntry}{cl:Nat}(hb:w.heap[b]? = some (.map es cl)) :w'.heap[b]? = some (.map es cl):=by
  rcases h.same b with q | ⟨⟨o,h1,h2⟩,_⟩
  · rw [q];exact hb
  · rw [hb] at h1;cases h1
    rcases h2 with ⟨r,h2⟩ | ⟨r,h2⟩<;>cases h2
theorem zp.cell{w w':World}(h:zp w w'){a:Addr}{u:Value}(hu:w.cell? a=some u) :w'.cell? a=some u:=by
  have key:w'.heap[a.block]? = w.heap[a.block]?:=by
    rcases h.same a.block with q | ⟨⟨o,h1,h2⟩,_⟩
    · exact q
    · exfalso
      unfold World.cell? at hu
      rw [h1] at hu
      rcases h2 with ⟨r,rfl⟩ | ⟨r,rfl⟩<;>simp at hu
  rw [Bs key];exact hu
theorem zp.put{w:World}{b:Nat}{o o':Obj}(h:w.heap[b]? = some o)(ho:(∃ r,o=Obj.loop r)∨∃ r,o=Obj.deferred r)(ho':(∃ r,o'=Obj.loop r)∨∃ r,o'=Obj.deferred r) :zp w (w.putObj b o'):=by
  refine ⟨rfl,rfl,rfl,by simp,fun c=>?_⟩
  by_cases e:c=b
  · subst e
    exact .inr ⟨⟨o,h,ho⟩,o',World.putObj_heap_same (Array.getElem?_eq_some_iff.1 h).1,ho'⟩
  · exact .inl (World.putObj_heap_other e)
theorem zp.wle{M:Nat→Prop}{w w':World}(h:zp w w')(hM:∀ b,b<w.heap.size→¬ M b→w'.heap[b]? = w.heap[b]?) :jX M w w' :=
  ⟨h.os,h.tape,h.output,Nat.le_of_eq h.size.symm,hM,fun b c t z hc=>⟨c,h.cells hc,rfl⟩⟩
theorem VR.soft{ρ:am}{w w':World}(W:zp w w'){v:AV}{u:Value}(h:VR ρ w v u) :VR ρ w' v u:=by
  induction h using VR.rec (motive_2:=fun l c _=>da ρ w' l c) with
  | int k n=>exact .int k n
  | bool kn b=>exact .bool kn b
  | flt ex x y h=>exact .flt ex x y h
  | str s=>exact .str s
  | nptr=>exact .nptr
  | ptr b k i j hb=>exact .ptr b k i j hb
  | iptr bw d k i j bl o u ha hb hc hv hr hk hg ih=>exact .iptr bw d k i j bl o u ha (by rw [W.size];exact hb) (fun x v hx=>W.cell (hc x v hx)) ih hr hk hg
  | nsl=>exact .nsl
  | esl a=>exact .esl a
  | zsl a c=>exact .zsl a c
  | nan n h=>exact .nan n h
  | sl b k es i len cap cap' hb hcap hl c t hh hs=>exact .sl b k es i len cap cap' hb hcap hl c t (W.cells hh) hs
  | slEnd b k es i a=>exact .slEnd b k es i a
  | imm bw d k es i len cap bl o u ha hb hc hv hl hr hk hg ih=>exact .imm bw d k es i len cap bl o u ha (by rw [W.size];exact hb) (fun x v hx=>W.cell (hc x v hx)) ih hl hr hk hg
  | immEnd bw d k es i cap a hr hk hg=>exact .immEnd bw d k es i cap a hr hk hg
  | fn f l1 l2 c1 c2 h1 h2 i1 i2=>exact .fn f l1 l2 c1 c2 i1 i2
  | nfn=>exact .nfn
  | gmap ks vs bl es cl u ha hb hh hin hex hv hl hk ih=>exact .gmap ks vs bl es cl u ha (by rw [W.size];exact hb) (W.map hh) hin hex ih hl hk
  | gvar c bl t fr ha hb hh=>exact .gvar c bl t fr ha (by rw [W.size];exact hb) (W.cells hh)
  | agg l c h ih=>exact .agg l c ih
  | tup l c h ih=>exact .tup l c ih
  | iface t v u h ih=>exact .iface t v u ih
  | niface=>exact .niface
  | yld b L h=>exact .yld b L h
  | any u=>exact .any u
  | nil=>exact da.nil
  | cons v u l c h t i1 i2=>exact da.cons v u l c i1 i2
theorem da.soft{ρ:am}{w w':World}(W:zp w w') :∀ {l:List AV} {c:List Value},da ρ w l c→da ρ w' l c
  | _,_,.nil=>.nil
  | _,_,.cons v u l c h t=>.cons v u l c (h.soft W) (da.soft W t)
theorem HR.soft{ρ:am}{w w':World}{h:bO}{n:Nat}(W:zp w w')(hh:HR ρ w h n) :HR ρ w' h n :=
  ⟨fun b d e=>(hh.cell b d e).imp (fun ⟨q1,q2,q3,c,t,q4,q5⟩=>⟨q1,q2,q3,c,t,W.cells q4,fun x v hx=>by obtain ⟨u,k1,k2⟩:=q5 x v hx;exact ⟨u,k1,k2.soft W⟩⟩) id,hh.inj,hh.fresh,
   fun bl hl=>by rw [W.size];exact hh.liveLt bl hl,fun j bl hl=>by rw [W.size];exact hh.outLt j bl hl,hh.lt,fun x hx=>(hh.rom x hx).soft W⟩
mutual
def AV.noYld:AV→Bool
  | .yld _=>false
  | .fn _ l1 l2=>se l1&&se l2
  | .agg l | .tup l=>se l
  | .iface _ v=>v.noYld
  | _=>true
def se:List AV→Bool
  | []=>true
  | v::l=>v.noYld&&se l
end
mutual
theorem eJ:∀ (v:AV),v.foreign=true→v.noYld=true
  | .fn _ l1 l2,h=>by simp only [AV.foreign,AV.noYld,Bool.and_eq_true] at h ⊢;exact ⟨og l1 h.1,og l2 h.2⟩
  | .agg l,h=>by simp only [AV.foreign,AV.noYld] at h ⊢;exact og l h
  | .tup l,h=>by simp only [AV.foreign,AV.noYld] at h ⊢;exact og l h
  | .iface _ v,h=>by simp only [AV.foreign,AV.noYld] at h ⊢;exact eJ v h
  | .yld _,h=>by simp [AV.foreign] at h
  | .int ..,_ | .bool ..,_ | .flt ..,_ | .str _,_ | .nptr,_ | .ptr ..,_ | .iptr ..,_ | .nsl,_ | .esl,_ | .zsl _,_ | .nan,_ | .sl ..,_ | .imm ..,_ | .nfn,_ | .gmap ..,_ | .gvar _,_ | .niface,_ | .any,_=>rfl
theorem og:∀ (l:List AV),bN l=true→se l=true
  | [],_=>rfl
  | v::l,h=>by simp only [bN,se,Bool.and_eq_true] at h ⊢;exact ⟨eJ v h.1,og l h.2⟩
end
theorem SJ:∀ {l:List AV},se l=true→∀ (x:Nat) (v:AV),l[x]? = some v→v.noYld=true
  | [],_,x,v,h=>by simp at h
  | a::l,ha,0,v,h=>by simp at h;subst h;simp only [se,Bool.and_eq_true] at ha;exact ha.1
  | a::l,ha,x+1,v,h=>by simp only [se,Bool.and_eq_true] at ha;exact SJ ha.2 x v (by simpa using h)
def am.pinned(ρ:am)(x:Nat×Option (Nat×Nat)) :am:={ ρ with pin:=x }
theorem VR.pinned{ρ:am}{w:World}(x:Nat×Option (Nat×Nat)){v:AV}{u:Value}(h:VR ρ w v u) :v.noYld=true→VR (ρ.pinned x) w v u:=by
  induction h using VR.rec (motive_2:=fun l c _=>se l=true→da (ρ.pinned x) w l c) with
  | int k n=>exact fun _=>.int k n
  | bool kn b=>exact fun _=>.bool kn b
  | flt ex x y h=>exact fun _=>.flt ex x y h
  | str s=>exact fun _=>.str s
  | nptr=>exact fun _=>.nptr
  | ptr b k i j hb=>exact fun _=>VR.ptr (ρ:=ρ.pinned x) b k i j hb
  | iptr bw d k i j bl o u ha hb hc hv hr hk hg ih=>exact fun _=>.iptr bw d k i j bl o u ha hb hc (fun x v hx=>ih x v hx (eJ v (bb hr hg x v hx))) hr hk hg
  | nsl=>exact fun _=>.nsl
  | esl a=>exact fun _=>.esl a
  | zsl a c=>exact fun _=>.zsl a c
  | nan n h=>exact fun _=>.nan n h
  | sl b k es i len cap cap' hb hcap hl c t hh hs=>exact fun _=>VR.sl (ρ:=ρ.pinned x) b k es i len cap cap' hb hcap hl c t hh hs
  | slEnd b k es i a=>exact fun _=>.slEnd b k es i a
  | imm bw d k es i len cap bl o u ha hb hc hv hl hr hk hg ih=>exact fun _=>.imm bw d k es i len cap bl o u ha hb hc (fun x v hx=>ih x v hx (eJ v (bb hr hg x v hx))) hl hr hk hg
  | immEnd bw d k es i cap a hr hk hg=>exact fun _=>.immEnd bw d k es i cap a hr hk hg
  | fn f l1 l2 c1 c2 h1 h2 i1 i2=>intro hk;simp only [AV.noYld,Bool.and_eq_true] at hk;exact .fn f l1 l2 c1 c2 (i1 hk.1) (i2 hk.2)
  | nfn=>exact fun _=>.nfn
  | gmap ks vs bl es cl u ha hb hh hin hex hv hl hk ih=>exact fun _=>.gmap ks vs bl es cl u ha hb hh hin hex (fun x v hx=>ih x v hx (eJ v (jj (rL hk x v hx)))) hl hk
  | gvar c bl t fr ha hb hh=>exact fun _=>.gvar c bl t fr ha hb hh
  | agg l c h ih=>intro hk;exact .agg l c (ih hk)
  | tup l c h ih=>intro hk;exact .tup l c (ih hk)
  | iface t v u h ih=>intro hk;exact .iface t v u (ih hk)
  | niface=>exact fun _=>.niface
  | yld b L h=>intro hk;simp [AV.noYld] at hk
  | any u=>exact fun _=>.any u
  | nil=>exact da.nil
  | cons v u l c h t i1 i2=>rename_i hk;simp only [se,Bool.and_eq_true] at hk;exact da.cons v u l c (i1 hk.1) (i2 hk.2)
theorem da.pinned{ρ:am}{w:World}(x:Nat×Option (Nat×Nat)) :∀ {l:List AV} {c:List Value},da ρ w l c→se l=true→da (ρ.pinned x) w l c
  | _,_,.nil,_=>.nil
  | _,_,.cons v u l c h t,hk=>by simp only [se,Bool.and_eq_true] at hk;exact .cons v u l c (h.pinned x hk.1) (da.pinned x t hk.2)
def ajI:aN→Bool
  | .vs l=>se l
  | _=>true
def NH:bO→Bool
  | []=>true
  | x::l=>ajI x.2&&NH l
theorem SK:∀ {h:bO} {b:Nat} {d:aN},NH h=true→bp h b=some d→ajI d=true
  | [],b,d,_,h=>by simp [gu,eP] at h
  | (a1,a2)::l,b,d,hc,h=>by
    simp only [NH,Bool.and_eq_true] at hc
    simp only [gu,eP] at h
    cases e:Nat.beq a1 b with
    | true=>rw [e] at h;simp only [cond_true,Option.some.injEq] at h;rw [←h];exact hc.1
    | false=>rw [e] at h;exact SK hc.2 h
theorem Wy{d:aN}(hr:d.recKept)(hk:ajI d=true)(x:Nat)(v:AV)(hx:d.cell? x=some v) :v.noYld=true:=by
  cases d with
  | vs l=>exact SJ hk x v hx
  | fl xs=>exact eJ v (bb (d:=.fl xs) hr rfl x v hx)
  | ns k xs=>exact eJ v (bb (d:=.ns k xs) hr rfl x v hx)
  | bs xs=>exact eJ v (bb (d:=.bs xs) hr rfl x v hx)
  | ss xs=>exact eJ v (bb (d:=.ss xs) hr rfl x v hx)
  | rows k m get=>exact eJ v (bb (d:=.rows k m get) hr rfl x v hx)
  | cols m cs=>exact eJ v (bb (d:=.cols m cs) hr rfl x v hx)
theorem HR.pinned{ρ:am}{w:World}{h:bO}{n:Nat}(x:Nat×Option (Nat×Nat))(hh:HR ρ w h n)(hc:NH h=true) :HR (ρ.pinned x) w h n :=
  ⟨fun b d e=>(hh.cell b d e).imp (fun ⟨q1,q2,q3,c,t,q4,q5⟩=>⟨q1,q2,q3,c,t,q4,fun y v hx=>by
      obtain ⟨u,k1,k2⟩:=q5 y v hx
      exact ⟨u,k1,k2.pinned x (Wy q3 (SK hc e) y v hx)⟩⟩) id,hh.inj,hh.fresh,hh.liveLt,hh.outLt,hh.lt,
   fun y hy=>(hh.rom y hy).pinned x (eJ _ (jj (Rom.kept y hy)))⟩
theorem VR.noPin{ρ:am}{w:World}(hp:ρ.pin.2=none)(x:Nat×Option (Nat×Nat)){v:AV}{u:Value}(h:VR ρ w v u) :VR (ρ.pinned x) w v u:=by
  induction h using VR.rec (motive_2:=fun l c _=>da (ρ.pinned x) w l c) with
  | int k n=>exact .int k n
  | bool kn b=>exact .bool kn b
  | flt ex x y h=>exact .flt ex x y h
  | str s=>exact .str s
  | nptr=>exact .nptr
  | ptr b k i j hb=>exact VR.ptr (ρ:=ρ.pinned x) b k i j hb
  | iptr bw d k i j bl o u ha hb hc hv hr hk hg ih=>exact .iptr bw d k i j bl o u ha hb hc ih hr hk hg
  | nsl=>exact .nsl
  | esl a=>exact .esl a
  | zsl a c=>exact .zsl a c
  | nan n h=>exact .nan n h
  | sl b k es i len cap cap' hb hcap hl c t hh hs=>exact VR.sl (ρ:=ρ.pinned x) b k es i len cap cap' hb hcap hl c t hh hs
  | slEnd b k es i a=>exact .slEnd b k es i a
  | imm bw d k es i len cap bl o u ha hb hc hv hl hr hk hg ih=>exact .imm bw d k es i len cap bl o u ha hb hc ih hl hr hk hg
  | immEnd bw d k es i cap a hr hk hg=>exact .immEnd bw d k es i cap a hr hk hg
  | fn f l1 l2 c1 c2 h1 h2 i1 i2=>exact .fn f l1 l2 c1 c2 i1 i2
  | nfn=>exact .nfn
  | gmap ks vs bl es cl u ha hb hh hin hex hv hl hk ih=>exact .gmap ks vs bl es cl u ha hb hh hin hex ih hl hk
  | gvar c bl t fr ha hb hh=>exact .gvar c bl t fr ha hb hh
  | agg l c h ih=>exact .agg l c ih
  | tup l c h ih=>exact .tup l c ih
  | iface t v u h ih=>exact .iface t v u ih
  | niface=>exact .niface
  | yld b L h=>rw [hp] at h;cases h
  | any u=>exact .any u
  | nil=>exact da.nil
  | cons v u l c h t i1 i2=>exact da.cons v u l c i1 i2
theorem da.noPin{ρ:am}{w:World}(hp:ρ.pin.2=none)(x:Nat×Option (Nat×Nat)) :∀ {l:List AV} {c:List Value},da ρ w l c→da (ρ.pinned x) w l c
  | _,_,.nil=>.nil
  | _,_,.cons v u l c h t=>.cons v u l c (h.noPin hp x) (da.noPin hp x t)
theorem HR.noPin{ρ:am}{w:World}{h:bO}{n:Nat}(hp:ρ.pin.2=none)(x:Nat×Option (Nat×Nat))(hh:HR ρ w h n) :HR (ρ.pinned x) w h n :=
  ⟨fun b d e=>(hh.cell b d e).imp (fun ⟨q1,q2,q3,c,t,q4,q5⟩=>⟨q1,q2,q3,c,t,q4,fun y v hx=>by obtain ⟨u,k1,k2⟩:=q5 y v hx;exact ⟨u,k1,k2.noPin hp x⟩⟩) id,hh.inj,hh.fresh,hh.liveLt,hh.outLt,hh.lt,
   fun y hy=>(hh.rom y hy).noPin hp x⟩
theorem mR.shut{ρ:am}{w:World} :∀ {ds:List Deferred},mR ρ w ds→∀ {D:Nat},(∀ e∈ds,e ≠ { target:=.collected D,args:=#[] })→∀ {o:Obj},mR ρ (w.putObj D o) ds
  | [],h,D,_,o=>by simpa [mR] using h
  | d::ds,⟨⟨E,h1,hb,h2,h3,h4,h5⟩,h⟩,D,hn,o=>by
    have hne:E≠D:=fun e=>hn d (by simp) (by rw [h1,e])
    exact ⟨⟨E,h1,hb,by simpa using h2,h3,(World.putObj_heap_other hne).trans h4,h5⟩,mR.shut h fun e he=>hn e (by simp [he])⟩
theorem FI{P:Program}{fn:Func}{tmps:Array Value}{R:Ending→World→Prop}{ro:Option Nat}{n:Nat}{ρ:am} :∀ (ds:List Deferred) {w:World},mR ρ w ds →
    (∀ w',zp w w'→(∀ b,b<ρ.pin.1→w'.heap[b]? = w.heap[b]?)→(∀ b,ρ.live b→w'.heap[b]? = w.heap[b]?)→∃ v,(results fn tmps).run P w'=.ok v w'∧R (.returned v) w')→LeavesInM (FW ro) n P fn tmps R ds .returning w
  | [],w,hm,h=>by
    obtain ⟨v,h1,h2⟩:=h w ⟨rfl,rfl,rfl,rfl,fun _=>.inl rfl⟩ (fun _ _=>rfl) (fun _ _=>rfl)
    exact ⟨v,h1,h2⟩
  | d::ds,w,⟨⟨D,h1,hb,h2,h3,h4,h5⟩,hm⟩,h=>by
    have S:=zp.put h4 (.inr ⟨_,rfl⟩) (o':=.deferred none) (.inr ⟨_,rfl⟩)
    refine ⟨by simp,.inl ⟨D,w.putObj D (.deferred none),by rw [h1],run_takeDeferred h4,FI ds (hm.shut h5) fun w' S' hb' hl'=>h w' ?_ (fun b q=>?_) (fun b q=>?_)⟩⟩
    · refine ⟨S'.os,S'.tape,S'.output,S'.size.trans S.size,fun b=>?_⟩
      rcases S'.same b with q | ⟨⟨o,q1,q2⟩,q3⟩
      · rcases S.same b with r | ⟨r1,r2⟩
        · exact .inl (q.trans r)
        · rw [←q] at r2;exact .inr ⟨r1,r2⟩
      · rcases S.same b with r | ⟨r1,r2⟩
        · rw [r] at q1;exact .inr ⟨⟨o,q1,q2⟩,q3⟩
        · exact .inr ⟨r1,q3⟩
    · rw [hb' b q];exact World.putObj_heap_other (by omega)
    · rw [hl' b q];exact World.putObj_heap_other (fun e=>h3 (e ▸ q))
structure vo where
  v:AV
  sets:List (Nat×Option aN)
  reads:List Nat
def HC(ops:Array Oper)(j:Nat) :Option Nat:=(ops[j]?).bind (·.dst)
def Df(ops:Array Oper)(o:Oper)(T:List AV) :Option Bool :=
  match o.guard with
  | none=>some true
  | some (j,want) =>
    match HC ops j with
    | none=>some false
    | some d =>
      match aqs T d with
      | some (.bool true b)=>some (b==want)
      | some (.tup _) | none=>some false
      | _=>none
def abU(ops:Array Oper)(i:Nat) :Bool:=ops.toList.any fun o=>match o.guard with | some (j,_)=>Nat.beq j i | none=>false
def R3(v:AV)(p:fD) :Option (Bool×List Bool×fD) :=
  match v,p with
  | .bool true b,p=>some (b,[],p)
  | .bool false b,none=>some (b,[],none)
  | .bool false b,some (k::r)=>some (Nat.beq k 1,[b==Nat.beq k 1],some r)
  | _,_=>none
theorem JI{ρ:am}{w:World}{v:AV}{u:Value}{p p':fD}{b:Bool}{obs:List Bool}(hv:VR ρ w v u)(h:R3 v p=some (b,obs,p'))(ho:aH obs) :u=.bool b:=by
  unfold R3 at h
  split at h
  · simp only [Option.some.injEq,Prod.mk.injEq] at h;obtain ⟨rfl,rfl,rfl⟩:=h;cases hv;rfl
  · simp only [Option.some.injEq,Prod.mk.injEq] at h;obtain ⟨rfl,rfl,rfl⟩:=h;cases hv;rfl
  · simp only [Option.some.injEq,Prod.mk.injEq] at h;obtain ⟨rfl,rfl,rfl⟩:=h;cases hv
    have:=ho.1
    simp only [beq_iff_eq] at this
    rw [this]
  · cases h
def wx(ops:Array Oper)(i:Nat)(v:AV)(p:fD) :Option (AV×List Bool×fD) :=
  bif abU ops i then (R3 v p).map fun r=>(.bool true r.1,r.2.1,r.2.2) else some (v,[],p)
def K4(C:CB)(run:gn)(ops:Array Oper)(n0 i:Nat)(o:Oper)(T:List AV)(h:bO)(p:fD) :Option (vo×List Bool×fD) :=
  match Df ops o T with
  | none=>none
  | some false=>some ({ v:=.tup [],sets:=[],reads:=[] },[],p)
  | some true =>
    match opF C run (evA T) (bp h) (n0+i*ww) p o.op with
    | none=>none
    | some r =>
      match wx ops i r.v r.path with
      | none=>none
      | some (v,obs,p')=>some ({ v,sets:=r.sets,reads:=r.reads },r.obs++obs,p')
def JJ(T:List AV)(d:Option Nat)(v:AV) :List AV :=
  match d with
  | some d=>amY T d v
  | none=>T
theorem abV{ρ:am}{w:World}{T:List AV}{a:Act}{v:AV}{u:Value}(h:da ρ w T a.tmps.toList)(hv:VR ρ w v u)(d:Option Nat) :da ρ w (JJ T d v) (a.put d u).tmps.toList:=by
  cases d with
  | none=>exact h
  | some d=>simp only [JJ,Hu,Act.put,Array.toList_setIfInBounds];exact h.set hv d
theorem Dg{ρ:am}{w:World}{ops:Array Oper}{o:Oper}{T:List AV}{a:Act}(h:da ρ w T a.tmps.toList){b:Bool}(hw:Df ops o T=some b) :Region.wanted o (yielded ops a.tmps)=b:=by
  unfold Df at hw
  simp only [abm] at hw
  unfold Region.wanted
  split at hw
  · rename_i hg;cases hw;simp [hg]
  · rename_i j want hg
    simp only [hg]
    unfold HC at hw
    split at hw
    · rename_i hs;cases hw;simp [yielded,hs]
    · rename_i d hs
      split at hw
      · rename_i b' hT
        cases hw
        obtain ⟨u,h1,h2⟩:=h.get d _ hT
        rw [Array.getElem?_toList] at h1
        cases h2
        simp only [yielded,hs,Option.bind_some,h1]
        cases b'<;>cases want<;>rfl
      · rename_i l hT
        cases hw
        obtain ⟨u,h1,h2⟩:=h.get d _ hT
        rw [Array.getElem?_toList] at h1
        cases h2
        simp [yielded,hs,h1]
      · rename_i hT
        cases hw
        have : a.tmps[d]? = none := by
          have hl:=h.length
          rw [Array.getElem?_eq_none]
          have : T.length ≤ d := by rcases Nat.lt_or_ge d T.length with q | q; · rw [List.getElem?_eq_getElem q] at hT; cases hT
                                    · exact q
          simp at hl;omega
        simp [yielded,hs,this]
      · cases hw
theorem HR.congr{ρ:am}{w:World}{h h':bO}{n:Nat}(hh:HR ρ w h n)(e:∀ b,bp h' b=bp h b) :HR ρ w h' n :=
  ⟨fun b d q=>hh.cell b d (by rw [←e];exact q),fun b c d f q r=>hh.inj b c d f (by rw [←e];exact q) (by rw [←e];exact r),hh.fresh,hh.liveLt,hh.outLt,hh.lt,hh.rom⟩
theorem anc{C:CB}{run:gn}{e:Operand→AV}{g:Nat→Option aN}{nid:Nat}{p:fD}{c:Call} :opM C run e g nid p (.defer c)=none:=rfl
theorem Pc{C:CB}(hC:C.Ok){run:gn}(hrun:SG C.P run){ops:Array Oper}{n0 i:Nat}{o:Oper}(hi:ops[i]? = some o){T:List AV}{h:bO}{p p':fD}{r:vo}{obs:List Bool} 
    (hr:K4 C run ops n0 i o T h p=some (r,obs,p')) (ho:aH obs) {ρ:am} {w:World} {n:Nat} (hh:HR ρ w h n) (hid:∀ x,n0+i*ww≤x→x<n0+i*ww+ww→¬ ρ.ok x) (hn:n0+i*ww+ww≤n) {a:Act} (hT:da ρ w T a.tmps.toList)
    {ro:Option Nat} {nn:Nat} {K:Act→World→Prop} {Q:Exit→Act→World→Prop}
    (hK:∀ ρ' w' a',oa ρ ρ' w→jX ρ.live w w'→HR ρ' w' (cY r.sets h) n→a'.defers=a.defers→da ρ' w' (JJ T o.dst r.v) a'.tmps.toList→(∀ b,ρ'.ok b→ρ.ok b∨(n0+i*ww≤b∧b<n0+i*ww+ww))→K a' w'):wpOpIn (FW ro) nn C.P ops Q i K a w:=by
  have dput:∀ u,(a.put o.dst u).defers=a.defers:=by intro u;cases hdst:o.dst<;>simp [Act.put]
  unfold K4 at hr
  simp only [aoL] at hr
  unfold wpOpIn
  simp only [hi]
  split at hr
  · cases hr
  · rename_i hw
    simp only [Option.some.injEq,Prod.mk.injEq] at hr;obtain ⟨rfl,rfl,rfl⟩:=hr
    rw [Dg hT hw]
    simp only [Bool.false_eq_true,if_false]
    exact ⟨fun _ _=>trivial,hK ρ w _ (oa.refl _ _) (jX.refl _ _) hh (dput _) (abV hT (.tup _ _ .nil) o.dst) (fun b q=>.inl q)⟩
  · rename_i hw
    rw [Dg hT hw]
    simp only [if_true]
    split at hr
    · cases hr
    · rename_i r' hop
      split at hr
      · cases hr
      · rename_i v obs' p'' hg
        simp only [Option.some.injEq,Prod.mk.injEq] at hr;obtain ⟨rfl,rfl,rfl⟩:=hr
        rw [bn] at ho
        refine abT (fun c e=>by rw [e,anc] at hop;cases hop) (anb hC hrun hop ho.1 hh hid hn (fun x=>Fy hh.rom hT x) ?_)
        intro ρ' w' u E W hh' hv hok
        refine hK ρ' w' _ E W hh' (dput _) (abV (hT.mono E W) ?_ o.dst) hok
        unfold wx at hg
        cases hgd:abU ops i with
        | false=>rw [hgd] at hg;simp only [cond_false,Option.some.injEq,Prod.mk.injEq] at hg;rw [←hg.1];exact hv
        | true =>
          rw [hgd] at hg
          simp only [cond_true,Option.map_eq_some_iff,Prod.mk.injEq] at hg
          obtain ⟨⟨b,ob,pp⟩,hd',rfl,rfl,rfl⟩:=hg
          rw [JI hv hd' ho.2]
          exact .bool _ _
structure YI where
  b:Nat
  saved:List AV
  ps:Array Tmp
  assign:Code
  body:Code
def am.wm(ρ:am)(y:Option YI)(b:Nat) :Prop:=ρ.live b∨(y.isSome=true∧∃ k,ρ.pin.2=some (b,k))
theorem aqB{ρ:am}{b:Nat} :ρ.wm none b↔ρ.live b:=by simp [am.wm]
theorem aqC{ρ ρ':am}{w:World}{y:Option YI}(E:oa ρ ρ' w){b:Nat}(hb:b<w.heap.size)(h:ρ'.wm y b) :ρ.wm y b :=
  h.imp (E.new b hb) fun ⟨q,k,r⟩=>⟨q,k,by rw [←E.pin];exact r⟩
structure R4 (y:Option YI) (ρ:am) (w:World) (ρ':am) (w':World):Prop where
  ext:oa ρ ρ' w
  wle:jX (ρ.wm y) w w'
  vr:∀ v u,VR ρ w v u→VR ρ' w' v u
  marks:∀ ds,mR ρ w ds→mR ρ' w' ds
theorem R4.of{y:Option YI}{ρ ρ':am}{w w':World}(E:oa ρ ρ' w)(W:jX ρ.live w w') :R4 y ρ w ρ' w' :=
  ⟨E,W.mono fun _ _ q=>.inl q,fun v u h=>h.mono E W,fun ds h=>h.mono E W⟩
theorem R4.refl(y:Option YI)(ρ:am)(w:World) :R4 y ρ w ρ w:=.of (oa.refl _ _) (jX.refl _ _)
theorem R4.trans{y:Option YI}{ρ ρ1 ρ2:am}{w w1 w2:World}(h:R4 y ρ w ρ1 w1)(k:R4 y ρ1 w1 ρ2 w2) :R4 y ρ w ρ2 w2 :=
  ⟨h.ext.trans k.ext h.wle.size,h.wle.trans k.wle (fun _ hx q=>aqC h.ext hx q),fun v u q=>k.vr v u (h.vr v u q),fun ds q=>k.marks ds (h.marks ds q)⟩
theorem R4.live{ρ ρ':am}{w w':World}(h:R4 none ρ w ρ' w') :jX ρ.live w w':=h.wle.mono fun _ _ q=>aqB.1 q
theorem da.stp{ρ ρ':am}{w w':World}(h:∀ v u,VR ρ w v u→VR ρ' w' v u) :∀ {l:List AV} {c:List Value},da ρ w l c→da ρ' w' l c
  | _,_,.nil=>.nil
  | _,_,.cons v u l c a t=>.cons v u l c (h v u a) (da.stp h t)
theorem mR.soft{ρ:am}{w:World}{L:Nat}{r:Loop}(hL:w.heap[L]? = some (.loop r)){o:Obj} :∀ {ds:List Deferred},mR ρ w ds→mR ρ (w.putObj L o) ds
  | [],h=>by simpa [mR] using h
  | d::ds,⟨⟨D,h1,hb,h2,h3,h4,h5⟩,h⟩=>⟨⟨D,h1,hb,by simpa using h2,h3,(World.putObj_heap_other (fun e=>by rw [e,hL] at h4;cases h4)).trans h4,h5⟩,mR.soft hL h⟩
def afX(ρ:am)(w:World)(L:Nat)(y:YI)(s:LoopState)(pe:Option Code) :Prop :=
  ∃ rec:Loop,w.heap[L]? = some (.loop rec)∧rec.state=s∧rec.pending=pe∧rec.params=y.ps∧rec.assign=y.assign∧rec.body=y.body∧da ρ w y.saved rec.tmps.toList
def K5:Option aN→Option (LoopState×Option Code)
  | some (.vs [])=>some (.ready,none)
  | some (.fl [])=>some (.done,some .ret)
  | some (.rows id 0 _)=>some (.done,some (.exit id))
  | _=>none
def wy(y:Option YI)(ρ:am)(w:World)(h:bO)(m:Nat) :Prop :=
  match y with
  | none=>True
  | some y=>¬ ρ.ok y.b∧y.b<m∧∃ L,ρ.pin.2=some (L,y.b)∧¬ ρ.live L∧∃ s pe,K5 (bp h y.b)=some (s,pe)∧afX ρ w L y s pe
theorem afX.mono{ρ ρ':am}{w w':World}{L:Nat}{y:YI}{s:LoopState}{pe:Option Code}(h:afX ρ w L y s pe)(E:oa ρ ρ' w)(W:jX ρ.live w w')(hL : ¬ ρ.live L) :afX ρ' w' L y s pe:=by
  obtain ⟨rec,h1,h2,h3,h4,h5,h6,h7⟩:=h
  exact ⟨rec,(W.same L (Array.getElem?_eq_some_iff.1 h1).1 hL).trans h1,h2,h3,h4,h5,h6,h7.mono E W⟩
theorem wy.mono{y:Option YI}{ρ ρ':am}{w w':World}{h h':bO}{m:Nat}(hp:wy y ρ w h m)(E:oa ρ ρ' w)(W:jX ρ.live w w')(hb:∀ yi,y=some yi→ρ'.ok yi.b→ρ.ok yi.b∨m≤yi.b)(hg:∀ yi,y=some yi→bp h' yi.b=bp h yi.b) :wy y ρ' w' h' m:=by
  cases y with
  | none=>trivial
  | some y =>
    obtain ⟨h1,h2,L,h3,h4,s,pe,h5,h6⟩:=hp
    have hlt:L<w.heap.size:=by obtain ⟨rec,q,_⟩:=h6;exact (Array.getElem?_eq_some_iff.1 q).1
    refine ⟨fun q=>(hb y rfl q).elim h1 (by omega),h2,L,by rw [E.pin];exact h3,fun q=>h4 (E.new L hlt q),s,pe,by rw [hg y rfl];exact h5,h6.mono E W h4⟩
theorem wy.le{y:Option YI}{ρ:am}{w:World}{h:bO}{m m':Nat}(hp:wy y ρ w h m)(hm:m≤m') :wy y ρ w h m':=by
  cases y with
  | none=>trivial
  | some y=>obtain ⟨h1,h2,h3⟩:=hp;exact ⟨h1,Nat.lt_of_lt_of_le h2 hm,h3⟩
abbrev ane:=List AV→bO→Nat→fD→Option (AV×bO×Nat×List Bool×fD)
def ajJ(P:Program)(y:Option YI)(yr:ane) :Prop :=
  ∀ args h nx p v h' nx' obs p',yr args h nx p=some (v,h',nx',obs,p')→aH obs→∃ yi,y=some yi∧∀ (ρ:am) (w:World) (us:Array Value) (m:Nat),HR ρ w h nx→ρ.pin.1≤w.heap.size→wy y ρ w h m→m≤nx→da ρ w args us.toList →
    ∀ (L:Nat),ρ.pin.2=some (L,yi.b)→∃ rec:Loop,w.heap[L]? = some (.loop rec)∧us.size=rec.params.size∧∀ (ro:Option Nat) (nn:Nat) (R:Ending→World→Prop),
      (∀ ρ' w' u,R4 y ρ w ρ' w'→HR ρ' w' h' nx'→wy y ρ' w' h' m→VR ρ' w' v u→(∀ b,ρ'.ok b→ρ.ok b∨nx≤b)→nx≤nx'→R (.returned u) w') →
      RoundIn (FW ro) nn P L rec.fn ((rec.params.zip us).foldl (fun tmps (t,a)=>tmps.setIfInBounds t a) rec.tmps) rec.assign rec.body w R
def al7(ops:Array Oper)(o:Oper)(T:List AV) :Option (List AV) :=
  match o.op with
  | .call { callee:=.value f,args,.. } =>
    match evA T f with
    | .yld _=>match Df ops o T with
      | some true=>some (args.toList.map (evA T))
      | _=>none
    | _=>none
  | _=>none
def zq(y:Option YI)(s:List (Nat×Option aN)) :Bool :=
  match y with
  | none=>true
  | some y=>!(wW (s.map Prod.fst) y.b)
theorem K6{y:Option YI}{s:List (Nat×Option aN)}(h:zq y s=true)(hp:bO) :∀ yi,y=some yi→bp (cY s hp) yi.b=bp hp yi.b:=by
  intro yi e
  subst e
  simp only [zq,Bool.not_eq_true'] at h
  have key:∀ (s:List (Nat×Option aN)) (hp:bO),wW (s.map Prod.fst) yi.b=false→bp (cY s hp) yi.b=bp hp yi.b:=by
    intro s
    induction s with
    | nil=>intro hp _;rfl
    | cons x s ih =>
      intro hp h
      obtain ⟨c,d⟩:=x
      simp only [List.map_cons,wW] at h
      cases e:Nat.beq c yi.b with
      | true=>rw [e] at h;cases h
      | false =>
        rw [e] at h
        simp only [cond_false] at h
        have hne : ¬ c=yi.b:=fun q=>by rw [q,rX] at e;cases e
        cases d with
        | some d=>simp only [cY];rw [ih _ h,dJ,if_neg hne]
        | none=>simp only [cY];rw [ih _ h,rI,if_neg hne]
  exact key s hp h
def NI(C:CB)(run:gn)(y:Option YI)(yr:ane)(ops:Array Oper)(n0:Nat) :Nat→List Oper→List AV→bO→Nat→fD→Option (List AV×bO×Nat×List Bool×fD)
  | _,[],T,h,nx,p=>some (T,h,nx,[],p)
  | i,o::l,T,h,nx,p =>
    match al7 ops o T with
    | some args =>
      match yr args h nx p with
      | none=>none
      | some (v,h1,nx1,obs1,p1) =>
        match wx ops i v p1 with
        | none=>none
        | some (v,obs2,p2) =>
          match NI C run y yr ops n0 (i+1) l (JJ T o.dst v) h1 nx1 p2 with
          | none=>none
          | some (T',h',nx',obs',p'')=>some (T',h',nx',obs1++obs2++obs',p'')
    | none =>
      match K4 C run ops n0 i o T h p with
      | none=>none
      | some (r,obs,p') =>
        bif zq y r.sets then
          match NI C run y yr ops n0 (i+1) l (JJ T o.dst r.v) (cY r.sets h) nx p' with
          | none=>none
          | some (T',h',nx',obs',p'')=>some (T',h',nx',obs++obs',p'')
        else none
structure SL (ρ:am) (w:World) (n:Nat) (st:aC) (ρ':am) (a':Act) (w':World):Prop where
  ext:oa ρ ρ' w
  wle:jX ρ.live w w'
  sr:SR ρ' st a' w'
  le:n≤st.next
  back:∀ b,ρ'.ok b→ρ.ok b∨n≤b
theorem SM{ρ:am}{w:World}{ops:Array Oper}{i:Nat}{v v':AV}{u:Value}{p p':fD}{obs:List Bool}(hv:VR ρ w v u)(hg:wx ops i v p=some (v',obs,p'))(ho:aH obs) :VR ρ w v' u:=by
  unfold wx at hg
  cases hgd:abU ops i with
  | false=>rw [hgd] at hg;simp only [cond_false,Option.some.injEq,Prod.mk.injEq] at hg;rw [←hg.1];exact hv
  | true =>
    rw [hgd] at hg
    simp only [cond_true,Option.map_eq_some_iff,Prod.mk.injEq] at hg
    obtain ⟨⟨b,ob,pp⟩,hd',rfl,rfl,rfl⟩:=hg
    rw [JI hv hd' ho]
    exact .bool _ _
theorem Dh{C:CB}(hC:C.Ok){run:gn}(hrun:SG C.P run){y:Option YI}{yr:ane}(hyr:ajJ C.P y yr){ops:Array Oper}{n0:Nat}{ro:Option Nat}{nn:Nat}{Q:Exit→Act→World→Prop} :∀ (l:List Oper) (i:Nat) {T T':List AV} {h h':bO} {nx nx':Nat} {p p':fD} {obs:List Bool},
    (∀ j,l[j]? = ops[i+j]?)→NI C run y yr ops n0 i l T h nx p=some (T',h',nx',obs,p')→aH obs→∀ {ρ:am} {w:World},HR ρ w h nx→n0+ops.size*ww≤nx→wy y ρ w h n0→ρ.pin.1≤w.heap.size→(∀ b,ρ.ok b→b<n0+i*ww∨n0+ops.size*ww≤b)→∀ {a:Act},da ρ w T a.tmps.toList →
    (∀ ρ' w' a',R4 y ρ w ρ' w'→HR ρ' w' h' nx'→nx≤nx'→wy y ρ' w' h' n0→a'.defers=a.defers→da ρ' w' T' a'.tmps.toList→(∀ b,ρ'.ok b→ρ.ok b∨n0≤b)→Q .normal a' w')→wpOpsIn (FW ro) nn C.P ops Q (List.range' i l.length) a w
  | [],i,T,T',h,h',nx,nx',p,p',obs,hl,hr,ho,ρ,w,hh,hnx,hpin,hpn,hok,a,hT,hQ=>by
    simp only [NI,Option.some.injEq,Prod.mk.injEq] at hr;obtain ⟨rfl,rfl,rfl,rfl,rfl⟩:=hr
    simp only [List.length_nil,List.range'_zero,wpOpsIn]
    exact hQ ρ w a (R4.refl _ _ _) hh (Nat.le_refl _) hpin rfl hT (fun b q=>.inl q)
  | o::l,i,T,T',h,h',nx,nx',p,p',obs,hl,hr,ho,ρ,w,hh,hnx,hpin,hpn,hok,a,hT,hQ=>by
    have hi:ops[i]? = some o:=by have:=hl 0;simpa using this.symm
    have hlt:i<ops.size:=(Array.getElem?_eq_some_iff.1 hi).1
    simp only [List.length_cons,List.range'_succ]
    rw [wpOpsIn_cons]
    have hS:i*ww+ww≤ops.size*ww:=by rw [←Nat.succ_mul];exact Nat.mul_le_mul_right _ hlt
    have hi1:(i+1)*ww=i*ww+ww:=Nat.succ_mul _ _
    have hl':∀ j,l[j]? = ops[i+1+j]?:=fun j=>by have:=hl (j+1);rw [show i+1+j=i+(j+1) from by omega];simpa using this
    simp only [NI] at hr
    split at hr
    · rename_i args hya
      split at hr
      case h_1=>cases hr
      rename_i v h1 nx1 obs1 p1 hy1
      split at hr
      case h_1=>cases hr
      rename_i v2 obs2 p2 hg
      split at hr
      case h_1=>cases hr
      rename_i T2 h2 nx2 obs3 p3 h3
      simp only [Option.some.injEq,Prod.mk.injEq] at hr;obtain ⟨rfl,rfl,rfl,rfl,rfl⟩:=hr
      rw [bn,bn] at ho
      unfold al7 at hya
      split at hya
      case h_2=>cases hya
      rename_i f avs ats hop
      split at hya
      case h_2=>cases hya
      rename_i b hef
      split at hya
      case h_2=>cases hya
      rename_i hw
      simp only [Option.some.injEq] at hya;subst hya
      have hf:=Fy hh.rom hT f
      rw [hef] at hf
      generalize hgf:a.eval f=gf at hf
      cases hf with | yld _ L hL =>
      obtain ⟨yi,rfl,hyr1⟩:=hyr _ _ _ _ _ _ _ _ _ hy1 ho.1.1
      have hb:b=yi.b:=by
        obtain ⟨_,_,L',q,_⟩:=hpin
        rw [hL] at q;cases q;rfl
      subst hb
      obtain ⟨rec,hrec,hsz,hround⟩:=hyr1 ρ w (avs.map a.eval) n0 hh hpn hpin (by omega) (by rw [Array.toList_map];exact da.map (fun x=>Fy hh.rom hT x) avs.toList) L hL
      unfold wpOpIn
      simp only [hi]
      rw [Dg hT hw]
      simp only [if_true]
      refine ⟨fun _ _=>trivial,?_⟩
      have hex:(o.semAt (FW ro).round a.eval).run C.P w=.ok (.round L rec.fn ((rec.params.zip (avs.map a.eval)).foldl (fun tmps (t,a)=>tmps.setIfInBounds t a) rec.tmps) rec.assign rec.body) w:=by
        rw [Oper.semAt_eq _ _ _ (fun c e=>by rw [hop] at e;cases e)]
        have:=run_yield (P:=C.P) (args:=avs.map a.eval) hrec hsz
        simp only [execOp,hop,resolve,hgf,Deferred.ofValue]
        simpa [invoke,Sem.run_bind,Result.andThen] using this
      rw [hex]
      refine ⟨R2,hround ro _ _ fun ρ' w' u S hh' hpin' hv hok' hle=>?_⟩
      refine Dh hC hrun hyr l (i+1) hl' h3 ho.2 hh' (by omega) hpin' (by rw [S.ext.pin];exact Nat.le_trans hpn S.wle.size) (fun b q=>?_) (abV (da.stp S.vr hT) (SM hv hg ho.1.2) o.dst) ?_
      · rcases hok' b q with q | q
        · rcases hok b q with q | q
          · exact .inl (by omega)
          · exact .inr q
        · exact .inr (by omega)
      · intro ρ'' w'' a'' S' hh'' hle' hpin'' hd'' hT'' hb''
        refine hQ ρ'' w'' a'' (S.trans S') hh'' (by omega) hpin'' (hd''.trans (by cases hdst:o.dst<;>simp [Act.put])) hT'' (fun b q=>?_)
        rcases hb'' b q with q | q
        · rcases hok' b q with q | q
          · exact .inl q
          · exact .inr (by omega)
        · exact .inr q
    · split at hr
      case h_1=>cases hr
      rename_i r obs1 p1 h1
      cases hkp:zq y r.sets with
      | false=>rw [hkp] at hr;cases hr
      | true =>
      rw [hkp] at hr
      simp only [cond_true] at hr
      split at hr
      case h_1=>cases hr
      rename_i T2 h2 nx2 obs2 p2 h3
      simp only [Option.some.injEq,Prod.mk.injEq] at hr;obtain ⟨rfl,rfl,rfl,rfl,rfl⟩:=hr
      rw [bn] at ho
      refine Pc hC hrun hi h1 ho.1 hh (fun x h1 h2 q=>by have:=hok _ q;omega) (by omega) hT ?_
      intro ρ' w' a' E W hh' hd' hT' hok'
      have S:=R4.of (y:=y) E W
      refine Dh hC hrun hyr l (i+1) hl' h3 ho.2 hh' hnx (hpin.mono E W (fun yi e q=>?_) (K6 hkp h)) (by rw [E.pin];exact Nat.le_trans hpn W.size) (fun b q=>?_) hT' ?_
      · rcases hok' _ q with q | q
        · exact .inl q
        · exact .inr (by omega)
      · rcases hok' b q with q | q
        · rcases hok b q with q | q
          · exact .inl (by omega)
          · exact .inr q
        · exact .inl (by omega)
      intro ρ'' w'' a'' S' hh'' hle' hpin'' hd'' hT'' hb''
      exact hQ ρ'' w'' a'' (S.trans S') hh'' hle' hpin'' (hd''.trans hd') hT'' (fun b q=>by
        rcases hb'' b q with q | q
        · rcases hok' b q with q | q
          · exact .inl q
          · exact .inr (by omega)
        · exact .inr q)
theorem HD{e e':Operand→AV}{l:List Operand}(h:∀ x∈l,e x=e' x) :l.map e=l.map e':=List.map_congr_left h
theorem abW{wr:Bool}{P:Program}{e e':Operand→AV}{op:Op}(h:∀ x∈op.operands,e x=e' x) :zk wr P e op=zk wr P e' op:=by
  unfold zk
  split
  all_goals simp only [Op.operands,Call.operands] at h
  case h_1=>rw [h _ (by simp)]
  case h_2=>rw [h _ (by simp)]
  case h_3=>rw [h _ (by simp),h _ (by simp),h _ (by simp)]
  case h_4=>rw [h _ (by simp)]
  case h_5=>rw [h _ (by simp),h _ (by simp)]
  case h_6=>rw [h _ (by simp)]
  case h_7=>rw [h _ (by simp)]
  case h_8=>rw [h _ (by simp)]
  case h_9 =>
    rename_i fn first caps
    rw [HD (l:=first.toList) (fun x hx=>h x (by simp at hx;simp [hx])),HD (l:=caps.toList) (fun x hx=>h x (by simp at hx;simp [hx]))]
  case h_10 =>
    rename_i t x lo hi
    rw [h x (by simp)]
    cases lo<;>cases hi<;>simp only [Option.map_none,Option.map_some]<;>first | rfl | (rw [h _ (by simp),h _ (by simp)]) | (rw [h _ (by simp)])
  case h_11 =>
    rename_i t x lo hi mx
    rw [h x (by simp),h mx (by simp)]
    cases lo<;>cases hi<;>simp only [Option.map_none,Option.map_some]<;>first | rfl | (rw [h _ (by simp),h _ (by simp)]) | (rw [h _ (by simp)])
  case h_12=>rw [h _ (by simp)]
  case h_13=>rw [h _ (by simp)]
  case h_14=>rw [h _ (by simp),h _ (by simp)]
  case h_15=>rw [h _ (by simp),h _ (by simp)]
  case h_16=>rw [h _ (by simp)]
  case h_17 =>
    rename_i xs ts
    split
    · rename_i x t hx ht
      have:xs = #[x]:=by rw [←hx]
      subst this
      rw [h x (by simp)]
    · rfl
  case h_18 =>
    rename_i xs ts
    split
    · rename_i x l hx
      have:xs=(x::l).toArray:=by rw [←hx]
      subst this
      rw [h x (by simp),HD (l:=l) (fun y hy=>h y (by simp [hy]))]
    · rfl
  case h_19 =>
    rename_i xs ts
    split
    · rename_i x l hx
      have:xs=(x::l).toArray:=by rw [←hx]
      subst this
      rw [h x (by simp),HD (l:=l) (fun y hy=>h y (by simp [hy]))]
    · rfl
  case h_20=>rfl
theorem afY{P:Program}{g g':Nat→Option aN}{t:TypeId}{x:AV}{r:AV×List Bool×List Nat}(h:Il P g t x=some r)(hg:∀ b∈r.2.2,g' b=g b) :Il P g' t x=some r:=by
  unfold Il at h ⊢
  simp only at h ⊢
  split at h
  · rename_i b w i j
    split at h
    · rename_i d hd
      simp only [Option.map_eq_some_iff] at h
      obtain ⟨r',h1,rfl⟩:=h
      have:g' b=some d:=by rw [hg b (by simp)];exact hd
      simp only [this,h1];rfl
    · cases h
  · exact h
  · cases h
theorem abX{P:Program}{g g':Nat→Option aN}{t:TypeId}{x v:AV}{r:Nat×aN×List Bool}(h:JA P g t x v=some r)(hg:g' r.1=g r.1) :JA P g' t x v=some r:=by
  unfold JA at h ⊢
  split at h
  · rename_i b w i j l inf h1 h2
    split at h
    · rename_i d hd
      cases e:Nat.beq l.length inf.size with
      | false=>rw [e] at h;cases h
      | true =>
        rw [e] at h
        simp only [cond_true,Option.map_eq_some_iff] at h
        obtain ⟨r',h3,rfl⟩:=h
        have:g' b=some d:=by rw [hg];exact hd
        simp only [h1,this,e,cond_true,h3];rfl
    · cases h
  · cases h
theorem JK{g g':Nat→Option aN}{x:AV}{r:Nat×Nat×aN×List Bool×List Nat}(h:afN g x=some r)(hg:∀ b∈r.2.2.2.2,g' b=g b) :afN g' x=some r:=by
  unfold afN at h ⊢
  split at h
  · rename_i b w es i len cap
    split at h
    · rename_i d hd
      simp only [Option.map_eq_some_iff] at h
      obtain ⟨r',h1,rfl⟩:=h
      have:g' b=some d:=by rw [hg b (by simp)];exact hd
      simp only [this,h1];rfl
    · cases h
  · exact h
  · cases h
theorem By{P:Program}{g g':Nat→Option aN}{nid:Nat}{e:TypeId}{inf:TypeInfo}{s:AV}{m es':Nat}{nb:aN}{obs:List Bool}{rs:List Nat}{r:List yg×List Nat}(h:C6 P g nid e inf s m es' nb obs rs=some r)(hg:∀ b∈r.2,g' b=g b) :
    C6 P g' nid e inf s m es' nb obs rs=some r∧∀ b∈rs,b∈r.2:=by
  unfold C6 at h ⊢
  split at h
  · refine ⟨h,?_⟩
    cases hes:Nat.beq es' inf.size with
    | false=>rw [hes] at h;cases h
    | true =>
      rw [hes] at h
      simp only [cond_true,Option.some.injEq] at h;subst h
      exact fun b hb=>hb
  · refine ⟨h,?_⟩
    cases hes:Nat.beq es' inf.size with
    | false=>rw [hes] at h;cases h
    | true =>
      rw [hes] at h
      simp only [cond_true,Option.some.injEq] at h;subst h
      exact fun b hb=>hb
  · rename_i b w es len cap
    split at h
    case h_2=>cases h
    rename_i d hd
    cases hes:(Nat.beq es inf.size&&Nat.beq es' es) with
    | false=>rw [hes] at h;cases h
    | true =>
    rw [hes] at h
    simp only [cond_true] at h
    split at h
    case h_2=>cases h
    rename_i old obs' hsub
    simp only [Option.map_eq_some_iff] at h
    obtain ⟨d',happ,rfl⟩:=h
    have h2:g' b=some d:=by rw [hg b (by simp)];exact hd
    refine ⟨?_,fun b hb=>by simp [hb]⟩
    simp only [h2,cond_true,hsub,happ,hes];rfl
  · cases h
theorem Wz{P:Program}{g g':Nat→Option aN}{nid:Nat}{t t':TypeId}{s x:AV}{r:List yg×List Nat}(h:HA P g nid t t' s x=some r)(hg:∀ b∈r.2,g' b=g b) :HA P g' nid t t' s x=some r:=by
  unfold HA at h ⊢
  split at h
  case h_2=>cases h
  rename_i e y ht ht'
  split at h
  case h_2=>cases h
  rename_i inf he hi
  split at h
  case h_2=>cases h
  rename_i z hz
  cases hzs:(Nat.beq z.cells.size inf.size&&Nat.beq inf.size 1) with
  | false=>rw [hzs] at h;cases h
  | true =>
  rw [hzs] at h
  simp only [cond_true] at h ⊢
  exact (By h hg).1
theorem WA{P:Program}{g g':Nat→Option aN}{nid:Nat}{t:TypeId}{s x:AV}{r:List yg×List Nat}(h:Hz P g nid t s x=some r)(hg:∀ b∈r.2,g' b=g b) :Hz P g' nid t s x=some r:=by
  unfold Hz at h ⊢
  split at h
  case h_2=>cases h
  rename_i e ht
  split at h
  case h_2=>cases h
  rename_i inf hi
  split at h
  case h_2=>cases h
  rename_i z hz
  cases hzs:Nat.beq z.cells.size inf.size with
  | false=>rw [hzs] at h;cases h
  | true =>
  rw [hzs] at h
  simp only [cond_true] at h ⊢
  split at h
  · exact h
  · exact h
  · exact h
  · exact h
  · split at h
    case h_2=>cases h
    rename_i m es nb obs rs hs
    have q:∀ b∈rs,b∈r.2:=(By (g':=g) h (fun _ _=>rfl)).2
    have:=JK (g':=g') hs (fun b hb=>hg b (q b hb))
    simp only [this]
    exact (By h hg).1
mutual
theorem Di {σ:Nat→Option Nat} {g g':Nat→Option aN}:∀ (n:Nat) (v:AV),(∀ b∈(ND σ g n v).2,g' b=g b)→ND σ g' n v=ND σ g n v
  | 0,_,_=>rfl
  | n + 1, v, h => by
    cases v<;>simp only [ND] at h ⊢
    · rename_i b w i j
      cases hs:σ b with
      | some c=>rfl
      | none =>
      rw [hs] at h
      simp only at h ⊢
      have hb:g' b=g b:=by
        cases q:g b with
        | none=>rw [q] at h;have:=h b (by simp);rw [this,q]
        | some d=>rw [q] at h;have:=h b (by simp);rw [this,q]
      rw [hb]
      cases q:g b with
      | none=>rfl
      | some d =>
        rw [q] at h
        have:=SN (σ:=σ) (g:=g) (g':=g') n d (fun b' hb'=>h b' (by simp only [List.mem_cons];exact .inr hb'))
        simp only [this]
    · rename_i b w es i len cap
      cases hs:σ b with
      | some c=>rfl
      | none =>
      rw [hs] at h
      simp only at h ⊢
      have hb:g' b=g b:=by
        cases q:g b with
        | none=>rw [q] at h;have:=h b (by simp);rw [this,q]
        | some d=>rw [q] at h;have:=h b (by simp);rw [this,q]
      rw [hb]
      cases q:g b with
      | none=>rfl
      | some d =>
        rw [q] at h
        have:=SN (σ:=σ) (g:=g) (g':=g') n d (fun b' hb'=>h b' (by simp only [List.mem_cons];exact .inr hb'))
        simp only [this]
    · rename_i f l1 l2
      rw [uy n l1 (fun b hb=>h b (by simp [hb])),uy n l2 (fun b hb=>h b (by simp [hb]))]
    · rename_i l;rw [uy n l h]
    · rename_i l;rw [uy n l h]
    · rename_i t v;rw [Di n v h]
theorem uy {σ:Nat→Option Nat} {g g':Nat→Option aN}:∀ (n:Nat) (l:List AV),(∀ b∈(KX σ g n l).2,g' b=g b)→KX σ g' n l=KX σ g n l
  | 0,_,_=>rfl
  | n+1,[],_=>rfl
  | n+1,v::l,h=>by
    simp only [KX] at h ⊢
    rw [Di n v (fun b hb=>h b (by simp [hb])),uy n l (fun b hb=>h b (by simp [hb]))]
theorem SN {σ:Nat→Option Nat} {g g':Nat→Option aN}:∀ (n:Nat) (d:aN),(∀ b∈(JE σ g n d).2,g' b=g b)→JE σ g' n d=JE σ g n d
  | 0,_,_=>rfl
  | n+1,d,h=>by
    cases d<;>simp only [JE] at h ⊢
    rename_i l;rw [uy n l h]
end
theorem sf{σ:Nat→Option Nat}{g g':Nat→Option aN} :∀ (m:List Bool) (l:List AV),(∀ b∈(mU σ g m l).2,g' b=g b)→mU σ g' m l=mU σ g m l
  | m,[],_=>by cases m<;>rfl
  | true::m,v::l,h=>by
    simp only [mU] at h ⊢
    rw [sf m l h]
  | false::m,v::l,h=>by
    simp only [mU] at h ⊢
    rw [Di _ v (fun b hb=>h b (by simp [hb])),sf m l (fun b hb=>h b (by simp [hb]))]
  | [],v::l,h=>by
    simp only [mU] at h ⊢
    rw [Di _ v (fun b hb=>h b (by simp [hb])),sf [] l (fun b hb=>h b (by simp [hb]))]
theorem NJ{g:Nat→Option aN} :∀ (n:Nat) (t acc:List Nat),∀ b∈acc,b∈pO g n t acc
  | 0,t,acc,b,h=>h
  | n+1,[],acc,b,h=>h
  | n+1,x::t,acc,b,h=>by
    simp only [pO]
    split
    · exact NJ n _ _ b h
    · exact NJ n _ _ b (by simp [h])
theorem FJ{g g':Nat→Option aN} :∀ (n:Nat) (t acc:List Nat),(∀ b∈pO g n t acc,g' b=g b)→pO g' n t acc=pO g n t acc
  | 0,t,acc,_=>rfl
  | n+1,[],acc,_=>rfl
  | n+1,x::t,acc,h=>by
    simp only [pO] at h ⊢
    split
    · rename_i e;rw [e] at h;exact FJ n _ _ h
    · rename_i e
      rw [e] at h
      simp only at h
      have hx:g' x=g x:=h x (NJ n _ _ x (by simp))
      rw [hx]
      exact FJ n _ _ h
theorem K7{σ:Nat→Option Nat}{g g':Nat→Option aN} :∀ (l:List Nat),(∀ b∈l,g' b=g b)→wV σ g' l=wV σ g l
  | [],_=>rfl
  | b::l,h=>by simp only [wV];rw [h b (by simp),K7 l (fun x hx=>h x (by simp [hx]))]
theorem FK{g g':Nat→Option aN}{nid:Nat} :∀ (l:List Nat),(∀ b∈l,g' b=g b)→sd g' nid l=sd g nid l
  | [],_=>rfl
  | b::l,h=>by simp only [sd];rw [h b (by simp),FK l (fun x hx=>h x (by simp [hx]))]
theorem afZ{C:CB}{run:gn}{g g':Nat→Option aN}{nid:Nat}{p:fD}{fid:FuncId}{vals:List AV}{r:OpR}(h:SH C run g nid p fid vals=some r)(hg:∀ b∈r.reads,g' b=g b) :SH C run g' nid p fid vals=some r:=by
  have hreads:r.reads=pO g jY (kA (sc (C.mode fid).mask vals)) []++(mU (pw (pO g jY (kA (sc (C.mode fid).mask vals)) []) 0) g (C.mode fid).mask vals).2:=by
    unfold SH at h
    simp only at h
    generalize (Dd (pO g jY (kA (sc (C.mode fid).mask vals)) [])&&sd g nid (pO g jY (kA (sc (C.mode fid).mask vals)) []))=c at h
    cases c with
    | false=>cases h
    | true =>
      simp only [cond_true] at h
      split at h
      case h_2=>cases h
      rename_i r' obs p' hl
      cases hle:Nat.ble r'.own.length ((pO g jY (kA (sc (C.mode fid).mask vals)) []).length+ww) with
      | false=>rw [hle] at h;cases h
      | true=>rw [hle] at h;simp only [cond_true,Option.some.injEq] at h;rw [←h]
  rw [hreads] at hg
  have e1:=FJ (g:=g) (g':=g') jY (kA (sc (C.mode fid).mask vals)) [] (fun b hb=>hg b (by simp [hb]))
  have e2:=sf (σ:=pw (pO g jY (kA (sc (C.mode fid).mask vals)) []) 0) (g:=g) (g':=g') (C.mode fid).mask vals (fun b hb=>hg b (by simp [hb]))
  have e3:=K7 (σ:=pw (pO g jY (kA (sc (C.mode fid).mask vals)) []) 0) (g:=g) (g':=g') (pO g jY (kA (sc (C.mode fid).mask vals)) []) (fun b hb=>hg b (by simp [hb]))
  have e4:=FK (nid:=nid) (g:=g) (g':=g') (pO g jY (kA (sc (C.mode fid).mask vals)) []) (fun b hb=>hg b (by simp [hb]))
  unfold SH at h ⊢
  simp only at h ⊢
  rw [e1,e2,e3,e4]
  exact h
theorem af0{P:Program}{g g':Nat→Option aN}{t:TypeId}{s x:AV}{r:Nat×Nat×aN×List Bool×List Nat}(h:aag P g t s x=some r)(hg:∀ b∈r.2.2.2.2,g' b=g b) :aag P g' t s x=some r:=by
  unfold aag at h ⊢
  split at h
  case h_2=>cases h
  rename_i e b w es i len cap ht
  split at h
  case h_2=>cases h
  rename_i inf blk m es' nb obs rs hi hb hsrc
  have hr:r.2.2.2.2=b::rs:=by
    cases h1:Nat.beq inf.size 1&&Nat.beq es' 1 with
    | false=>rw [h1] at h;cases h
    | true =>
      rw [h1] at h
      simp only [cond_true,Option.map_eq_some_iff] at h
      obtain ⟨_,_,rfl⟩:=h
      rfl
  have q1:g' b=some blk:=by rw [hg b (by rw [hr];simp)];exact hb
  have q2:=JK hsrc (g':=g') (fun c hc=>hg c (by rw [hr];exact List.mem_cons_of_mem _ hc))
  rw [hi,q1,q2]
  exact h
theorem af1{P:Program}{g g':Nat→Option aN}{t:TypeId}{s x:AV}{r:Nat×Nat×aN×List Bool×List Nat}(h:aah P g t s x=some r)(hg:∀ b∈r.2.2.2.2,g' b=g b) :aah P g' t s x=some r:=by
  unfold aah at h ⊢
  cases hv:aoG x with
  | false=>rw [hv] at h;exact af0 h hg
  | true =>
    rw [hv] at h
    simp only at h ⊢
    split at h
    case h_2=>cases h
    rename_i e b w es i len cap ht
    split at h
    case h_2=>cases h
    rename_i inf blk hi hb
    cases h
    have:=hg b (by simp)
    simp only [hi,this,hb]
theorem ajK{P:Program}{g g':Nat→Option aN}{s d:TypeId}{x:AV}{r:ByteArray×List Bool×List Nat}(h:am8 P g s d x=some r)(hg:∀ b∈r.2.2,g' b=g b) :am8 P g' s d x=some r:=by
  unfold am8 at h ⊢
  split at h
  case h_2=>cases h
  rename_i e hs hd
  split at h
  case h_2=>cases h
  rename_i m es k ys obs rs he hsrc
  have hr:r.2.2=rs:=by
    cases h1:Nat.beq es 1&&cT k .u8 with
    | false=>rw [h1] at h;cases h
    | true =>
      rw [h1] at h
      simp only [cond_true,Option.some.injEq] at h
      rw [←h]
  have q2:=JK hsrc (g':=g') (fun c hc=>hg c (by rw [hr];exact hc))
  rw [he,q2]
  exact h
theorem anf{C:CB}{run:gn}{e e':Operand→AV}{g g':Nat→Option aN}{nid:Nat}{p:fD}{op:Op}{r:OpR}(h:opM C run e g nid p op=some r)(he:∀ x∈op.operands,e' x=e x)(hg:∀ b∈r.reads,g' b=g b) :
    opM C run e' g' nid p op=some r:=by
  unfold opM at h ⊢
  rw [abW he]
  split at h
  · exact h
  · rename_i hp
    clear hp
    split at h
    all_goals simp only [Op.operands,Call.operands] at he
    · rename_i t x
      simp only [Option.map_eq_some_iff] at h ⊢
      obtain ⟨r',h1,rfl⟩:=h
      exact ⟨r',by rw [he x (by simp)];exact afY h1 hg,rfl⟩
    · rename_i t d x
      simp only [Option.map_eq_some_iff] at h ⊢
      obtain ⟨r',h1,rfl⟩:=h
      exact ⟨r',by rw [he x (by simp)];exact ajK h1 hg,rfl⟩
    · rename_i t x lo hi
      have h1:lo.map e'=lo.map e:=by
        cases lo with
        | none=>rfl
        | some y=>simp only [Option.map_some];rw [he y (by simp)]
      have h2:hi.map e'=hi.map e:=by
        cases hi with
        | none=>rfl
        | some y=>simp only [Option.map_some];rw [he y (by simp)]
      simp only [Option.map_eq_some_iff] at h ⊢
      obtain ⟨r',q,rfl⟩:=h
      exact ⟨r',by rw [he x (by simp),h1,h2];exact abP q hg,rfl⟩
    · rename_i t x v
      simp only [Option.map_eq_some_iff] at h ⊢
      obtain ⟨r',h1,rfl⟩:=h
      exact ⟨r',by rw [he x (by simp),he v (by simp)];exact abX h1 (hg _ (by simp)),rfl⟩
    · rename_i t x k cok;rw [he x (by simp),he k (by simp)];exact h
    · exact h
    · rename_i t x;rw [he x (by simp)];exact h
    · rename_i t l c;rw [he l (by simp),he c (by simp)];exact h
    · rename_i t parts
      have:(parts.toList.map fun x=>(x.1,e' x.2))=(parts.toList.map fun x=>(x.1,e x.2)):=List.map_congr_left fun x hx=>by rw [he x.2 (by simp;exact ⟨x.1,by simpa using hx⟩)]
      rw [this];exact h
    · rename_i t len parts
      have:(parts.toList.map fun x=>(x.1,e' x.2))=(parts.toList.map fun x=>(x.1,e x.2)):=List.map_congr_left fun x hx=>by rw [he x.2 (by simp;exact ⟨x.1,by simpa using hx⟩)]
      rw [this];exact h
    · rename_i args ats
      split at h
      case h_2=>cases h
      rename_i s x t t' e1 e2
      have ea:args = #[s,x]:=by rw [←e1]
      subst ea
      cases ht:Nat.beq t t' with
      | false =>
        rw [ht] at h
        simp only [cond_false] at h ⊢
        rw [he s (by simp),he x (by simp)]
        split at h
        case h_2=>cases h
        rename_i alts rs ha
        simp only [Option.map_eq_some_iff] at h ⊢
        obtain ⟨r',h1,rfl⟩:=h
        have:=Wz (g':=g') ha hg
        simp only [this,Option.map_eq_some_iff]
        exact ⟨r',h1,rfl⟩
      | true =>
      rw [ht] at h
      simp only [cond_true] at h ⊢
      rw [he s (by simp),he x (by simp)]
      split at h
      case h_2=>cases h
      rename_i alts rs ha
      simp only [Option.map_eq_some_iff] at h ⊢
      obtain ⟨r',h1,rfl⟩:=h
      have:=WA (g':=g') ha hg
      simp only [this,Option.map_eq_some_iff]
      exact ⟨r',h1,rfl⟩
    · rename_i args ats
      split at h
      case h_2=>cases h
      rename_i s x t t' e1 e2
      have ea:args = #[s,x]:=by rw [←e1]
      subst ea
      rw [he s (by simp),he x (by simp)]
      simp only [Option.map_eq_some_iff] at h ⊢
      obtain ⟨r',h1,rfl⟩:=h
      exact ⟨r',af1 h1 hg,rfl⟩
    · rename_i f args ats
      have hf:e' f=e f:=he f (by simp)
      have hargs:args.toList.map e'=args.toList.map e:=List.map_congr_left fun x hx=>he x (by simp at hx;simp [hx])
      split at h
      case h_2=>cases h
      rename_i fid l hca
      have:FH e' f args=some (fid,l):=by
        unfold FH at hca ⊢
        rw [hf,hargs];exact hca
      simp only [this]
      split at h
      · exact h
      · exact afZ h hg
    · cases h
def ajL(l:List Operand) :List Nat:=l.filterMap fun | .tmp t=>some t | _=>none
def qK(ops:Array Oper)(o:Oper) :List Nat :=
  (match o.dst with | some d=>[d] | none=>[])++(ajL o.op.operands.toList++(match o.guard with | some (j,_)=>(match HC ops j with | some d=>[d] | none=>[]) | none=>[]))
def mn(s:List (Nat×Option aN)) :List Nat:=s.map Prod.fst
def vp(ms:List Nat)(o:Oper) :Nat:=o.after.toList.foldl (fun m e=>bif Region.binds .any e then m ||| (2^e.on ||| ms.getD e.on 0) else m) 0
def ajM(x:Nat) :List Nat→Bool
  | []=>false
  | y::l=>Nat.beq x y||ajM x l
def JL:List Nat→List Nat→Bool
  | [],_=>true
  | x::l,m=>!ajM x m&&JL l m
theorem SO{x:Nat} :∀ {l:List Nat},ajM x l=true↔x∈l
  | []=>by simp [ajM]
  | y::l=>by simp [ajM,SO (l:=l)]
theorem HE{l m:List Nat}(h:JL l m=true) :∀ x,x∈l→x∈m→False:=by
  induction l with
  | nil=>intro x hx;cases hx
  | cons y l ih =>
    simp only [JL,Bool.and_eq_true,Bool.not_eq_true'] at h
    intro x hx hm
    rcases List.mem_cons.1 hx with rfl | hx
    · have:=SO.2 hm;rw [this] at h;cases h.1
    · exact ih h.2 x hx hm
def sh(ops:Array Oper)(o:Oper)(r:vo)(o':Oper)(r':vo) :Bool :=
  JL o.dst.toList (qK ops o')&&(JL o'.dst.toList (qK ops o)&&(JL (mn r.sets) (r'.reads++mn r'.sets)&&JL (mn r'.sets) (r.reads++mn r.sets)))
def si(ops:Array Oper)(mask:Nat)(o':Oper)(r':vo) :Nat→List (Oper×vo)→Bool
  | _,[]=>true
  | i,x::l=>(mask.testBit i||sh ops x.1 x.2 o' r')&&si ops mask o' r' (i+1) l
def JM(ops:Array Oper) :List (Oper×vo)→List Nat→List (Oper×vo)→Bool
  | _,_,[]=>true
  | pre,ms,x::l =>
    x.1.after.toList.all (fun e=>!Region.binds .any e||Nat.blt e.on pre.length) &&
    (si ops (vp ms x.1) x.1 x.2 0 pre&&JM ops (pre++[x]) (ms++[vp ms x.1]) l)
def rV(L:Nat→Bool) :Nat→List (Oper×vo)→List AV×bO→List AV×bO
  | _,[],s=>s
  | i,x::l,s=>rV L (i+1) l (bif L i then (JJ s.1 x.1.dst x.2.v,cY x.2.sets s.2) else s)
theorem K8(T:List AV)(d:Option Nat)(v:AV)(t:Nat) :(JJ T d v)[t]? = if d=some t then (T[t]?).map (fun _=>v) else T[t]?:=by
  cases d with
  | none=>simp [JJ]
  | some d =>
    simp only [JJ,Hu,Option.some.injEq]
    rw [List.getElem?_set]
    by_cases h:d=t
    · subst h
      simp only [if_true]
      by_cases hl:d<T.length
      · simp [hl]
      · simp [hl]
    · simp [h]
theorem vq{h h':bO}{b:Nat} :∀ (s:List (Nat×Option aN)) {h h':bO},bp h b=bp h' b→bp (cY s h) b=bp (cY s h') b
  | [],_,_,e=>e
  | (c,some d)::s,h,h',e=>by
    simp only [cY]
    exact vq (h:=h) (h':=h') s (by rw [dJ,dJ,e])
  | (c,none)::s,h,h',e=>by
    simp only [cY]
    exact vq (h:=h) (h':=h') s (by rw [rI,rI,e])
theorem vt{b:Nat} :∀ (s:List (Nat×Option aN)) {h:bO},b ∉ mn s→bp (cY s h) b=bp h b
  | [],_,_=>rfl
  | (c,some d)::s,h,hb=>by
    simp only [mn,List.map_cons,List.mem_cons,not_or] at hb
    simp only [cY]
    rw [vt s hb.2,dJ,if_neg (fun e=>hb.1 e.symm)]
  | (c,none)::s,h,hb=>by
    simp only [mn,List.map_cons,List.mem_cons,not_or] at hb
    simp only [cY]
    rw [vt s hb.2,rI,if_neg (fun e=>hb.1 e.symm)]
theorem abY{L L':Nat→Bool}{t:Nat} :∀ (l:List (Oper×vo)) (i:Nat) {s s':List AV×bO},(∀ k x,l[k]? = some x→x.1.dst=some t→L (i+k)=L' (i+k))→s.1[t]? = s'.1[t]?→(rV L i l s).1[t]? = (rV L' i l s').1[t]?
  | [],_,_,_,_,e=>e
  | x::l,i,s,s',h,e=>by
    simp only [rV]
    refine abY l (i+1) (fun k y hy hd=>by have:=h (k+1) y (by simpa using hy) hd;rw [show i+1+k=i+(k+1) from by omega];exact this) ?_
    by_cases hd:x.1.dst=some t
    · have:=h 0 x (by simp) hd
      simp only [Nat.add_zero] at this
      rw [this]
      cases L' i with
      | true=>simp only [cond_true,K8,hd,if_true,e]
      | false=>exact e
    · cases L i<;>cases L' i<;>simp only [cond_true,cond_false,K8,if_neg hd,e]
theorem abZ{L L':Nat→Bool}{b:Nat} :∀ (l:List (Oper×vo)) (i:Nat) {s s':List AV×bO},(∀ k x,l[k]? = some x→b∈mn x.2.sets→L (i+k)=L' (i+k))→bp s.2 b=bp s'.2 b→bp (rV L i l s).2 b=bp (rV L' i l s').2 b
  | [],_,_,_,_,e=>e
  | x::l,i,s,s',h,e=>by
    simp only [rV]
    refine abZ l (i+1) (fun k y hy hd=>by have:=h (k+1) y (by simpa using hy) hd;rw [show i+1+k=i+(k+1) from by omega];exact this) ?_
    by_cases hd:b∈mn x.2.sets
    · have:=h 0 x (by simp) hd
      simp only [Nat.add_zero] at this
      rw [this]
      cases L' i with
      | true=>simp only [cond_true];exact vq (h:=s.2) (h':=s'.2) _ e
      | false=>exact e
    · cases L i<;>cases L' i<;>simp only [cond_true,cond_false,vt _ hd,e]
def dq:List (Oper×vo)→List AV×bO→List AV×bO
  | [],s=>s
  | x::l,s=>dq l (JJ s.1 x.1.dst x.2.v,cY x.2.sets s.2)
theorem SP(l m:List (Oper×vo))(s:List AV×bO) :dq (l++m) s=dq m (dq l s):=by
  induction l generalizing s with
  | nil=>rfl
  | cons x l ih=>simp only [List.cons_append,dq,ih]
theorem R5:∀ (l:List (Oper×vo)) (i j:Nat) (s:List AV×bO),rV (fun k=>decide (k<i+j)) i l s=dq (l.take j) s
  | [],i,j,s=>by simp [rV,dq]
  | x::l,i,0,s=>by
    have:∀ (l:List (Oper×vo)) (i':Nat),i≤i'→∀ s,rV (fun k=>decide (k<i+0)) i' l s=s:=by
      intro l
      induction l with
      | nil=>intro _ _ s;rfl
      | cons y l ih =>
        intro i' hi s
        simp only [rV]
        have:decide (i'<i+0)=false:=by simp;omega
        rw [this];exact ih (i'+1) (by omega) s
    simp only [List.take_zero,dq]
    exact this _ i (Nat.le_refl _) s
  | x::l,i,j+1,s=>by
    simp only [rV,List.take_succ_cons,dq]
    have h1:decide (i<i+(j+1))=true:=by simp
    rw [h1]
    simp only [cond_true]
    have:=R5 l (i+1) j (JJ s.1 x.1.dst x.2.v,cY x.2.sets s.2)
    rw [show i+1+j=i+(j+1) from by omega] at this
    exact this
structure aoM (ops:Array Oper) (l:List (Oper×vo)) (ms:List Nat):Prop where
  edge:∀ (j:Nat) (x:Oper×vo),l[j]? = some x→∀ e∈x.1.after,Region.binds .any e=true→e.on<j
  mask:∀ (j:Nat) (x:Oper×vo),l[j]? = some x→∃ m:Nat,ms[j]? = some m∧∀ i:Nat,m.testBit i=true→∃ e∈x.1.after,Region.binds .any e=true∧(e.on=i∨∃ m':Nat,ms[e.on]? = some m'∧m'.testBit i=true)
  pair:∀ (i j:Nat) (x y:Oper×vo),l[i]? = some x→l[j]? = some y→i<j→(∃ m:Nat,ms[j]? = some m∧m.testBit i=true)∨sh ops x.1 x.2 y.1 y.2=true
theorem SQ(ms:List Nat) :∀ (es:List Edge) (m0 i:Nat),(es.foldl (fun m e=>bif Region.binds .any e then m ||| (2^e.on ||| ms.getD e.on 0) else m) m0).testBit i=true →
    m0.testBit i=true∨∃ e∈es,Region.binds .any e=true∧(e.on=i∨(ms.getD e.on 0).testBit i=true)
  | [],m0,i,h=>.inl h
  | e::es,m0,i,h=>by
    simp only [List.foldl_cons] at h
    rcases SQ ms es _ i h with h | ⟨e',h1,h2,h3⟩
    · cases hb:Region.binds .any e with
      | false=>rw [hb] at h;exact .inl h
      | true =>
        rw [hb] at h
        simp only [cond_true,Nat.testBit_or,Bool.or_eq_true,Nat.testBit_two_pow,decide_eq_true_eq] at h
        rcases h with h | h | h
        · exact .inl h
        · exact .inr ⟨e,by simp,hb,.inl h⟩
        · exact .inr ⟨e,by simp,hb,.inr h⟩
    · exact .inr ⟨e',by simp [h1],h2,h3⟩
theorem Is{ops:Array Oper}{mask:Nat}{o':Oper}{r':vo} :∀ {l:List (Oper×vo)} {i:Nat},si ops mask o' r' i l=true→∀ k x,l[k]? = some x→mask.testBit (i+k)=true∨sh ops x.1 x.2 o' r'=true
  | [],_,_,k,x,h=>by simp at h
  | y::l,i,h,0,x,hx=>by
    simp only [si,Bool.and_eq_true,Bool.or_eq_true] at h
    simp at hx;subst hx;simpa using h.1
  | y::l,i,h,k+1,x,hx=>by
    simp only [si,Bool.and_eq_true,Bool.or_eq_true] at h
    have:=Is h.2 k x (by simpa using hx)
    rw [show i+1+k=i+(k+1) from by omega] at this;exact this
theorem Pd{ops:Array Oper} :∀ (l pre:List (Oper×vo)) (ms:List Nat),ms.length=pre.length→JM ops pre ms l=true→aoM ops pre ms→∃ ms',aoM ops (pre++l) ms'
  | [],pre,ms,_,_,D=>⟨ms,by simpa using D⟩
  | x::l,pre,ms,hl,h,D=>by
    simp only [JM,Bool.and_eq_true] at h
    obtain ⟨h1,h2,h3⟩:=h
    have:=Pd l (pre++[x]) (ms++[vp ms x.1]) (by simp [hl]) h3 ?_
    · simpa using this
    have old:∀ (j:Nat) (y:Oper×vo),(pre++[x])[j]? = some y→(j<pre.length∧pre[j]? = some y)∨(j=pre.length∧y=x):=by
      intro j y hy
      rw [List.getElem?_append] at hy
      split at hy
      · rename_i q;exact .inl ⟨q,hy⟩
      · rename_i q
        have:j-pre.length=0:=by
          rcases Nat.eq_zero_or_pos (j-pre.length) with r | r
          · exact r
          · rw [List.getElem?_eq_none (by simp;omega)] at hy;cases hy
        rw [this] at hy;simp at hy;exact .inr ⟨by omega,hy.symm⟩
    have msl:∀ (j m:Nat),ms[j]? = some m→(ms++[vp ms x.1])[j]? = some m:=by
      intro j m hm
      rw [List.getElem?_append_left (List.getElem?_eq_some_iff.1 hm).1];exact hm
    have msn:(ms++[vp ms x.1])[pre.length]? = some (vp ms x.1):=by
      rw [←hl,List.getElem?_append_right (Nat.le_refl _)];simp
    have hedge:∀ e∈x.1.after,Region.binds .any e=true→e.on<pre.length:=by
      intro e he hb
      have:=List.all_eq_true.1 h1 e (by simpa using he)
      rw [hb] at this
      simpa [Nat.blt_eq] using this
    refine ⟨fun j y hy=>?_,fun j y hy=>?_,fun i j a b ha hb hij=>?_⟩
    · rcases old j y hy with ⟨q,hy⟩ | ⟨rfl,rfl⟩
      · exact D.edge j y hy
      · exact hedge
    · rcases old j y hy with ⟨q,hy⟩ | ⟨rfl,rfl⟩
      · obtain ⟨m,k1,k2⟩:=D.mask j y hy
        refine ⟨m,msl j m k1,fun i hi=>?_⟩
        obtain ⟨e,e1,e2,e3⟩:=k2 i hi
        exact ⟨e,e1,e2,e3.imp id fun ⟨m',q1,q2⟩=>⟨m',msl _ m' q1,q2⟩⟩
      · refine ⟨_,msn,fun i hi=>?_⟩
        rcases SQ ms y.1.after.toList 0 i hi with q | ⟨e,e1,e2,e3⟩
        · simp at q
        · refine ⟨e,by simpa using e1,e2,e3.imp id fun q=>?_⟩
          rw [List.getD_eq_getElem?_getD] at q
          cases hm:ms[e.on]? with
          | none=>rw [hm] at q;simp at q
          | some m'=>rw [hm] at q;exact ⟨m',msl _ m' hm,q⟩
    · rcases old j b hb with ⟨q,hb⟩ | ⟨rfl,rfl⟩
      · rcases old i a ha with ⟨q',ha⟩ | ⟨rfl,rfl⟩
        · exact (D.pair i j a b ha hb hij).imp (fun ⟨m,k1,k2⟩=>⟨m,msl j m k1,k2⟩) id
        · omega
      · rcases old i a ha with ⟨q',ha⟩ | ⟨rfl,rfl⟩
        · have:=Is h2 i a ha
          rw [Nat.zero_add] at this
          exact this.imp (fun k=>⟨_,msn,k⟩) id
        · omega
def SS(m i:Nat) :Bool:=Nat.beq (Nat.land (Nat.shiftRight m i) 1) 1
theorem HF(m i:Nat) :SS m i=m.testBit i:=by
  have h:Nat.land (Nat.shiftRight m i) 1=(m >>> i)%2:=Nat.and_one_is_mod _
  unfold SS
  rw [h,Nat.testBit_eq_decide_div_mod_eq,Nat.shiftRight_eq_div_pow]
  cases hq:Nat.beq (m/2^i%2) 1 with
  | true=>have:=Nat.eq_of_beq_eq_true hq;simp [this]
  | false => have : ¬ m / 2 ^ i % 2 = 1 := fun e => by rw [e] at hq; cases hq
             simp [this]
def JN:List Nat→Nat
  | []=>0
  | t::l=>Nat.lor (Nat.shiftLeft 1 t) (JN l)
theorem SU:∀ {l:List Nat} {t:Nat},t∈l→SS (JN l) t=true
  | s::l,t,h=>by
    rw [HF]
    show ((1 <<< s) ||| JN l).testBit t=true
    rw [Nat.testBit_or,Bool.or_eq_true]
    rcases List.mem_cons.1 h with rfl | h
    · left;rw [Nat.one_shiftLeft,Nat.testBit_two_pow];simp
    · right;rw [←HF];exact SU h
def al8(d:Option Nat)(m:Nat) :Bool:=match d with | none=>true | some d=>!SS m d
theorem SV{d:Option Nat}{l:List Nat}(h:al8 d (JN l)=true) :JL d.toList l=true:=by
  cases d with
  | none=>rfl
  | some d =>
    simp only [al8,Bool.not_eq_true'] at h
    simp only [Option.toList,JL,Bool.and_true,Bool.not_eq_true']
    cases hm:ajM d l with
    | false=>rfl
    | true=>rw [SU (SO.1 hm)] at h;cases h
def FL(r r':vo) :Bool:=JL (mn r.sets) (r'.reads++mn r'.sets)&&JL (mn r'.sets) (r.reads++mn r.sets)
def R6(mask:Nat)(d':Option Nat)(m':Nat) :Nat→List (Option Nat×Nat)→Bool
  | _,[]=>true
  | i,x::l=>(SS mask i||(al8 x.1 m'&&al8 d' x.2))&&R6 mask d' m' (i+1) l
def ab0(ops:Array Oper)(o:Oper) :Option Nat×Nat:=(o.dst,JN (qK ops o))
def ab1(ops:Array Oper) :List Oper→List Nat→List Oper→Bool
  | _,_,[]=>true
  | pre,ms,o::l=>o.after.toList.all (fun e=>!Region.binds .any e||Nat.blt e.on pre.length)&&(R6 (vp ms o) o.dst (JN (qK ops o)) 0 (pre.map (ab0 ops))&&ab1 ops (pre++[o]) (ms++[vp ms o]) l)
def SW:List Oper→List Nat→List Nat
  | [],_=>[]
  | o::l,ms=>vp ms o::SW l (ms++[vp ms o])
def SX(mask:Nat)(r':vo) :Nat→List vo→Bool
  | _,[]=>true
  | i,r::l=>(SS mask i||FL r r')&&SX mask r' (i+1) l
def NK(r:vo) :Bool:=match r.sets,r.reads with | [],[]=>true | _,_=>false
def R7:List vo→Bool
  | []=>true
  | r::l=>match r.sets with | []=>R7 l | _=>false
def af2:List vo→List Nat→List vo→Bool
  | _,_,[]=>true
  | pre,m::ms,r::l=>(NK r||SX m r 0 pre)&&af2 (pre++[r]) ms l
  | _,[],_=>false
def K9(ops:Array Oper)(rs:List vo) :Bool :=
  ab1 ops [] [] ops.toList&&(R7 rs||af2 [] (SW ops.toList []) rs)
theorem af3:∀ (l:List Nat),JL l []=true
  | []=>rfl
  | x::l=>by simp [JL,ajM,af3 l]
theorem NL{r r':vo}(h:NK r'=true) :FL r r'=true:=by
  unfold NK at h
  split at h
  · rename_i h1 h2;simp [FL,h1,h2,mn,JL,af3]
  · cases h
theorem Pe:∀ {l:List vo},R7 l=true→∀ r∈l,r.sets=[]
  | x::l,h,r,hr=>by
    simp only [R7] at h
    split at h
    · rename_i hx
      rcases List.mem_cons.1 hr with rfl | hr
      · exact hx
      · exact Pe h r hr
    · cases h
theorem SY{r r':vo}(h:r.sets=[])(h':r'.sets=[]) :FL r r'=true:=by simp [FL,h,h',mn,JL]
theorem Pf{ops:Array Oper}{mask:Nat}{o':Oper}{r':vo} :∀ {l:List Oper} {rs:List vo} {i:Nat},R6 mask o'.dst (JN (qK ops o')) i (l.map (ab0 ops))=true→(∀ k r,rs[k]? = some r→SS mask (i+k)=true∨FL r r'=true)→si ops mask o' r' i (l.zip rs)=true
  | [],_,_,_,_=>by simp [si]
  | _::_,[],_,_,_=>by simp [si]
  | o::l,r::rs,i,h,hd=>by
    simp only [List.map_cons,R6,Bool.and_eq_true,Bool.or_eq_true,ab0] at h
    simp only [List.zip_cons_cons,si,Bool.and_eq_true,Bool.or_eq_true]
    refine ⟨?_,Pf h.2 fun k r hk=>?_⟩
    · have:=hd 0 r rfl
      rw [Nat.add_zero] at this
      rcases this with q | q
      · left;rw [←HF];exact q
      · rcases h.1 with q' | q'
        · left;rw [←HF];exact q'
        · right
          simp only [FL,Bool.and_eq_true] at q
          simp only [sh,Bool.and_eq_true]
          exact ⟨SV q'.1,SV q'.2,q.1,q.2⟩
    · have:=hd (k+1) r (by simpa using hk)
      rwa [show i+(k+1)=i+1+k from by omega] at this
theorem SZ{mask:Nat}{r':vo} :∀ {l:List vo} {i:Nat},SX mask r' i l=true→∀ k r,l[k]? = some r→SS mask (i+k)=true∨FL r r'=true
  | [],_,_,k,r,h=>by simp at h
  | x::l,i,h,0,r,hr=>by
    simp only [SX,Bool.and_eq_true,Bool.or_eq_true] at h
    simp at hr;subst hr;simpa using h.1
  | x::l,i,h,k+1,r,hr=>by
    simp only [SX,Bool.and_eq_true,Bool.or_eq_true] at h
    have:=SZ h.2 k r (by simpa using hr)
    rwa [show i+1+k=i+(k+1) from by omega] at this
theorem aal{ops:Array Oper} :∀ (l pre:List Oper) (rs prs:List vo) (ms:List Nat),pre.length=prs.length→l.length=rs.length→ab1 ops pre ms l=true →
    ((∀ r∈prs++rs,r.sets=[])∨af2 prs (SW l ms) rs=true)→JM ops (pre.zip prs) ms (l.zip rs)=true
  | [],_,_,_,_,_,_,_,_=>by simp [JM]
  | _::_,_,[],_,_,_,h,_,_=>by simp at h
  | o::l,pre,r::rs,prs,ms,hp,hl,hs,hd=>by
    simp only [ab1,Bool.and_eq_true] at hs
    obtain ⟨h1,h2,h3⟩:=hs
    simp only [List.zip_cons_cons,JM,Bool.and_eq_true]
    have hz:(pre.zip prs).length=pre.length:=by simp [hp]
    have hap:(pre.zip prs)++[(o,r)]=(pre++[o]).zip (prs++[r]):=by rw [List.zip_append hp];rfl
    refine ⟨by rw [hz];exact h1,Pf h2 fun k x hk=>?_,?_⟩
    · rcases hd with hd | hd
      · exact .inr (SY (hd x (by simp [List.mem_of_getElem? hk])) (hd r (by simp)))
      · simp only [SW,af2,Bool.and_eq_true,Bool.or_eq_true] at hd
        rcases hd.1 with q | q
        · exact .inr (NL q)
        · exact SZ q k x hk
    · rw [hap]
      refine aal l (pre++[o]) rs (prs++[r]) _ (by simp [hp]) (by simpa using hl) h3 ?_
      rcases hd with hd | hd
      · left;simpa using hd
      · right
        simp only [SW,af2,Bool.and_eq_true] at hd
        exact hd.2
theorem af4{ops:Array Oper}{rs:List vo}(hl:rs.length=ops.toList.length)(h:K9 ops rs=true) :JM ops [] [] (ops.toList.zip rs)=true:=by
  simp only [K9,Bool.and_eq_true,Bool.or_eq_true] at h
  exact aal ops.toList [] rs [] [] rfl hl.symm h.1 (h.2.imp (fun q=>by simpa using Pe q) id)
theorem ajN{l:List Operand}{t:Nat}(h:Operand.tmp t∈l) :t∈ajL l:=by
  simp only [ajL,List.mem_filterMap];exact ⟨_,h,rfl⟩
theorem af5{C:CB}{run:gn}{ops:Array Oper}{n0 i:Nat}{o:Oper}{T T':List AV}{h h':bO}{p p':fD}{r:vo}{obs:List Bool}(hr:K4 C run ops n0 i o T h p=some (r,obs,p')) 
    (hT:∀ t∈qK ops o,T'[t]? = T[t]?) (hh:∀ b∈r.reads,bp h' b=bp h b):K4 C run ops n0 i o T' h' p=some (r,obs,p'):=by
  have hw:Df ops o T'=Df ops o T:=by
    unfold Df
    simp only [abm]
    cases hg:o.guard with
    | none=>rfl
    | some x =>
      obtain ⟨j,want⟩:=x
      simp only
      cases hs:HC ops j with
      | none=>rfl
      | some d=>simp only;rw [hT d (by simp [qK,hg,hs])]
  unfold K4 at hr ⊢
  simp only [aoL] at hr ⊢
  rw [hw]
  split at hr
  · cases hr
  · exact hr
  · split at hr
    · cases hr
    · rename_i r' hop
      have:opM C run (evA T') (bp h') (n0+i*ww) p o.op=some r':=by
        refine anf hop (fun x hx=>?_) (fun b hb=>?_)
        · cases x with
          | tmp t=>simp only [evA,abl];rw [hT t (by simp only [qK,List.mem_append];exact .inr (.inl (ajN (by simpa using hx))))]
          | _=>rfl
        · apply hh
          split at hr
          · cases hr
          · simp only [Option.some.injEq,Prod.mk.injEq] at hr;rw [←hr.1];exact hb
      simp only [this]
      exact hr
def S5(C:CB)(run:gn)(ops:Array Oper)(n0:Nat) :Nat→List Oper→List AV→bO→fD→Option (List vo×List AV×bO×List Bool×fD)
  | _,[],T,h,p=>some ([],T,h,[],p)
  | i,o::l,T,h,p =>
    match K4 C run ops n0 i o T h p with
    | none=>none
    | some (r,obs,p') =>
      match S5 C run ops n0 (i+1) l (JJ T o.dst r.v) (cY r.sets h) p' with
      | none=>none
      | some (rs,T',h',obs',p'')=>some (r::rs,T',h',obs++obs',p'')
theorem Pg{C:CB}{run:gn}{ops:Array Oper}{n0:Nat} :∀ (l:List Oper) (i:Nat) {T T':List AV} {h h':bO} {p p':fD} {obs:List Bool} {rs:List vo},S5 C run ops n0 i l T h p=some (rs,T',h',obs,p')→aH obs →
    rs.length=l.length∧dq (l.zip rs) (T,h)=(T',h')∧∀ (j:Nat) (o:Oper),l[j]? = some o→∃ r obs' q q',rs[j]? = some r∧aH obs' ∧
      K4 C run ops n0 (i+j) o (dq ((l.zip rs).take j) (T,h)).1 (dq ((l.zip rs).take j) (T,h)).2 q=some (r,obs',q')
  | [],i,T,T',h,h',p,p',obs,rs,hr,_=>by
    simp only [S5,Option.some.injEq,Prod.mk.injEq] at hr;obtain ⟨rfl,rfl,rfl,rfl,rfl⟩:=hr
    exact ⟨rfl,rfl,fun j o h=>by simp at h⟩
  | o::l,i,T,T',h,h',p,p',obs,rs,hr,ho=>by
    simp only [S5] at hr
    split at hr
    case h_1=>cases hr
    rename_i r obs1 p1 h1
    split at hr
    case h_1=>cases hr
    rename_i rs2 T2 h2 obs2 p2 h3
    simp only [Option.some.injEq,Prod.mk.injEq] at hr;obtain ⟨rfl,rfl,rfl,rfl,rfl⟩:=hr
    rw [bn] at ho
    obtain ⟨a1,a2,a3⟩:=Pg l (i+1) h3 ho.2
    refine ⟨by simp [a1],by simpa [dq] using a2,fun j o' hj=>?_⟩
    cases j with
    | zero=>simp at hj;subst hj;exact ⟨r,obs1,p,p1,by simp,ho.1,by simpa [dq] using h1⟩
    | succ j =>
      obtain ⟨r',ob,q,q',b1,b2,b3⟩:=a3 j o' (by simpa using hj)
      refine ⟨r',ob,q,q',by simpa using b1,b2,?_⟩
      rw [show i+(j+1)=i+1+j from by omega]
      simpa [dq] using b3
theorem aam{p q:Nat→Bool} :∀ {l:List Nat} {j:Nat},j∈l→p j=true→q j=false→(∀ i,q i=true→p i=true)→l.countP q<l.countP p
  | [],_,h,_,_,_=>by cases h
  | x::l,j,h,hp,hq,hi=>by
    have mono:∀ l:List Nat,l.countP q≤l.countP p:=fun l=>List.countP_mono_left fun x _=>hi x
    simp only [List.countP_cons]
    rcases List.mem_cons.1 h with rfl | h
    · rw [hp,hq];have:=mono l;simp;omega
    · have:=aam h hp hq hi
      by_cases hx:q x=true
      · rw [hx,hi x hx];omega
      · have hq':q x=false:=by simpa using hx
        rw [hq'];simp only [Bool.false_eq_true,if_false];split<;>omega
theorem aqD{i j y:Nat}(h1:i*ww≤y)(h2:y<i*ww+ww)(h3:j*ww≤y)(h4:y<j*ww+ww) :i=j:=by
  have hS:0<ww:=by decide
  have a:y/ww=i:=by rw [Nat.div_eq_iff hS];omega
  have b:y/ww=j:=by rw [Nat.div_eq_iff hS];omega
  omega
theorem aoN{C:CB}(hC:C.Ok){run:gn}(hrun:SG C.P run){ops:Array Oper}{n0:Nat}{T0:List AV}{h0:bO}{rs:List vo}{ms:List Nat}(D:aoM ops (ops.toList.zip rs) ms)(hlen:rs.length=ops.size) 
    (each:∀ (j:Nat) (o:Oper),ops.toList[j]? = some o→∃ r obs' q q',rs[j]? = some r∧aH obs' ∧
      K4 C run ops n0 j o (dq ((ops.toList.zip rs).take j) (T0,h0)).1 (dq ((ops.toList.zip rs).take j) (T0,h0)).2 q=some (r,obs',q'))
    {ro:Option Nat} {nn:Nat} {Q:Exit→Act→World→Prop}:∀ (fuel:Nat) (listed:Array Bool),listed.size=ops.size→(∀ (j:Nat) (o:Oper),ops[j]? = some o→listed.getD j false=true→∀ e∈o.after,Region.binds .any e=true→listed.getD e.on false=true) →
      (List.range ops.size).countP (fun i=>!listed.getD i false)≤fuel→∀ {ρ:am} {w:World} {a:Act},HR ρ w (rV (fun i=>listed.getD i false) 0 (ops.toList.zip rs) (T0,h0)).2 (n0+ops.size*ww) →
      (∀ b,ρ.ok b→b<n0∨∃ i,listed.getD i false=true∧n0+i*ww≤b∧b<n0+i*ww+ww)→da ρ w (rV (fun i=>listed.getD i false) 0 (ops.toList.zip rs) (T0,h0)).1 a.tmps.toList →
      (∀ ρ' w' a',oa ρ ρ' w→jX ρ.live w w'→HR ρ' w' (dq (ops.toList.zip rs) (T0,h0)).2 (n0+ops.size*ww)→a'.defers=a.defers→da ρ' w' (dq (ops.toList.zip rs) (T0,h0)).1 a'.tmps.toList→(∀ b,ρ'.ok b→ρ.ok b∨n0≤b)→Q .normal a' w') →
      wpAnyIn (FW ro) nn C.P .any ops Q fuel listed a w:=by
  have hzl:(ops.toList.zip rs).length=ops.size:=by simp [hlen]
  have zget:∀ (j:Nat) (o:Oper) (r:vo),ops[j]? = some o→rs[j]? = some r→(ops.toList.zip rs)[j]? = some (o,r):=by
    intro j o r h1 h2
    rw [List.getElem?_zip_eq_some];exact ⟨by simpa using h1,h2⟩
  have zinv:∀ (j:Nat) (x:Oper×vo),(ops.toList.zip rs)[j]? = some x→ops[j]? = some x.1∧rs[j]? = some x.2:=by
    intro j x hx
    have:=List.getElem?_zip_eq_some.1 (show (ops.toList.zip rs)[j]? = some (x.1,x.2) from hx)
    exact ⟨by simpa using this.1,this.2⟩

  have allL:∀ (listed:Array Bool),listed.size=ops.size→(∀ i,i<ops.size→listed.getD i false=true)→rV (fun i=>listed.getD i false) 0 (ops.toList.zip rs) (T0,h0)=dq (ops.toList.zip rs) (T0,h0):=by
    intro listed hs hall
    have:∀ (l:List (Oper×vo)) (i:Nat) (s:List AV×bO),i+l.length≤ops.size→rV (fun i=>listed.getD i false) i l s=dq l s:=by
      intro l
      induction l with
      | nil=>intro _ _ _;rfl
      | cons x l ih =>
        intro i s hi
        simp only [List.length_cons] at hi
        simp only [rV,dq]
        rw [hall i (by omega)]
        exact ih (i+1) _ (by omega)
    exact this _ 0 _ (by rw [hzl];omega)

  have down:∀ (listed:Array Bool),(∀ (j:Nat) (o:Oper),ops[j]? = some o→listed.getD j false=true→∀ e∈o.after,Region.binds .any e=true→listed.getD e.on false=true) →
      ∀ (j:Nat) (o:Oper),ops[j]? = some o→(∀ e∈o.after,Region.binds .any e=true→listed.getD e.on false=true)→∀ (i m:Nat),ms[j]? = some m→m.testBit i=true→listed.getD i false=true:=by
    intro listed hcl j
    induction j using Nat.strongRecOn with
    | _ j ih =>
      intro o ho hpre i m hm hbit
      have hlt:j<ops.size:=(Array.getElem?_eq_some_iff.1 ho).1
      obtain ⟨r,hr⟩:∃ r,rs[j]? = some r:=⟨rs[j]'(by omega),List.getElem?_eq_getElem (by omega)⟩
      have hz:=zget j o r ho hr
      obtain ⟨m',k1,k2⟩:=D.mask j _ hz
      rw [hm] at k1;cases k1
      obtain ⟨e,e1,e2,e3⟩:=k2 i hbit
      have hL:=hpre e e1 e2
      rcases e3 with rfl | ⟨m'',q1,q2⟩
      · exact hL
      · have hej:=D.edge j _ hz e e1 e2
        have hon:e.on<ops.size:=by omega
        exact ih e.on hej _ (Array.getElem?_eq_getElem hon) (hcl e.on _ (Array.getElem?_eq_getElem hon) hL) i m'' q1 q2
  intro fuel
  induction fuel with
  | zero =>
    intro listed hs hcl hcnt ρ w a hh hok hT hQ
    have hall:∀ i,i<ops.size→listed.getD i false=true:=by
      intro i hi
      have h0:=List.countP_eq_zero.1 (Nat.le_zero.1 hcnt) i (List.mem_range.2 hi)
      simpa using h0
    simp only [wpAnyIn]
    refine ⟨?_,?_⟩
    · cases hr:Region.ready .any ops listed with
      | nil=>rfl
      | cons x xs =>
        have hx:x∈Region.ready .any ops listed:=by rw [hr];simp
        obtain ⟨k1,o,k2,_⟩:=mem_ready.1 hx
        have hlt:x<ops.size:=(Array.getElem?_eq_some_iff.1 k2).1
        have:=hall x hlt
        rw [Array.getD_eq_getD_getElem?,Array.getElem?_eq_getElem (by omega)] at this k1
        simp only [Option.getD_some] at this k1
        rw [this] at k1;cases k1
    · rw [allL listed hs hall] at hh hT
      exact hQ ρ w a (oa.refl _ _) (jX.refl _ _) hh rfl hT (fun b q=>.inl q)
  | succ fuel ih =>
    intro listed hs hcl hcnt ρ w a hh hok hT hQ
    simp only [wpAnyIn]
    have sameD:∀ j,j<ops.size→listed.getD j true=listed.getD j false:=by
      intro j hj
      rw [Array.getD_eq_getD_getElem?,Array.getD_eq_getD_getElem?,Array.getElem?_eq_getElem (by omega)];rfl
    refine ⟨fun hr=>?_,fun j hj=>?_⟩
    · have hall:∀ i,i<ops.size→listed.getD i false=true:=by
        intro i
        induction i using Nat.strongRecOn with
        | _ i ihi =>
          intro hi
          cases hl:listed.getD i false with
          | true=>rfl
          | false =>
            have ho:=Array.getElem?_eq_getElem hi
            obtain ⟨r,hrr⟩:∃ r,rs[i]? = some r:=⟨rs[i]'(by omega),List.getElem?_eq_getElem (by omega)⟩
            have hz:=zget i _ r ho hrr
            have:i∈Region.ready .any ops listed:=mem_ready.2 ⟨by rw [sameD i hi];exact hl,_,ho,fun e he hb=>ihi e.on (D.edge i _ hz e he hb) (by have:=D.edge i _ hz e he hb;omega)⟩
            rw [hr] at this;cases this
      rw [allL listed hs hall] at hh hT
      exact hQ ρ w a (oa.refl _ _) (jX.refl _ _) hh rfl hT (fun b q=>.inl q)
    · obtain ⟨k1,o,ho,hpre⟩:=mem_ready.1 hj
      have hlt:j<ops.size:=(Array.getElem?_eq_some_iff.1 ho).1
      rw [sameD j hlt] at k1
      obtain ⟨r,obs',q,q',hr,hob,hone⟩:=each j o (by simpa using ho)
      have hz:=zget j o r ho hr

      have agree:∀ (i:Nat) (x:Oper×vo),(ops.toList.zip rs)[i]? = some x→i≠j→sh ops x.1 x.2 o r=false→sh ops o r x.1 x.2=false→listed.getD i false=decide (i<j):=by
        intro i x hx hne n1 n2
        have hxi:=zinv i x hx
        rcases Nat.lt_or_gt_of_ne hne with hij | hij
        · rcases D.pair i j x (o,r) hx hz hij with ⟨m,hm,hb⟩ | hap
          · rw [down listed hcl j o ho hpre i m hm hb];simp [hij]
          · simp only at hap;rw [n1] at hap;cases hap
        · rcases D.pair j i (o,r) x hz hx hij with ⟨m,hm,hb⟩ | hap
          · have : ¬ i<j:=by omega
            simp only [this,decide_false]
            cases hl:listed.getD i false with
            | false=>rfl
            | true =>
              have:=down listed hcl i x.1 hxi.1 (hcl i x.1 hxi.1 hl) j m hm hb
              rw [k1] at this;cases this
          · simp only at hap;rw [n2] at hap;cases hap
      have napT:∀ (x:Oper×vo) (t:Nat),x.1.dst=some t→t∈qK ops o→sh ops x.1 x.2 o r=false∧sh ops o r x.1 x.2=false:=by
        intro x t hdst ht
        constructor
        · cases hap:sh ops x.1 x.2 o r with
          | false=>rfl
          | true=>simp only [sh,Bool.and_eq_true] at hap;exact (HE hap.1 t (by simp [hdst]) ht).elim
        · cases hap:sh ops o r x.1 x.2 with
          | false=>rfl
          | true=>simp only [sh,Bool.and_eq_true] at hap;exact (HE hap.2.1 t (by simp [hdst]) ht).elim
      have napH:∀ (x:Oper×vo) (b:Nat),b∈mn x.2.sets→b∈r.reads++mn r.sets→sh ops x.1 x.2 o r=false∧sh ops o r x.1 x.2=false:=by
        intro x b hx hb
        constructor
        · cases hap:sh ops x.1 x.2 o r with
          | false=>rfl
          | true=>simp only [sh,Bool.and_eq_true] at hap;exact (HE hap.2.2.1 b hx hb).elim
        · cases hap:sh ops o r x.1 x.2 with
          | false=>rfl
          | true=>simp only [sh,Bool.and_eq_true] at hap;exact (HE hap.2.2.2 b hx hb).elim
      have eqT:∀ t∈qK ops o,(rV (fun i=>listed.getD i false) 0 (ops.toList.zip rs) (T0,h0)).1[t]? = (dq ((ops.toList.zip rs).take j) (T0,h0)).1[t]?:=by
        intro t ht
        have:=R5 (ops.toList.zip rs) 0 j (T0,h0)
        rw [←this]
        refine abY _ 0 (fun k x hx hdst=>?_) rfl
        rw [Nat.zero_add,Nat.zero_add]
        by_cases hkj:k=j
        · subst hkj;rw [k1];simp
        · obtain ⟨n1,n2⟩:=napT x t hdst ht;exact agree k x hx hkj n1 n2
      have eqH:∀ b∈r.reads++mn r.sets,bp (rV (fun i=>listed.getD i false) 0 (ops.toList.zip rs) (T0,h0)).2 b=bp (dq ((ops.toList.zip rs).take j) (T0,h0)).2 b:=by
        intro b hb
        have:=R5 (ops.toList.zip rs) 0 j (T0,h0)
        rw [←this]
        refine abZ _ 0 (fun k x hx fB=>?_) rfl
        rw [Nat.zero_add,Nat.zero_add]
        by_cases hkj:k=j
        · subst hkj;rw [k1];simp
        · obtain ⟨n1,n2⟩:=napH x b fB hb;exact agree k x hx hkj n1 n2
      have hloc:=af5 hone eqT (fun b hb=>eqH b (by simp [hb]))

      have L'eq:∀ i,(listed.setIfInBounds j true).getD i false=if i=j then true else listed.getD i false:=by
        intro i
        by_cases hij:i=j
        · subst hij;rw [if_pos rfl,Array.getD_eq_getD_getElem?];simp [hs,hlt]
        · rw [if_neg hij];exact getD_set_ne false (fun e=>hij e.symm)
      have step1:=R5 (ops.toList.zip rs) 0 (j+1) (T0,h0)
      have hsplit:dq ((ops.toList.zip rs).take (j+1)) (T0,h0)=(JJ (dq ((ops.toList.zip rs).take j) (T0,h0)).1 o.dst r.v,cY r.sets (dq ((ops.toList.zip rs).take j) (T0,h0)).2):=by
        have hjl:j<(ops.toList.zip rs).length:=by rw [hzl];exact hlt
        have:(ops.toList.zip rs).take (j+1)=(ops.toList.zip rs).take j++[(o,r)]:=by
          rw [List.take_succ_eq_append_getElem hjl]
          have:=List.getElem?_eq_getElem hjl
          rw [hz] at this
          rw [←Option.some.inj this]
        rw [this,SP];rfl
      have newT:∀ t:Nat,(JJ (rV (fun i=>listed.getD i false) 0 (ops.toList.zip rs) (T0,h0)).1 o.dst r.v)[t]? = (rV (fun i=>(listed.setIfInBounds j true).getD i false) 0 (ops.toList.zip rs) (T0,h0)).1[t]?:=by
        intro t
        rw [K8]
        by_cases hdst:o.dst=some t
        · rw [if_pos hdst]
          have e1:=eqT t (by simp [qK,hdst])
          rw [e1]
          have e2:(rV (fun i=>(listed.setIfInBounds j true).getD i false) 0 (ops.toList.zip rs) (T0,h0)).1[t]? = (dq ((ops.toList.zip rs).take (j+1)) (T0,h0)).1[t]?:=by
            rw [←step1]
            refine abY _ 0 (fun k x hx hd2=>?_) rfl
            rw [Nat.zero_add,Nat.zero_add,L'eq]
            by_cases hkj:k=j
            · subst hkj;simp
            · rw [if_neg hkj]
              obtain ⟨n1,n2⟩:=napT x t hd2 (by simp [qK,hdst])
              rw [agree k x hx hkj n1 n2]
              by_cases q:k<j<;>simp [q]<;>omega
          rw [e2,hsplit,K8,if_pos hdst]
        · rw [if_neg hdst]
          refine abY _ 0 (fun k x hx hd2=>?_) rfl
          rw [Nat.zero_add,L'eq]
          by_cases hkj:k=j
          · subst hkj;rw [hz] at hx;cases hx;exact absurd hd2 hdst
          · rw [if_neg hkj]
      have newH:∀ b:Nat,bp (rV (fun i=>(listed.setIfInBounds j true).getD i false) 0 (ops.toList.zip rs) (T0,h0)).2 b=bp (cY r.sets (rV (fun i=>listed.getD i false) 0 (ops.toList.zip rs) (T0,h0)).2) b:=by
        intro b
        by_cases hb:b∈mn r.sets
        · rw [vq (h:=(rV (fun i=>listed.getD i false) 0 (ops.toList.zip rs) (T0,h0)).2) (h':=(dq ((ops.toList.zip rs).take j) (T0,h0)).2) r.sets (eqH b (by simp [hb]))]
          have e2:bp (rV (fun i=>(listed.setIfInBounds j true).getD i false) 0 (ops.toList.zip rs) (T0,h0)).2 b=bp (dq ((ops.toList.zip rs).take (j+1)) (T0,h0)).2 b:=by
            rw [←step1]
            refine abZ _ 0 (fun k x hx hd2=>?_) rfl
            rw [Nat.zero_add,Nat.zero_add,L'eq]
            by_cases hkj:k=j
            · subst hkj;simp
            · rw [if_neg hkj]
              obtain ⟨n1,n2⟩:=napH x b hd2 (by simp [hb])
              rw [agree k x hx hkj n1 n2]
              by_cases q:k<j<;>simp [q]<;>omega
          rw [e2,hsplit]
        · rw [vt _ hb]
          refine abZ _ 0 (fun k x hx hd2=>?_) rfl
          rw [Nat.zero_add,L'eq]
          by_cases hkj:k=j
          · subst hkj;rw [hz] at hx;cases hx;exact absurd hd2 hb
          · rw [if_neg hkj]
      have hS:j*ww+ww≤ops.size*ww:=by rw [←Nat.succ_mul];exact Nat.mul_le_mul_right _ hlt
      refine Pc hC hrun ho hloc hob hh (fun x h1 h2 hbad=>?_) (by omega) hT ?_
      · rcases hok _ hbad with q | ⟨i,q1,q2,q3⟩
        · omega
        · have:i=j:=aqD (y:=x-n0) (by omega) (by omega) (by omega) (by omega)
          subst this;rw [k1] at q1;cases q1
      intro ρ' w' a' E W hh' hd' hT' hok'
      have hlist:JJ (rV (fun i=>listed.getD i false) 0 (ops.toList.zip rs) (T0,h0)).1 o.dst r.v=(rV (fun i=>(listed.setIfInBounds j true).getD i false) 0 (ops.toList.zip rs) (T0,h0)).1:=List.ext_getElem? newT
      rw [hlist] at hT'
      refine ih (listed.setIfInBounds j true) (by simpa using hs) (fun i x hx hl e he hb=>?_) ?_ (hh'.congr newH) (fun b hb=>?_) hT' ?_
      · rw [L'eq] at hl ⊢
        by_cases hij:i=j
        · subst hij
          rw [ho] at hx;cases hx
          split
          · rfl
          · exact hpre e he hb
        · rw [if_neg hij] at hl
          split
          · rfl
          · exact hcl i x hx hl e he hb
      · have:=aam (l:=List.range ops.size) (j:=j) (p:=fun i=>!listed.getD i false) (q:=fun i=>!(listed.setIfInBounds j true).getD i false) (List.mem_range.2 hlt) (by simp only [k1];rfl) (by simp only [L'eq,if_true];rfl)
          (fun i hi=>by
            simp only [L'eq] at hi ⊢
            split at hi
            · cases hi
            · exact hi)
        omega
      · rcases hok' b hb with q | q
        · rcases hok b q with q | ⟨i,q1,q2⟩
          · exact .inl q
          · refine .inr ⟨i,?_,q2⟩
            rw [L'eq];split
            · rfl
            · exact q1
        · exact .inr ⟨j,by rw [L'eq,if_pos rfl],q⟩
      · intro ρ'' w'' a'' E' W' hh'' hd'' hT'' hb''
        exact hQ ρ'' w'' a'' (E.trans E' W.size) (W.trans W' (fun x hx q=>E.new x hx q)) hh'' (hd''.trans hd') hT'' (fun b q=>by
          rcases hb'' b q with q | q
          · rcases hok' b q with q | q
            · exact .inl q
            · exact .inr (by omega)
          · exact .inr q)
theorem Bz{d:aN}(h:d.kept=true) :d.foreign=true:=by
  cases d<;>first | rfl | exact jd h
mutual
def aan (g:Nat→Option aN):Nat→AV→AV
  | 0,_=>.any
  | n+1,v =>
    match v with
    | .ptr b w i j=>match g b with
      | some d=>let d':=FM g n d;bif d'.kept then .iptr .free d' w i j else .any
      | none=>.any
    | .sl b w es i len _=>match g b with
      | some d=>let d':=FM g n d;bif d'.kept then .imm .free d' w es i len else .any
      | none=>.any
    | .fn f l1 l2=>.fn f (S6 g n l1) (S6 g n l2)
    | .agg l=>.agg (S6 g n l)
    | .tup l=>.tup (S6 g n l)
    | .iface t v=>.iface t (aan g n v)
    | .yld _=>.any
    | v=>v
def S6 (g:Nat→Option aN):Nat→List AV→List AV
  | 0,l=>l.map fun _=>.any
  | n+1,l =>
    match l with
    | []=>[]
    | v::l=>aan g n v::S6 g n l
def FM (g:Nat→Option aN):Nat→aN→aN
  | 0,_=>.vs []
  | n+1,d =>
    match d with
    | .vs l=>.vs (S6 g n l)
    | d=>d
end
theorem S7(g:Nat→Option aN)(n:Nat)(d:aN)(h:d.recKept) :(FM g n d).recKept:=by
  cases n with
  | zero=>trivial
  | succ n=>cases d<;>first | exact h | trivial
structure ang (ρ τ:am):Prop where
  out:τ.out=ρ.out
  live:∀ bl,τ.live bl→ρ.live bl
theorem ang.avoid{ρ τ:am}(L:ang ρ τ){l:Lv}{bl:Nat}(h:ρ.avoid l bl) :τ.avoid l bl:=by
  refine CY (d:=0) (fun j _ q=>?_) h
  cases j with
  | zero=>exact L.live bl q
  | succ j=>simp only [Nat.add_zero,am.own] at q ⊢;rw [L.out] at q;exact q
theorem gz{ρ τ:am}(L:ang ρ τ){w:World}{v:AV}{u:Value}(h:VR ρ w v u) :v.foreign=true→VR τ w v u:=by
  induction h using VR.rec (motive_2:=fun l c _=>bN l=true→da τ w l c) with
  | int k n=>exact fun _=>.int k n
  | bool kn b=>exact fun _=>.bool kn b
  | flt ex x y h=>exact fun _=>.flt ex x y h
  | str s=>exact fun _=>.str s
  | nptr=>exact fun _=>.nptr
  | ptr b k i j hb=>intro hk;simp [AV.foreign] at hk
  | iptr bw d k i j bl o u ha hb hc hv hr hk hg ih=>exact fun _=>.iptr bw d k i j bl o u (L.avoid ha) hb hc (fun x v hx=>ih x v hx (bb hr hg x v hx)) hr hk hg
  | nsl=>exact fun _=>.nsl
  | esl a=>exact fun _=>.esl a
  | zsl a c=>exact fun _=>.zsl a c
  | nan n h=>exact fun _=>.nan n h
  | sl b k es i len cap cap' hb hcap hl c t hh hs=>intro hk;simp [AV.foreign] at hk
  | slEnd b k es i a=>intro hk;simp [AV.foreign] at hk
  | imm bw d k es i len cap bl o u ha hb hc hv hl hr hk hg ih=>exact fun _=>.imm bw d k es i len cap bl o u (L.avoid ha) hb hc (fun x v hx=>ih x v hx (bb hr hg x v hx)) hl hr hk hg
  | immEnd bw d k es i cap a hr hk hg=>exact fun _=>.immEnd bw d k es i cap a hr hk hg
  | fn f l1 l2 c1 c2 h1 h2 i1 i2=>intro hk;simp only [AV.foreign,Bool.and_eq_true] at hk;exact .fn f l1 l2 c1 c2 (i1 hk.1) (i2 hk.2)
  | nfn=>exact fun _=>.nfn
  | gmap ks vs bl es cl u ha hb hh hin hex hv hl hk ih=>exact fun _=>.gmap ks vs bl es cl u (L.avoid ha) hb hh hin hex (fun x v hx=>ih x v hx (jj (rL hk x v hx))) hl hk
  | gvar c bl t fr ha hb hh=>exact fun _=>.gvar c bl t fr (L.avoid ha) hb hh
  | agg l c h ih=>intro hk;exact .agg l c (ih hk)
  | tup l c h ih=>intro hk;exact .tup l c (ih hk)
  | iface t v u h ih=>intro hk;exact .iface t v u (ih hk)
  | niface=>exact fun _=>.niface
  | yld b L h=>intro hk;simp [AV.foreign] at hk
  | any u=>exact fun _=>.any u
  | nil=>exact da.nil
  | cons v u l c h t i1 i2=>rename_i hk;simp only [bN,Bool.and_eq_true] at hk;exact da.cons v u l c (i1 hk.1) (i2 hk.2)
mutual
theorem ab2 {ρ τ:am} (L:ang ρ τ) {w:World} {h:bO} {m:Nat} (hh:HR ρ w h m) (off:∀ b d,bp h b=some d→ρ.ok b→¬ τ.live (ρ.at_ b)):∀ (n:Nat) {v:AV} {u:Value},VR ρ w v u→VR τ w (aan (bp h) n v) u
  | 0,v,u,hv=>.any u
  | n + 1, v, u, hv => by
    have free:∀ (b:Nat) (d:aN),bp h b=some d→ρ.ok b→τ.avoid .free (ρ.at_ b):=by
      intro b d hd hok j _
      cases j with
      | zero=>exact off b d hd hok
      | succ j=>simp only [am.own];rw [L.out];exact hh.fresh _ (hh.real hd hok).1 j
    have content:∀ (b:Nat) (d:aN),bp h b=some d→ρ.ok b→∀ x v,(FM (bp h) n d).cell? x=some v→w.cell? ⟨ρ.at_ b,0+x,none⟩=some ((w.cell? ⟨ρ.at_ b,x,none⟩).getD undef)∧VR τ w v ((w.cell? ⟨ρ.at_ b,x,none⟩).getD undef):=by
      intro b d hd hok x v hx
      obtain ⟨_,hrk,c,t,hc,hcv⟩:=hh.real hd hok
      obtain ⟨u,q1,q2⟩:=af6 L hh off n (ρ.at_ b) (fun x v hx=>by
        obtain ⟨u,k1,k2⟩:=hcv x v hx
        exact ⟨u,by simp [World.cell?,hc,k1],k2⟩) hrk x v hx
      rw [Nat.zero_add,q1];exact ⟨rfl,q2⟩
    cases v with
    | ptr b k i j =>
      simp only [aan]
      split
      · rename_i d hd
        have hrk:=hh.rk hd
        cases hk:(FM (bp h) n d).kept with
        | false=>exact .any _
        | true =>
          simp only [cond_true]
          cases hv with | ptr _ _ _ _ hb =>
          have:=VR.iptr (ρ:=τ) (w:=w) .free (FM (bp h) n d) k i j (ρ.at_ b) 0 (fun x=>(w.cell? ⟨ρ.at_ b,x,none⟩).getD undef) (free b d hd hb) (hh.liveLt _ (hh.real hd hb).1)
            (fun x v hx=>(content b d hd hb x v hx).1) (fun x v hx=>(content b d hd hb x v hx).2) (S7 _ _ _ hrk) (fun _=>hk) (Bz hk)
          simpa using this
      · exact .any _
    | sl b k es i len cap =>
      simp only [aan]
      split
      · rename_i d hd
        have hrk:=hh.rk hd
        cases hk:(FM (bp h) n d).kept with
        | false=>exact .any _
        | true =>
          simp only [cond_true]
          cases hv with
          | sl _ _ _ _ _ _ cap' hb hcap hl' c t hh' hs =>
            have:=VR.imm (ρ:=τ) (w:=w) .free (FM (bp h) n d) k es i len cap' (ρ.at_ b) 0 (fun x=>(w.cell? ⟨ρ.at_ b,x,none⟩).getD undef) (free b d hd hb) (hh.liveLt _ (hh.real hd hb).1)
              (fun x v hx=>(content b d hd hb x v hx).1) (fun x v hx=>(content b d hd hb x v hx).2) (by omega) (S7 _ _ _ hrk) (fun _=>hk) (Bz hk)
            simpa using this
          | slEnd=>exact .immEnd _ _ _ _ _ _ _ (S7 _ _ _ hrk) (fun _=>hk) (Bz hk)
      · exact .any _
    | fn f l1 l2=>cases hv with | fn _ _ _ _ _ h1 h2=>exact .fn _ _ _ _ _ (zr L hh off n h1) (zr L hh off n h2)
    | agg l=>cases hv with | agg _ _ h1=>exact .agg _ _ (zr L hh off n h1)
    | tup l=>cases hv with | tup _ _ h1=>exact .tup _ _ (zr L hh off n h1)
    | iface t v=>cases hv with | iface _ _ _ h1=>exact .iface _ _ _ (ab2 L hh off n h1)
    | int=>exact gz L hv rfl
    | bool=>exact gz L hv rfl
    | flt=>exact gz L hv rfl
    | str=>exact gz L hv rfl
    | nptr=>exact gz L hv rfl
    | iptr=>exact gz L hv rfl
    | nsl=>exact gz L hv rfl
    | esl=>exact gz L hv rfl
    | zsl=>exact gz L hv rfl
    | nan=>exact gz L hv rfl
    | imm=>exact gz L hv rfl
    | nfn=>exact gz L hv rfl
    | gmap=>exact gz L hv rfl
    | gvar=>exact gz L hv rfl
    | niface=>exact gz L hv rfl
    | yld=>exact .any _
    | any=>exact .any _
theorem zr {ρ τ:am} (L:ang ρ τ) {w:World} {h:bO} {m:Nat} (hh:HR ρ w h m) (off:∀ b d,bp h b=some d→ρ.ok b→¬ τ.live (ρ.at_ b)):∀ (n:Nat) {l:List AV} {c:List Value},da ρ w l c→da τ w (S6 (bp h) n l) c
  | 0,[],c,hv=>by cases hv;exact .nil
  | 0,v::l,c,hv=>by
    cases hv with | cons _ u _ c' h1 h2 =>
    have:=zr L hh off 0 h2
    exact .cons _ _ _ _ (.any u) this
  | n+1,[],c,hv=>by cases hv;exact .nil
  | n+1,v::l,c,hv=>by
    cases hv with | cons _ u _ c' h1 h2=>exact .cons _ _ _ _ (ab2 L hh off n h1) (zr L hh off n h2)
theorem af6 {ρ τ:am} (L:ang ρ τ) {w:World} {h:bO} {m:Nat} (hh:HR ρ w h m) (off:∀ b d,bp h b=some d→ρ.ok b→¬ τ.live (ρ.at_ b)):∀ (n:Nat) (bl:Nat) {d:aN},(∀ x v,d.cell? x=some v→∃ u,w.cell? ⟨bl,x,none⟩=some u∧VR ρ w v u)→d.recKept →
    ∀ x v,(FM (bp h) n d).cell? x=some v→∃ u,w.cell? ⟨bl,x,none⟩=some u∧VR τ w v u
  | 0,bl,d,hc,hr,x,v,hx=>by simp [FM,aN.cell?] at hx
  | n + 1, bl, d, hc, hr, x, v, hx => by
    cases d with
    | vs l =>
      simp only [FM,aN.cell?] at hx
      have hus:da ρ w l ((List.range l.length).map fun x=>(w.cell? ⟨bl,x,none⟩).getD undef):=by
        refine zl (by simp) fun y v u q1 q2=>?_
        obtain ⟨u',k1,k2⟩:=hc y v q1
        have hlt:y<l.length:=(List.getElem?_eq_some_iff.1 q1).1
        rw [List.getElem?_map,List.getElem?_range hlt] at q2
        simp [k1] at q2;subst q2;exact k2
      have hr2:=zr L hh off n hus
      obtain ⟨u,q1,q2⟩:=hr2.get x v hx
      rw [List.getElem?_map] at q1
      have hlt:x<l.length:=by
        rcases Nat.lt_or_ge x l.length with q | q
        · exact q
        · rw [List.getElem?_eq_none (by simpa using q)] at q1;cases q1
      rw [List.getElem?_range hlt] at q1
      obtain ⟨u',k1,_⟩:=hc x (l[x]) (List.getElem?_eq_getElem hlt)
      simp [k1] at q1;subst q1
      exact ⟨u',k1,q2⟩
    | fl xs=>obtain ⟨u,q1,q2⟩:=hc x v hx;exact ⟨u,q1,gz L q2 (bb (d:=.fl xs) hr rfl x v hx)⟩
    | ns k xs=>obtain ⟨u,q1,q2⟩:=hc x v hx;exact ⟨u,q1,gz L q2 (bb (d:=.ns k xs) hr rfl x v hx)⟩
    | bs xs=>obtain ⟨u,q1,q2⟩:=hc x v hx;exact ⟨u,q1,gz L q2 (bb (d:=.bs xs) hr rfl x v hx)⟩
    | ss xs=>obtain ⟨u,q1,q2⟩:=hc x v hx;exact ⟨u,q1,gz L q2 (bb (d:=.ss xs) hr rfl x v hx)⟩
    | rows k m get=>obtain ⟨u,q1,q2⟩:=hc x v hx;exact ⟨u,q1,gz L q2 (bb (d:=.rows k m get) hr rfl x v hx)⟩
    | cols k cs=>obtain ⟨u,q1,q2⟩:=hc x v hx;exact ⟨u,q1,gz L q2 (bb (d:=.cols k cs) hr rfl x v hx)⟩
end
mutual
def nmA (σ:Nat→Option Nat):AV→AV
  | .ptr b w i j=>match σ b with | some c=>.ptr c w i j | none=>.any
  | .sl b w es i len cap=>match σ b with | some c=>.sl c w es i len cap | none=>.any
  | .fn f l1 l2=>.fn f (nmL σ l1) (nmL σ l2)
  | .agg l=>.agg (nmL σ l)
  | .tup l=>.tup (nmL σ l)
  | .iface t v=>.iface t (nmA σ v)
  | .yld _=>.any
  | v=>v
def nmL (σ:Nat→Option Nat):List AV→List AV
  | []=>[]
  | v::l=>nmA σ v::nmL σ l
end
def am.renamed(ρ:am)(keep:List Nat) :am :=
  { at_:=fun i=>ρ.at_ ((keep[i]?).getD 0),live:=ρ.live,out:=ρ.out,ok:=fun i=>∃ b,keep[i]? = some b∧ρ.ok b,pin:=ρ.pin }
mutual
theorem aao {ρ:am} {keep:List Nat} {w:World}:∀ (v:AV) {u:Value},VR ρ w v u→VR (ρ.renamed keep) w (nmA (pw keep 0) v) u
  | .ptr b k i j,u,h=>by
    simp only [nmA]
    split
    · rename_i c hc
      cases h with | ptr _ _ _ _ hb =>
      obtain ⟨_,hg⟩:=HB hc
      rw [Nat.sub_zero] at hg
      have:(ρ.renamed keep).at_ c=ρ.at_ b:=by simp [am.renamed,hg]
      rw [←this];exact .ptr _ _ _ _ ⟨b,hg,hb⟩
    · exact .any u
  | .sl b k es i len cap,u,h=>by
    simp only [nmA]
    split
    · rename_i c hc
      obtain ⟨_,hg⟩:=HB hc
      rw [Nat.sub_zero] at hg
      have e:(ρ.renamed keep).at_ c=ρ.at_ b:=by simp [am.renamed,hg]
      cases h with
      | sl _ _ _ _ _ _ cap' hb hcap hl ce t hh hs=>rw [←e] at hh ⊢;exact .sl _ _ _ _ _ _ _ ⟨b,hg,hb⟩ hcap hl ce t hh hs
      | slEnd=>exact .slEnd _ _ _ _ _
    · exact .any u
  | .fn f l1 l2,u,h=>by cases h with | fn _ _ _ _ _ h1 h2=>exact .fn _ _ _ _ _ (S8 l1 h1) (S8 l2 h2)
  | .agg l,u,h=>by cases h with | agg _ _ h1=>exact .agg _ _ (S8 l h1)
  | .tup l,u,h=>by cases h with | tup _ _ h1=>exact .tup _ _ (S8 l h1)
  | .iface t v,u,h=>by cases h with | iface _ _ _ h1=>exact .iface _ _ _ (aao v h1)
  | .int ..,u,h=>gA h rfl
  | .bool ..,u,h=>gA h rfl
  | .flt ..,u,h=>gA h rfl
  | .str ..,u,h=>gA h rfl
  | .nptr,u,h=>gA h rfl
  | .iptr ..,u,h=>gA h rfl
  | .nsl,u,h=>gA h rfl
  | .esl,u,h=>gA h rfl
  | .zsl _,u,h=>gA h rfl
  | .nan,u,h=>gA h rfl
  | .imm ..,u,h=>gA h rfl
  | .nfn,u,h=>gA h rfl
  | .gmap ..,u,h=>gA h rfl
  | .gvar _,u,h=>gA h rfl
  | .niface,u,h=>gA h rfl
  | .yld _,u,h=>.any u
  | .any,u,h=>.any u
theorem S8 {ρ:am} {keep:List Nat} {w:World}:∀ (l:List AV) {c:List Value},da ρ w l c→da (ρ.renamed keep) w (nmL (pw keep 0) l) c
  | [],c,h=>by cases h;exact .nil
  | v::l,c,h=>by cases h with | cons _ u _ c' h1 h2=>exact .cons _ _ _ _ (aao v h1) (S8 l h2)
theorem gA {ρ:am} {keep:List Nat} {w:World} {v:AV} {u:Value} (h:VR ρ w v u) (hf:v.foreign=true):VR (ρ.renamed keep) w v u :=
  gz (ρ:=ρ) (τ:=ρ.renamed keep) ⟨rfl,fun _ q=>q⟩ h hf
end
theorem mR.renamed{ρ:am}{keep:List Nat}{w:World} :∀ {ds:List Deferred},mR ρ w ds→mR (ρ.renamed keep) w ds
  | [],h=>h
  | d::ds,⟨h1,h⟩=>⟨h1,mR.renamed h⟩
def reB(σ:Nat→Option Nat) :aN→aN
  | .vs l=>.vs (nmL σ l)
  | d=>d
theorem ab3(σ:Nat→Option Nat) :∀ (l:List AV) (x:Nat),(nmL σ l)[x]? = (l[x]?).map (nmA σ)
  | [],x=>by simp [nmL]
  | v::l,0=>by simp [nmL]
  | v::l,x+1=>by simp [nmL,ab3 σ l x]
theorem aoO{σ:Nat→Option Nat}{d:aN}(h:d.recKept) :(reB σ d).recKept:=by
  cases d<;>first | exact h | trivial
theorem af7{σ:Nat→Option Nat}{d:aN}{x:Nat}{v:AV}(h:(reB σ d).cell? x=some v)(hr:d.recKept) :∃ v',d.cell? x=some v'∧(v=nmA σ v'∨(v=v'∧v.foreign=true)):=by
  cases d with
  | vs l =>
    simp only [reB,aN.cell?,ab3,Option.map_eq_some_iff] at h
    obtain ⟨v',h1,rfl⟩:=h
    exact ⟨v',h1,.inl rfl⟩
  | fl xs=>exact ⟨v,h,.inr ⟨rfl,bb (d:=.fl xs) hr rfl x v h⟩⟩
  | ns k xs=>exact ⟨v,h,.inr ⟨rfl,bb (d:=.ns k xs) hr rfl x v h⟩⟩
  | bs xs=>exact ⟨v,h,.inr ⟨rfl,bb (d:=.bs xs) hr rfl x v h⟩⟩
  | ss xs=>exact ⟨v,h,.inr ⟨rfl,bb (d:=.ss xs) hr rfl x v h⟩⟩
  | rows k m get=>exact ⟨v,h,.inr ⟨rfl,bb (d:=.rows k m get) hr rfl x v h⟩⟩
  | cols m cs=>exact ⟨v,h,.inr ⟨rfl,bb (d:=.cols m cs) hr rfl x v h⟩⟩
def al9(k:Nat)(R:List Nat) :List Nat:=List.range k++R.filter fun b=>Nat.ble k b
theorem anh{k i:Nat}{R:List Nat}(h:i<k) :(al9 k R)[i]? = some i:=by
  unfold al9
  rw [List.getElem?_append_left (by simpa using h),List.getElem?_range h]
def wz(σ:Nat→Option Nat)(h:bO) :List Nat→List (Option aN)
  | []=>[]
  | b::l=>(bp h b).map (reB σ)::wz σ h l
theorem yj(σ:Nat→Option Nat)(h:bO) :∀ (l:List Nat) (i:Nat),(wz σ h l)[i]? = (l[i]?).map fun b=>(bp h b).map (reB σ)
  | [],i=>by simp [wz]
  | b::l,0=>by simp [wz]
  | b::l,i+1=>by simp [wz,yj σ h l i]
theorem wX(σ:Nat→Option Nat)(h:bO) :∀ (l:List Nat),(wz σ h l).length=l.length
  | []=>rfl
  | b::l=>by simp [wz,wX σ h l]
def S9(k:Nat)(keep:Bool)(h:bO)(v:AV) :Option fU :=
  match keep,k with
  | true,0=>some ⟨aan (bp h) jY v,[]⟩
  | _,_ =>
    let L:=al9 k (pO (bp h) jY (List.range k++abS v) [])
    bif Dd L then some ⟨nmA (pw L 0) v,wz (pw L 0) h L⟩ else none
theorem af8{ρ ρ0:am}{w0 w:World}{h:bO}{m:Nat}{lent:List aN}{keep:Bool}(hh:HR ρ w h m)(hN:km ρ0 w0 lent)(E:oa ρ0 ρ w0)(hbk:∀ i,i<lent.length→ρ.ok i→ρ0.ok i)(W:w0.heap.size≤w.heap.size){v:AV}{u:Value}(hv:VR ρ w v u){r:fU} 
    (hr:S9 lent.length keep h v=some r):r.Holds ρ0 w0 w lent.length u:=by
  unfold S9 at hr
  split at hr
  · rename_i k hk
    cases hr
    have none_ok:∀ b,¬ ρ0.ok b:=fun b q=>by have:=hN.heap.lt b q;omega
    have none_live:∀ bl,¬ ρ0.live bl:=fun bl q=>by obtain ⟨i,h1,_⟩:=hN.only bl q;exact none_ok i h1
    refine ⟨ρ0,oa.refl _ _,fun i h=>by omega,⟨fun b d q=>?_,fun b c d e q=>?_,fun bl q=>(none_live bl q).elim,fun bl q=>(none_live bl q).elim,fun j bl q=>?_,fun b q=>(none_ok b q).elim,fun x hx=>gz (τ:=ρ0) ⟨E.out.symm,fun bl q=>(none_live bl q).elim⟩ (hh.rom x hx) (jj (Rom.kept x hx))⟩,?_⟩
    · simp [fZ,gu,eP] at q
    · simp [fZ,gu,eP] at q
    · exact Nat.lt_of_lt_of_le (hN.heap.outLt j bl q) W
    · exact ab2 (τ:=ρ0) ⟨E.out.symm,fun bl q=>(none_live bl q).elim⟩ hh (fun _ _ _ _ q=>none_live _ q) jY hv
  · simp only at hr
    generalize hL:al9 lent.length (pO (bp h) jY (List.range lent.length++abS v) [])=L at hr
    cases hn:Dd L with
    | false=>rw [hn] at hr;cases hr
    | true =>
    rw [hn] at hr
    simp only [cond_true,Option.some.injEq] at hr;subst hr
    have idL:∀ {i:Nat},i<lent.length→L[i]? = some i:=fun q=>by rw [←hL];exact anh q
    have atL:∀ {i b:Nat},L[i]? = some b→(ρ.renamed L).at_ i=ρ.at_ b:=fun q=>by simp [am.renamed,q]
    refine ⟨ρ.renamed L,⟨fun b q=>?_,fun b q=>?_,E.live,E.new,E.out,E.pin⟩,fun i hi q=>?_,⟨fun i d q=>?_,fun i j d e q1 q2 ok1 ok2 he=>?_,hh.fresh,hh.liveLt,hh.outLt,fun i q=>?_,fun x hx=>gA (hh.rom x hx) (jj (Rom.kept x hx))⟩,aao v hv⟩
    · rw [atL (idL (hN.heap.lt b q))];exact E.at_ b q
    · exact ⟨b,idL (hN.heap.lt b q),E.ok b q⟩
    · obtain ⟨b,h1,h2⟩:=q
      rw [idL hi] at h1;cases h1
      exact hbk i hi h2
    · have q:=nK q
      simp only at q
      rw [yj,Option.map_eq_some_iff] at q
      obtain ⟨b,h1,h2⟩:=q
      rw [Option.map_eq_some_iff] at h2
      obtain ⟨d0,h3,rfl⟩:=h2
      rcases hh.cell b d0 h3 with ⟨k1,k2,hr,c,t,r1,r2⟩ | ⟨k1,k2,k3,k4⟩
      · refine .inl ⟨⟨b,h1,k1⟩,by rw [atL h1];exact k2,aoO hr,c,t,by rw [atL h1];exact r1,fun x v hx=>?_⟩
        obtain ⟨v',s1,s2⟩:=af7 hx hr
        obtain ⟨u,t1,t2⟩:=r2 x v' s1
        refine ⟨u,t1,?_⟩
        rcases s2 with rfl | ⟨rfl,hf⟩
        · exact aao v' t2
        · exact gA t2 hf
      · refine .inr ⟨?_,?_,aoO k3,fun x=>?_⟩
        · rintro ⟨b',q1,q2⟩
          rw [h1] at q1;cases q1
          exact k1 q2
        · rw [wX];exact (List.getElem?_eq_some_iff.1 h1).1
        · cases hc:(reB (pw L 0) d0).cell? x with
          | none=>rfl
          | some v=>obtain ⟨v',s1,_⟩:=af7 hc k3;rw [k4 x] at s1;cases s1
    · obtain ⟨b,r1,r2⟩:=ok1
      obtain ⟨c,r3,r4⟩:=ok2
      have q1:=nK q1
      have q2:=nK q2
      simp only at q1 q2
      rw [yj,r1] at q1
      rw [yj,r3] at q2
      simp only [Option.map_some,Option.some.injEq,Option.map_eq_some_iff] at q1 q2
      obtain ⟨d1,s1,_⟩:=q1
      obtain ⟨d2,s2,_⟩:=q2
      rw [atL r1,atL r3] at he
      have:=hh.inj b c d1 d2 s1 s2 r2 r4 he
      subst this
      exact De hn r1 r3
    · obtain ⟨b,r1,_⟩:=q
      simp only [wX]
      exact (List.getElem?_eq_some_iff.1 r1).1
inductive AE where
  | normal
  | ret
  | exit (id:Nat)
def AE.real:AE→Exit
  | .normal=>.normal
  | .ret=>.ret
  | .exit id=>.exit id
abbrev Res:=Option (AE×aC×List Bool×fD)
abbrev Dj:=Code→aC→fD→Res
def iX:Code→Bool
  | .rangeFunc .. | .scope _=>false
  | .seq a b | .cond _ a b=>iX a&&iX b
  | .block _ a | .loop a=>iX a
  | _=>true
def FO(y:Option YI) :List vo→Bool
  | []=>true
  | r::l=>zq y r.sets&&FO y l
def NM(C:CB)(run:gn)(y:Option YI)(yr:ane)(ops:Array Oper)(draw:Bool)(st:aC)(p:fD) :Res :=
  match draw with
  | false =>
    match NI C run y yr ops st.next 0 ops.toList st.tmps st.heap (st.next+ops.size*ww) p with
    | some (T,h,nx,obs,p')=>some (.normal,⟨T,h,nx⟩,obs,p')
    | none=>none
  | true =>
    match S5 C run ops st.next 0 ops.toList st.tmps st.heap p with
    | some (rs,T,h,obs,p')=>bif K9 ops rs&&FO y rs then some (.normal,⟨T,h,st.next+ops.size*ww⟩,obs,p') else none
    | none=>none
def zt(T:List AV)(c:Operand)(b:Bool) :List AV :=
  match c with
  | .tmp t=>amY T t (.bool true b)
  | _=>T
def R8(body:aC→fD→Res) :Nat→aC→fD→Res
  | 0,_,_=>none
  | n+1,st,p =>
    match body st p with
    | some (.normal,st1,o1,p1) =>
      match R8 body n st1 p1 with
      | some (e,IZ,o2,p2)=>some (e,IZ,o1++o2,p2)
      | none=>none
    | r=>r
abbrev sj:=Option YI→Dj
def JO:List AV→List Tmp→List AV→List AV
  | T,p::ps,v::vs=>JO (amY T p v) ps vs
  | T,_,_=>T
def HG:Option aN→Bool
  | some (.vs [])=>true
  | _=>false
def arP(self:sj)(y:Option YI) :ane:=fun args h nx p =>
  match y with
  | none=>none
  | some yi =>
    bif HG (bp h yi.b)&&(Nat.beq args.length yi.ps.size&&(iX yi.assign&&iX yi.body)) then
      match self none yi.assign ⟨JO yi.saved yi.ps.toList args,h,nx⟩ p with
      | some (.normal,st1,o1,p1) =>
        match self none yi.body st1 p1 with
        | some (e,IZ,o2,p2) =>
          bif HG (bp IZ.heap yi.b) then
            match e with
            | .normal=>some (.bool true true,IZ.heap,IZ.next,o1++o2,p2)
            | .ret=>some (.bool true false,fB IZ.heap yi.b (.fl []),IZ.next,o1++o2,p2)
            | .exit id=>some (.bool true false,fB IZ.heap yi.b (.rows id 0 fun _ _=>.nptr),IZ.next,o1++o2,p2)
          else none
        | none=>none
      | _=>none
    else none
def NN:Option (LoopState×Option Code)→Option AE
  | some (.ready,none)=>some .normal
  | some (.done,some .ret)=>some .ret
  | some (.done,some (.exit id))=>some (.exit id)
  | _=>none
def Ta(C : CB)(self : sj)(g : Operand)(ps : Array Tmp)(assign body : Code)(st : aC)(p : fD) : Res :=
  match evA st.tmps g with
  | .fn (.func gf) first caps =>
    match C.P.funcs[gf]? with
    | some fn =>
      match fn.body with
      | some c =>
        bif iX c&&fn.results.isEmpty then
          match self (some ⟨st.next,st.tmps,ps,assign,body⟩) c ⟨(first ++ .yld st.next::caps)++List.replicate (fn.ntmps-(first ++ .yld st.next::caps).length) (.tup []),fB st.heap st.next (.vs []),st.next+1⟩ p with
          | some (.exit _,_,_,_)=>none
          | some (_,st1,o1,p1) =>
            bif NH st1.heap then
              match NN (K5 (bp st1.heap st.next)) with
              | some e=>some (e,⟨st.tmps,Ft st1.heap st.next,st1.next⟩,o1,p1)
              | none=>none
            else none
          | none=>none
        else none
      | none=>none
    | none=>none
  | _=>none
def NO(C:CB)(run:gn)(N:Nat)(selfY:sj)(y:Option YI)(c:Code)(st:aC)(p:fD) :Res :=
  let self:=selfY y
  match c with
  | .skip | .label _=>some (.normal,st,[],p)
  | .region _ ops draw=>NM C run y (arP selfY y) ops draw st p
  | .seq a b =>
    match self a st p with
    | some (.normal,st1,o1,p1) =>
      match self b st1 p1 with
      | some (e,IZ,o2,p2)=>some (e,IZ,o1++o2,p2)
      | none=>none
    | r=>r
  | .cond c a b =>
    match R3 (evA st.tmps c) p with
    | some (x,o1,p1) =>
      match self (match x with | true=>a | false=>b) { st with tmps:=zt st.tmps c x } p1 with
      | some (e,IZ,o2,p2)=>some (e,IZ,o1++o2,p2)
      | none=>none
    | none=>none
  | .block id b =>
    match self b st p with
    | some (.exit id',st1,o1,p1)=>bif Nat.beq id' id then some (.normal,st1,o1,p1) else some (.exit id',st1,o1,p1)
    | r=>r
  | .loop b=>R8 (self b) N st p
  | .exit id=>some (.exit id,st,[],p)
  | .ret=>some (.ret,st,[],p)
  | .scope b=>self b st p
  | .rangeFunc g ps assign body=>match y with
    | none=>Ta C selfY g ps assign body st p
    | some _=>none
  | _=>none
structure wA where
  out:fU
  obs:List Bool
def aoP(alts:List wA)(p:fD) :Option (wA×fD) :=
  match alts,p with
  | [a],p=>some (a,p)
  | alts,none=>(alts.find? fun a=>abR a.obs).map fun a=>(a,none)
  | alts,some (k::r)=>(alts[k]?).map fun a=>(a,some r)
  | _,_=>none
theorem ani{alts:List wA}{p p':fD}{a:wA}(h:aoP alts p=some (a,p')) :a∈alts:=by
  unfold aoP at h
  split at h
  · simp only [Option.some.injEq,Prod.mk.injEq] at h;rw [←h.1];simp
  · simp only [Option.map_eq_some_iff,Prod.mk.injEq] at h;obtain ⟨b,h1,rfl,_⟩:=h;exact List.mem_of_find?_eq_some h1
  · simp only [Option.map_eq_some_iff,Prod.mk.injEq] at h;obtain ⟨b,h1,rfl,_⟩:=h;exact List.mem_of_getElem? h1
  · cases h
abbrev FP:=FuncId→List aN→List AV→Option (List wA)
def mV(P:Program)(fn:Func)(st:aC) :List ResultVar→Option (List AV×List Bool)
  | []=>some ([],[])
  | .tmp t::l =>
    match mV P fn st l with
    | some (vs,o)=>some (amX st.tmps t::vs,o)
    | none=>none
  | .cell a t::l =>
    match Il P (bp st.heap) t (amX st.tmps a),mV P fn st l with
    | some (v,o,_),some (vs,o')=>some (v::vs,o++o')
    | _,_=>none
def NP:List AV→AV
  | [v]=>v
  | vs=>.tup vs
def vu(fn:Func)(lent:List aN)(args:List AV) :aC:=⟨args++List.replicate (fn.ntmps-args.length) (.tup []),fZ 0 (lent.map some),lent.length⟩
def wB(C : CB)(S : FP)(self : Dj) : gn := fun f lent args p =>
  match S f lent args with
  | some alts=>(aoP alts p).map fun r=>(r.1.out,r.1.obs,r.2)
  | none =>
    match C.P.funcs[f]? with
    | some fn =>
      match fn.body with
      | some c =>
        match self c (vu fn lent args) p with
        | some (e,st,o1,p1) =>
          match e,mV C.P fn st fn.results.toList with
          | .exit _,_=>none
          | _,some (vs,o2) =>
            match S9 lent.length (C.mode f).keep st.heap (NP vs) with
            | some r=>some (r,o1++o2,p1)
            | none=>none
          | _,none=>none
        | none=>none
      | none=>none
    | none=>none
def La(C:CB)(S:FP)(N:Nat) :Nat→sj
  | 0=>fun _ _ _ _=>none
  | n+1=>NO C (wB C S (La C S N n none)) N (La C S N n)
def kB(C:CB)(S:FP)(N:Nat)(n:Nat) :Dj:=La C S N n none
def ai(P:Program)(f:FuncId)(lent:List aN)(args:List AV)(r:fU) :Prop :=
  ∀ (ρ:am) (w:World) (us:List Value),km ρ w lent→da ρ w args us →
    (∃ fn,P.funcs[f]? = some fn∧fn.body.isSome=true)∧Calls P f us.toArray w fun e w'=>∃ u,e=.returned u∧jX ρ.live w w'∧r.Holds ρ w w' lent.length u
def aJ(P:Program)(S:FP) :Prop:=∀ f lent args alts a,S f lent args=some alts→a∈alts→aH a.obs→ai P f lent args a.out
def ab4(P:Program)(self:Dj) :Prop :=
  ∀ c st p e st' obs p',self c st p=some (e,st',obs,p')→aH obs→∀ (ρ:am) (a:Act) (w:World) (Q:Exit→Act→World→Prop),ρ.pin.2=none→SR ρ st a w →
    (∀ ρ' a' w',SL ρ w st.next st' ρ' a' w'→Q e.real a' w')→c.wp P Q a w
theorem SL.trans{ρ ρ1 ρ2:am}{w w1 w2:World}{n:Nat}{st1 IZ:aC}{a1 a2:Act}(h:SL ρ w n st1 ρ1 a1 w1)(k:SL ρ1 w1 st1.next IZ ρ2 a2 w2) :SL ρ w n IZ ρ2 a2 w2 :=
  ⟨h.ext.trans k.ext h.wle.size,h.wle.trans k.wle (fun x hx q=>h.ext.new x hx q),k.sr,Nat.le_trans h.le k.le,fun b q=>by
    rcases k.back b q with q | q
    · exact h.back b q
    · exact .inr (Nat.le_trans h.le q)⟩
theorem SL.refl{ρ:am}{w:World}{st:aC}{a:Act}(h:SR ρ st a w) :SL ρ w st.next st ρ a w:=⟨oa.refl _ _,jX.refl _ _,h,Nat.le_refl _,fun b q=>.inl q⟩
theorem anj(n:Nat) :List.range n=List.range' 0 n:=List.range_eq_range'
theorem af9(fn:Func)(tmps:Array Value) :results fn tmps=(do let vs ← fn.results.mapM (fun | .tmp t=>pure (tmps.getD t undef) | .cell x t=>do loadVar t (←asAddr (tmps.getD x undef)));pure (if h:vs.size=1 then vs[0] else .tuple vs)):=by
  unfold results
  congr 1
structure um (y:Option YI) (ρ:am) (w:World) (n:Nat) (st:aC) (ρ':am) (a':Act) (w':World):Prop where
  stp:R4 y ρ w ρ' w'
  sr:SR ρ' st a' w'
  le:n≤st.next
  back:∀ b,ρ'.ok b→ρ.ok b∨n≤b
  pin:wy y ρ' w' st.heap st.next
theorem um.old{ρ:am}{w:World}{n:Nat}{st:aC}{ρ':am}{a':Act}{w':World}(h:um none ρ w n st ρ' a' w') :SL ρ w n st ρ' a' w':=⟨h.stp.ext,h.stp.live,h.sr,h.le,h.back⟩
theorem um.trans{y:Option YI}{ρ ρ1 ρ2:am}{w w1 w2:World}{n:Nat}{st1 IZ:aC}{a1 a2:Act}(h:um y ρ w n st1 ρ1 a1 w1)(k:um y ρ1 w1 st1.next IZ ρ2 a2 w2) :um y ρ w n IZ ρ2 a2 w2 :=
  ⟨h.stp.trans k.stp,k.sr,Nat.le_trans h.le k.le,fun b q=>by
    rcases k.back b q with q | q
    · exact h.back b q
    · exact .inr (Nat.le_trans h.le q),k.pin⟩
theorem um.refl{y:Option YI}{ρ:am}{w:World}{st:aC}{a:Act}(h:SR ρ st a w)(hp:wy y ρ w st.heap st.next) :um y ρ w st.next st ρ a w:=⟨R4.refl _ _ _,h,Nat.le_refl _,fun b q=>.inl q,hp⟩
def May(c:Code)(ro:Option Nat)(y:Option YI)(ρ:am) :Prop:=iX c=true∨(ro=none∧y=none∧ρ.pin.2=none)
def Dk(P:Program)(self:sj) :Prop :=
  ∀ y c st p e st' obs p',self y c st p=some (e,st',obs,p')→aH obs→∀ (ro:Option Nat) (nn:Nat) (ρ:am) (a:Act) (w:World) (Q:Exit→Act→World→Prop),May c ro y ρ→SR ρ st a w→wy y ρ w st.heap st.next →
    (∀ ρ' a' w',um y ρ w st.next st' ρ' a' w'→Q e.real a' w')→c.wpIn (FW ro) nn P Q a w
theorem May.ext{c:Code}{ro:Option Nat}{y:Option YI}{ρ ρ':am}{w:World}(h:May c ro y ρ)(E:oa ρ ρ' w) :May c ro y ρ':=h.imp id fun ⟨a,b,c⟩=>⟨a,b,by rw [E.pin];exact c⟩
theorem May.sub{c d:Code}{ro:Option Nat}{y:Option YI}{ρ:am}(h:May c ro y ρ)(k:iX c=true→iX d=true) :May d ro y ρ:=h.imp k id
theorem R9{ρ:am}{w:World} :∀ {ds:List Deferred},mR ρ w ds→ρ.pin.1≤w.heap.size
  | [],h=>h
  | _::_,⟨_,h⟩=>R9 h
theorem aap{ρ:am}{w:World} :∀ {ds:List Deferred},mR ρ w ds→∀ e∈ds,e ≠ { target:=.collected w.heap.size,args:=#[] }
  | [],_,e,he=>by cases he
  | d::ds,⟨⟨D,h1,hb,h2,h3,h4,h5⟩,h⟩,e,he=>by
    rcases List.mem_cons.1 he with rfl | q
    · intro e;rw [h1] at e
      have e:Target.collected D=.collected w.heap.size:=congrArg Deferred.target e
      simp only [Target.collected.injEq] at e
      omega
    · exact aap h e q
theorem Lb{y:Option YI} :∀ {l:List vo},FO y l=true→∀ r∈l,zq y r.sets=true
  | [],_,r,h=>by cases h
  | x::l,hk,r,h=>by
    simp only [FO,Bool.and_eq_true] at hk
    rcases List.mem_cons.1 h with rfl | q
    · exact hk.1
    · exact Lb hk.2 r q
theorem Lc{y:Option YI} :∀ (l:List (Oper×vo)) (s:List AV×bO),(∀ x∈l,zq y x.2.sets=true)→∀ yi,y=some yi→bp (dq l s).2 yi.b=bp s.2 yi.b
  | [],s,_,yi,_=>rfl
  | x::l,s,h,yi,e=>by
    simp only [dq]
    rw [Lc l _ (fun z hz=>h z (by simp [hz])) yi e]
    exact K6 (h x (by simp)) s.2 yi e
theorem ab5{C:CB}(hC:C.Ok){run:gn}(hrun:SG C.P run){y:Option YI}{yr:ane}(hyr:ajJ C.P y yr){id:Nat}{ops:Array Oper}{draw:Bool}{st st':aC}{p p':fD}{e:AE}{obs:List Bool}(h:NM C run y yr ops draw st p=some (e,st',obs,p')) 
    (ho:aH obs) {ro:Option Nat} {nn:Nat} {ρ:am} {a:Act} {w:World} {Q:Exit→Act→World→Prop} (hs:SR ρ st a w) (hp:wy y ρ w st.heap st.next) (hQ:∀ ρ' a' w',um y ρ w st.next st' ρ' a' w'→Q e.real a' w'):(Code.region id ops draw).wpIn (FW ro) nn C.P Q a w:=by
  unfold NM at h
  cases draw with
  | false =>
    simp only at h
    split at h
    case h_2=>cases h
    rename_i T hp' nx obs' p1 hr
    simp only [Option.some.injEq,Prod.mk.injEq] at h;obtain ⟨rfl,rfl,rfl,rfl⟩:=h
    refine wpIn_region ?_
    rw [anj,←Array.length_toList]
    refine Dh hC hrun hyr ops.toList 0 (fun j=>by simp) hr ho (hs.heap.le (by omega)) (Nat.le_refl _) hp (R9 hs.defers) (fun b hb=>.inl (by have:=hs.heap.lt b hb;omega)) hs.tmps ?_
    intro ρ' w' a' S hh hle hpin hd hT hb
    exact hQ ρ' a' w' ⟨S,⟨by rw [hd];exact S.marks _ hs.defers,hT,hh⟩,by show st.next≤nx;omega,hb,hpin.le (by show st.next≤nx;omega)⟩
  | true =>
    simp only at h
    split at h
    case h_2=>cases h
    rename_i rs T hp' obs' p1 hr
    cases hd:(K9 ops rs&&FO y rs) with
    | false=>rw [hd] at h;cases h
    | true =>
      rw [hd] at h
      rw [Bool.and_eq_true] at hd
      simp only [cond_true,Option.some.injEq,Prod.mk.injEq] at h;obtain ⟨rfl,rfl,rfl,rfl⟩:=h
      obtain ⟨s1,s2,s3⟩:=Pg _ _ hr ho
      obtain ⟨ms,D⟩:=Pd (ops.toList.zip rs) [] [] rfl (af4 s1 hd.1) ⟨fun j x hx=>by simp at hx,fun j x hx=>by simp at hx,fun i j x y hx=>by simp at hx⟩
      rw [List.nil_append] at D
      refine wpIn_region_any hC.mixed ?_
      have W0:=jX.drawn ρ.live w (w.drawn+1)
      have E0:=oa.refl ρ w
      have notL:∀ i,(Array.replicate ops.size false).getD i false=false:=by
        intro i;rw [Array.getD_eq_getD_getElem?]
        cases hq:(Array.replicate ops.size false)[i]? with
        | none=>rfl
        | some b=>rw [Array.getElem?_replicate] at hq;split at hq<;>simp_all
      have a0:∀ (l:List (Oper×vo)) (i:Nat) (s:List AV×bO),rV (fun i=>(Array.replicate ops.size false).getD i false) i l s=s:=by
        intro l
        induction l with
        | nil=>intro _ _;rfl
        | cons x l ih=>intro i s;simp only [rV];rw [notL i];exact ih _ _
      refine aoN hC hrun D (by rw [s1];simp) (fun j o hj=>by have:=s3 j o hj;rw [Nat.zero_add] at this;exact this) ops.size (Array.replicate ops.size false) (by simp) (fun j o _ hl=>by rw [notL] at hl;cases hl)
        (by have:=List.countP_le_length (p:=fun i=>!(Array.replicate ops.size false).getD i false) (l:=List.range ops.size);simpa using this) (ρ:=ρ) (a:=a) ?_ ?_ ?_ ?_
      · rw [a0];exact (hs.heap.le (by omega)).drawn _
      · intro b hb;have:=hs.heap.lt b hb;exact .inl this
      · rw [a0];exact hs.tmps.mono E0 W0
      · intro ρ' w' a' E W hh hd' hT hb
        have keep:=Lc (y:=y) (ops.toList.zip rs) (st.tmps,st.heap) fun x hx=>Lb hd.2 _ (List.of_mem_zip (show (x.1,x.2)∈_ from hx)).2
        rw [s2] at hh hT keep
        have E':oa ρ ρ' w:=⟨E.at_,E.ok,E.live,fun b hb=>E.new b hb,E.out,E.pin⟩
        have W':jX ρ.live w w':=W0.trans W (fun _ _ q=>q)
        refine hQ ρ' a' w' ⟨.of E' W',⟨by rw [hd'];exact hs.defers.mono E' W',hT,hh⟩,Nat.le_add_right _ _,hb,(hp.mono E' W' (fun yi _ q=>hb _ q) keep).le (Nat.le_add_right _ _)⟩
theorem Tb{C:CB}{y:Option YI}{ro:Option Nat}{nn:Nat}{body:aC→fD→Res}{b:Code}(hb:∀ st p e st' obs p',body st p=some (e,st',obs,p')→aH obs→∀ (ρ:am) (a:Act) (w:World) (Q:Exit→Act→World→Prop),May b ro y ρ→SR ρ st a w→wy y ρ w st.heap st.next →
    (∀ ρ' a' w',um y ρ w st.next st' ρ' a' w'→Q e.real a' w')→b.wpIn (FW ro) nn C.P Q a w) :∀ (n:Nat) (st:aC) (p:fD) (e:AE) (st':aC) (obs:List Bool) (p':fD),R8 body n st p=some (e,st',obs,p')→aH obs →
    ∀ (ρ:am) (a:Act) (w:World) (Q:Exit→Act→World→Prop),May b ro y ρ→SR ρ st a w→wy y ρ w st.heap st.next→(∀ ρ' a' w',um y ρ w st.next st' ρ' a' w'→Q e.real a' w')→Code.roundsIn (FW ro) nn C.P b Q n a w
  | 0,st,p,e,st',obs,p',h,_,_,_,_,_,_,_,_,_=>by cases h
  | n+1,st,p,e,st',obs,p',h,ho,ρ,a,w,Q,hm,hs,hp,hQ=>by
    simp only [R8] at h
    rw [roundsIn_succ]
    split at h
    · rename_i st1 o1 p1 h1
      split at h
      case h_2=>cases h
      rename_i e2 IZ o2 p2 h2
      simp only [Option.some.injEq,Prod.mk.injEq] at h;obtain ⟨rfl,rfl,rfl,rfl⟩:=h
      rw [bn] at ho
      refine hb st p _ _ _ _ h1 ho.1 ρ a w _ hm hs hp fun ρ1 a1 w1 P1=>?_
      exact Tb hb n st1 p1 _ _ _ _ h2 ho.2 ρ1 a1 w1 Q (hm.ext P1.stp.ext) P1.sr P1.pin fun ρ2 a2 w2 P2=>hQ ρ2 a2 w2 (P1.trans P2)
    · rename_i hne
      refine hb st p _ _ _ _ h ho ρ a w _ hm hs hp fun ρ1 a1 w1 P1=>?_
      have:=hQ ρ1 a1 w1 P1
      cases e with
      | normal=>exact (hne _ _ _ h).elim
      | ret=>exact this
      | exit id=>exact this
theorem Tc{ρ:am}{w:World} :∀ (ps:List Tmp) (vs:List AV) (us:List Value) {T:List AV} {c:Array Value},da ρ w T c.toList→da ρ w vs us→ps.length=us.length →
    da ρ w (JO T ps vs) ((ps.zip us).foldl (fun tmps (x:Tmp×Value)=>tmps.setIfInBounds x.1 x.2) c).toList
  | [],vs,us,T,c,hT,hv,hl=>by
    cases us with
    | nil=>cases vs<;>simpa [JO] using hT
    | cons=>simp at hl
  | p::ps,vs,us,T,c,hT,hv,hl=>by
    cases hv with
    | nil=>simp at hl
    | cons v u vs us h1 h2 =>
      simp only [JO,Hu,List.zip_cons_cons,List.foldl_cons]
      refine Tc ps vs us ?_ h2 (by simpa using hl)
      rw [Array.toList_setIfInBounds]
      exact hT.set h1 p
theorem Ph{o:Option aN}(h:HG o=true) :o=some (.vs []):=by
  unfold HG at h
  split at h
  · rfl
  · cases h
theorem R4.wide{y:Option YI}{ρ ρ':am}{w w':World}(h:R4 none ρ w ρ' w') :R4 y ρ w ρ' w':=⟨h.ext,h.live.mono fun _ _ q=>.inl q,h.vr,h.marks⟩
theorem R4.put{yi:YI}{ρ:am}{w:World}{L k:Nat}{r r':Loop}(hp:ρ.pin.2=some (L,k))(hL:w.heap[L]? = some (.loop r)) :R4 (some yi) ρ w ρ (w.putObj L (.loop r')):=by
  have S:zp w (w.putObj L (.loop r')):=zp.put hL (.inl ⟨r,rfl⟩) (.inl ⟨r',rfl⟩)
  exact ⟨oa.refl _ _,S.wle fun b _ hb=>World.putObj_heap_other (fun e=>hb (.inr ⟨rfl,k,by rw [e];exact hp⟩)),fun v u h=>h.soft S,fun ds h=>h.soft hL⟩
theorem aqG{P:Program}{self:sj}(hself:Dk P self)(y:Option YI) :ajJ P y (arP self y):=by
  intro args h nx p v h' nx' obs p' hr ho
  unfold arP at hr
  cases y with
  | none=>cases hr
  | some yi =>
  refine ⟨yi,rfl,fun ρ w us m hh hbase hpin hm hv L hL=>?_⟩
  simp only at hr
  cases hc:(HG (bp h yi.b)&&(Nat.beq args.length yi.ps.size&&(iX yi.assign&&iX yi.body))) with
  | false=>rw [hc] at hr;cases hr
  | true =>
  rw [hc] at hr
  simp only [Bool.and_eq_true] at hc
  obtain ⟨hc1,hc2,hc3,hc4⟩:=hc
  simp only [cond_true] at hr
  split at hr
  case h_2=>cases hr
  rename_i st1 o1 p1 h1
  split at hr
  case h_2=>cases hr
  rename_i e IZ o2 p2 h2
  cases hc5:HG (bp IZ.heap yi.b) with
  | false=>rw [hc5] at hr;cases hr
  | true =>
  rw [hc5] at hr
  simp only [cond_true] at hr
  have hk1:=Ph hc1
  have hk2:=Ph hc5
  obtain ⟨q1,q2,L',q3,q4,s,pe,q5,rec,r1,r2,r3,r4,r5,r6,r7⟩:=hpin
  rw [hL] at q3;cases q3
  rw [hk1] at q5
  simp only [K5,Option.some.injEq,Prod.mk.injEq] at q5
  obtain ⟨rfl,rfl⟩:=q5
  have hlt:L<w.heap.size:=(Array.getElem?_eq_some_iff.1 r1).1
  have hsz:us.size=rec.params.size:=by
    have a1:=hv.length
    have a2:=Nat.eq_of_beq_eq_true hc2
    rw [r4,←a2,a1];simp
  refine ⟨rec,r1,hsz,fun ro nn R hR=>?_⟩
  have hob:aH o1∧aH o2:=by
    have:obs=o1++o2:=by cases e<;>simp only [Option.some.injEq,Prod.mk.injEq] at hr<;>exact hr.2.2.2.1.symm
    rw [this,bn] at ho;exact ho
  refine roundIn_of_wpIn (asr _ _) ?_
  rw [r5,r6,r4]
  have hfold:(yi.ps.zip us).foldl (fun tmps (x:Tmp×Value)=>tmps.setIfInBounds x.1 x.2) rec.tmps=(yi.ps.toList.zip us.toList).foldl (fun tmps (x:Tmp×Value)=>tmps.setIfInBounds x.1 x.2) rec.tmps:=by
    rw [←Array.foldl_toList,Array.toList_zip]
  have hT:da ρ w (JO yi.saved yi.ps.toList args) ((yi.ps.zip us).foldl (fun tmps (x:Tmp×Value)=>tmps.setIfInBounds x.1 x.2) rec.tmps).toList:=by
    rw [hfold]
    exact Tc _ _ _ r7 hv (by rw [←r4];simpa using hsz.symm)
  have S0:SR ρ ⟨JO yi.saved yi.ps.toList args,h,nx⟩ { tmps:=(yi.ps.zip us).foldl (fun tmps (x:Tmp×Value)=>tmps.setIfInBounds x.1 x.2) rec.tmps,defers:=[] } w:=⟨hbase,hT,hh⟩
  refine hself none yi.assign _ _ _ _ _ _ h1 hob.1 (some L) nn ρ _ w _ (.inl hc3) S0 trivial fun ρ1 a1 w1 P1=>?_
  have hL1:w1.heap[L]? = some (.loop rec):=(P1.stp.live.same L hlt q4).trans r1
  have n1 : ¬ ρ1.live L:=fun q=>q4 (P1.stp.ext.new L hlt q)
  refine ⟨_,run_beginRound hL1 r2,?_⟩
  have Sf:zp w1 (w1.putObj L (.loop { rec with state:=.busy })):=zp.put hL1 (.inl ⟨_,rfl⟩) (.inl ⟨_,rfl⟩)
  have S1:SR ρ1 st1 a1 (w1.putObj L (.loop { rec with state:=.busy })):=⟨P1.sr.defers.soft hL1,P1.sr.tmps.soft Sf,P1.sr.heap.soft Sf⟩
  have hlt1:L<(w1.putObj L (.loop { rec with state:=.busy })).heap.size:=by rw [World.putObj_size];exact Nat.lt_of_lt_of_le hlt P1.stp.wle.size
  refine hself none yi.body _ _ _ _ _ _ h2 hob.2 (some L) nn ρ1 a1 _ _ (.inl hc4) S1 trivial fun ρ2 a2 w3 P2=>?_
  have hL3:w3.heap[L]? = some (.loop { rec with state:=.busy }):=(P2.stp.live.same L hlt1 n1).trans (World.putObj_heap_same (by simpa using hlt1))
  have n2 : ¬ ρ2.live L:=fun q=>n1 (P2.stp.ext.new L hlt1 q)
  have pin1:ρ1.pin.2=some (L,yi.b):=by rw [P1.stp.ext.pin];exact hL
  have pin2:ρ2.pin.2=some (L,yi.b):=by rw [P2.stp.ext.pin];exact pin1
  have Sall:∀ (r':Loop),R4 (some yi) ρ w ρ2 (w3.putObj L (.loop r')):=fun r' =>
    (((P1.stp.wide).trans (R4.put pin1 hL1)).trans P2.stp.wide).trans (R4.put pin2 hL3)
  have hback:∀ b,ρ2.ok b→ρ.ok b∨nx≤b:=by
    intro b q
    rcases P2.back b q with q | q
    · exact P1.back b q
    · exact .inr (Nat.le_trans P1.le q)
  have hnok : ¬ ρ2.ok yi.b:=fun q=>(hback _ q).elim q1 (by omega)
  have hle:nx≤IZ.next:=Nat.le_trans P1.le P2.le
  have S2:∀ (r':Loop),zp w3 (w3.putObj L (.loop r')):=fun r'=>zp.put hL3 (.inl ⟨_,rfl⟩) (.inl ⟨_,rfl⟩)
  have hlt3:L<w3.heap.size:=(Array.getElem?_eq_some_iff.1 hL3).1
  have hrec:∀ (s:LoopState) (pe:Option Code),afX ρ2 (w3.putObj L (.loop { rec with state:=s,pending:=pe })) L yi s pe:=fun s pe =>
    ⟨_,World.putObj_heap_same hlt3,rfl,rfl,r4,r5,r6,da.stp (Sall _).vr r7⟩
  cases e with
  | normal =>
    simp only [Option.some.injEq,Prod.mk.injEq] at hr
    obtain ⟨rfl,rfl,rfl,_,_⟩:=hr
    refine ⟨_,_,run_endRound none hL3,hR ρ2 _ _ (Sall _) (P2.sr.heap.soft (S2 _)) ⟨hnok,q2,L,pin2,n2,.ready,none,by rw [hk2];rfl,hrec _ _⟩ (.bool _ _) hback hle⟩
  | ret =>
    simp only [Option.some.injEq,Prod.mk.injEq] at hr
    obtain ⟨rfl,rfl,rfl,_,_⟩:=hr
    refine ⟨_,_,run_endRound (some .ret) hL3,hR ρ2 _ _ (Sall _) ((P2.sr.heap.soft (S2 _)).ghost hnok (by omega) trivial (fun x=>rfl)) ⟨hnok,q2,L,pin2,n2,.done,some .ret,by rw [dJ,if_pos rfl];rfl,hrec _ _⟩ (.bool _ _) hback hle⟩
  | exit id =>
    simp only [Option.some.injEq,Prod.mk.injEq] at hr
    obtain ⟨rfl,rfl,rfl,_,_⟩:=hr
    refine ⟨_,_,run_endRound (some (.exit id)) hL3,hR ρ2 _ _ (Sall _) ((P2.sr.heap.soft (S2 _)).ghost hnok (by omega) (fun i j=>⟨rfl,rfl⟩) (fun x=>by simp [aN.cell?])) ⟨hnok,q2,L,pin2,n2,.done,some (.exit id),by rw [dJ,if_pos rfl];rfl,hrec _ _⟩ (.bool _ _) hback hle⟩
theorem WB{d:Option aN}{e:AE}(h:NN (K5 d)=some e) :∃ s pe,K5 d=some (s,pe)∧s ≠ .busy∧((e=.normal∧pe=none)∨(e=.ret∧pe=some .ret)∨∃ id,e=.exit id∧pe=some (.exit id)):=by
  unfold NN at h
  split at h
  · rename_i q;cases h;exact ⟨_,_,q,by simp,.inl ⟨rfl,rfl⟩⟩
  · rename_i q;cases h;exact ⟨_,_,q,by simp,.inr (.inl ⟨rfl,rfl⟩)⟩
  · rename_i id q;cases h;exact ⟨_,_,q,by simp,.inr (.inr ⟨id,rfl,rfl⟩)⟩
  · cases h
theorem aga{C:CB}(hC:C.Ok){self:sj}(hself:Dk C.P self){g:Operand}{ps:Array Tmp}{assign body:Code}{st st':aC}{p p':fD}{e:AE}{obs:List Bool}(h:Ta C self g ps assign body st p=some (e,st',obs,p'))(ho:aH obs) 
    {nn:Nat} {ρ:am} {a:Act} {w:World} {Q:Exit→Act→World→Prop} (hpn:ρ.pin.2=none) (hs:SR ρ st a w) (hQ:∀ ρ' a' w',um none ρ w st.next st' ρ' a' w'→Q e.real a' w'):(Code.rangeFunc g ps assign body).wpIn (FW none) nn C.P Q a w:=by
  unfold Ta at h
  split at h
  case h_2=>cases h
  rename_i gf first caps hev
  split at h
  case h_2=>cases h
  rename_i fn hfn
  split at h
  case h_2=>cases h
  rename_i c hbody
  cases hc:(iX c&&fn.results.isEmpty) with
  | false=>rw [hc] at h;cases h
  | true =>
  rw [hc] at h
  rw [Bool.and_eq_true] at hc
  simp only [cond_true] at h
  split at h
  · cases h
  case h_3=>cases h
  rename_i e1 st1 o1 p1 hne h1
  cases hcl:NH st1.heap with
  | false=>rw [hcl] at h;cases h
  | true =>
  rw [hcl] at h
  simp only [cond_true] at h
  split at h
  case h_2=>cases h
  rename_i e2 hend
  simp only [Option.some.injEq,Prod.mk.injEq] at h;obtain ⟨rfl,rfl,rfl,rfl⟩:=h
  refine wpIn_rangeFunc ?_
  intro f0 _
  have hg:=Fy hs.heap.rom hs.tmps g
  rw [hev] at hg
  generalize hgv:a.eval g=gv at hg
  cases hg with | fn _ _ _ c1 c2 v1 v2 =>
  obtain ⟨w1,hw1⟩:∃ w1,(w.alloc (.deferred (some []))).alloc (.loop { state:=.ready,pending:=none,fn:=f0,tmps:=a.tmps,params:=ps,assign,body,defers:=w.heap.size })=w1:=⟨_,rfl⟩
  refine ⟨w.heap.size+1,[{ target:=.collected w.heap.size,args:=#[] }],w1,{ target:=.fn (.func gf) c2,args:=c1 ++ #[Value.func (.yield (w.heap.size+1)) #[] #[]] },w1,gf,c1 ++ #[Value.func (.yield (w.heap.size+1)) #[] #[]]++c2,w1,?_,?_,fun _ _=>trivial,?_,R2,?_⟩
  · rw [←hw1];exact run_enterLoop_outer _ _ _ _ _
  · simp only [resolve,hgv]
    simp [Deferred.ofValue,Act.eval]
  · have eg:=hC.enter gf fn (c1 ++ #[Value.func (.yield (w.heap.size+1)) #[] #[]]++c2) w1 hfn (by rw [hbody];rfl)
    simp only [invoke]
    exact eg
  have hsz1:w1.heap.size=w.heap.size+2:=by rw [←hw1];simp
  have hD1:w1.heap[w.heap.size]? = some (.deferred (some [])):=by
    rw [←hw1,lB (by simp),fC]
  have hL1:w1.heap[w.heap.size+1]? = some (.loop { state:=.ready,pending:=none,fn:=f0,tmps:=a.tmps,params:=ps,assign,body,defers:=w.heap.size }):=by
    rw [←hw1]
    have:=fC (w.alloc (.deferred (some []))) (.loop { state:=.ready,pending:=none,fn:=f0,tmps:=a.tmps,params:=ps,assign,body,defers:=w.heap.size })
    simpa using this
  have W1:jX ρ.live w w1:=by rw [←hw1];exact (jX.alloc _ _ _).trans (jX.alloc _ _ _) (fun _ _ q=>q)
  have same1:∀ b,b<w.heap.size→w1.heap[b]? = w.heap[b]?:=fun b hb=>by
    rw [←hw1,lB (by simp;omega),lB hb]
  have nlive:∀ b,w.heap.size≤b→¬ ρ.live b:=fun b hb q=>by have:=hs.heap.liveLt b q;omega
  have nok : ¬ ρ.ok st.next:=fun q=>by have:=hs.heap.lt _ q;omega
  have tmps1:∀ {l:List AV} {us:List Value},da ρ w l us→da (ρ.pinned (w1.heap.size,some (w.heap.size+1,st.next))) w1 l us:=fun hv=>(hv.mono (oa.refl _ _) W1).noPin hpn _
  have hH1:HR (ρ.pinned (w1.heap.size,some (w.heap.size+1,st.next))) w1 (fB st.heap st.next (.vs [])) (st.next+1):=by
    refine HR.ghost ((((hs.heap.step W1 (fun bl hl=>same1 bl (hs.heap.liveLt bl hl))).noPin hpn _)).le (Nat.le_succ _)) nok (Nat.lt_succ_self _) trivial (fun x=>rfl)
  have hargs:da (ρ.pinned (w1.heap.size,some (w.heap.size+1,st.next))) w1 ((first ++ .yld st.next::caps)++List.replicate (fn.ntmps-(first ++ .yld st.next::caps).length) (.tup []))
      ((c1 ++ #[Value.func (.yield (w.heap.size+1)) #[] #[]]++c2)++Array.replicate (fn.ntmps-(c1 ++ #[Value.func (.yield (w.heap.size+1)) #[] #[]]++c2).size) undef).toList:=by
    have l1:=v1.length
    have l2:=v2.length
    have e:(first++AV.yld st.next::caps).length=(c1 ++ #[Value.func (.yield (w.heap.size+1)) #[] #[]]++c2).size:=by simp at l1 l2 ⊢;omega
    rw [e]
    have hrep:∀ n,da (ρ.pinned (w1.heap.size,some (w.heap.size+1,st.next))) w1 (List.replicate n (.tup [])) (List.replicate n undef):=by
      intro n
      induction n with
      | zero=>exact .nil
      | succ n ih=>exact .cons _ _ _ _ (.tup [] #[] .nil) ih
    have hmid:da (ρ.pinned (w1.heap.size,some (w.heap.size+1,st.next))) w1 (.yld st.next::caps) (Value.func (.yield (w.heap.size+1)) #[] #[]::c2.toList):=.cons _ _ _ _ (.yld _ _ rfl) (tmps1 v2)
    have hall:=da.append (hrep (fn.ntmps-(c1 ++ #[Value.func (.yield (w.heap.size+1)) #[] #[]]++c2).size)) (da.append hmid (tmps1 v1))
    simpa using hall
  refine callsIn_of_wp_marks hfn hbody trivial ?_ rfl
  have S0:SR (ρ.pinned (w1.heap.size,some (w.heap.size+1,st.next))) ⟨(first ++ .yld st.next::caps)++List.replicate (fn.ntmps-(first ++ .yld st.next::caps).length) (.tup []),fB st.heap st.next (.vs []),st.next+1⟩
      { tmps:=(c1 ++ #[Value.func (.yield (w.heap.size+1)) #[] #[]]++c2)++Array.replicate (fn.ntmps-(c1 ++ #[Value.func (.yield (w.heap.size+1)) #[] #[]]++c2).size) undef,defers:=[] } w1:=⟨Nat.le_refl _,hargs,hH1⟩
  have P0:wy (some ⟨st.next,st.tmps,ps,assign,body⟩) (ρ.pinned (w1.heap.size,some (w.heap.size+1,st.next))) w1 (fB st.heap st.next (.vs [])) (st.next+1) :=
    ⟨nok,Nat.lt_succ_self _,w.heap.size+1,rfl,nlive _ (by omega),.ready,none,by rw [dJ,if_pos rfl];rfl,_,hL1,rfl,rfl,rfl,rfl,rfl,tmps1 hs.tmps⟩
  refine hself (some ⟨st.next,st.tmps,ps,assign,body⟩) c _ _ _ _ _ _ h1 ho none _ _ _ w1 _ (.inl hc.1) S0 P0 fun ρ1 a1 w2 P1=>?_
  obtain ⟨s,pe,hst,hbusy,hcase⟩:=WB hend
  have E1:=P1.stp.ext
  have pin1:ρ1.pin=(w1.heap.size,some (w.heap.size+1,st.next)):=E1.pin
  have key:LeavesInM (FW none) (nn-1) C.P fn a1.tmps (rangePost (FW none) nn C.P (w.heap.size+1) Q { a with defers:=[{ target:=.collected w.heap.size,args:=#[] }]++a.defers }) a1.defers .returning w2:=by
    refine FI (ρ:=ρ1) a1.defers P1.sr.defers fun w3 S3 hb3 hl3=>?_
    refine ⟨.tuple #[],?_,?_⟩
    · have:fn.results = #[]:=by simpa using hc.2
      rw [af9,this]
      simp [Array.mapM_eq_mapM_toList]
    rw [pin1] at hb3
    have same2:∀ b,b<w1.heap.size→¬ ρ.live b→b≠w.heap.size+1→w2.heap[b]? = w1.heap[b]?:=fun b hb hnl hne=>P1.stp.wle.same b hb (by
      rintro (q | ⟨_,k,q⟩)
      · exact hnl q
      · have:(some (w.heap.size+1,st.next):Option (Nat×Nat))=some (b,k):=q
        cases this;exact hne rfl)
    obtain ⟨_,_,L',q3,q4,s',pe',q5,rec,r1,r2,r3,r4,r5,r6,r7⟩:=P1.pin
    have:L'=w.heap.size+1:=by
      rw [show ρ1.pin.2=some (w.heap.size+1,st.next) from by rw [pin1]] at q3;cases q3;rfl
    subst this
    rw [hst] at q5;cases q5
    have hL3:w3.heap[w.heap.size+1]? = some (.loop rec):=(hb3 _ (by show _<w1.heap.size;omega)).trans r1
    refine ⟨_,_,run_endLoop hL3 (by rw [r2];exact hbusy),?_⟩
    have hlt3:w.heap.size+1<w3.heap.size:=(Array.getElem?_eq_some_iff.1 hL3).1
    have S4:zp w3 (w3.putObj (w.heap.size+1) (.loop { rec with state:=.exhausted })):=zp.put hL3 (.inl ⟨_,rfl⟩) (.inl ⟨_,rfl⟩)
    obtain ⟨w4,hw4⟩:∃ w4,w3.putObj (w.heap.size+1) (.loop { rec with state:=.exhausted })=w4:=⟨_,rfl⟩
    rw [hw4] at S4 ⊢
    have same4:∀ b,b≠w.heap.size+1→w4.heap[b]? = w3.heap[b]?:=fun b hb=>by rw [←hw4];exact World.putObj_heap_other hb
    have sameAll:∀ b,b<w1.heap.size→¬ ρ.live b→b≠w.heap.size+1→w4.heap[b]? = w1.heap[b]?:=fun b h1 h2 h3=>(same4 b h3).trans ((hb3 b h1).trans (same2 b h1 h2 h3))
    have W2:=P1.stp.wle
    have W4:jX ρ.live w w4:=by
      refine ⟨S4.os.trans (S3.os.trans (W2.os.trans W1.os)),S4.tape.trans (S3.tape.trans (W2.tape.trans W1.tape)),S4.output.trans (S3.output.trans (W2.output.trans W1.output)),?_,fun b hb hnl=>(sameAll b (by omega) hnl (by omega)).trans (same1 b hb),fun b c t z hcell=>?_⟩
      · rw [S4.size,S3.size];have:=W2.size;omega
      · obtain ⟨c1,k1,k2⟩:=W1.sized b c t z hcell
        obtain ⟨c2,k3,k4⟩:=W2.sized b c1 t z k1
        exact ⟨c2,S4.cells (S3.cells k3),k4.trans k2⟩
    have E4:oa ρ (ρ1.pinned ρ.pin) w:=⟨E1.at_,E1.ok,E1.live,fun b hb q=>E1.new b (by omega) q,E1.out,rfl⟩
    have P4:um none ρ w st.next ⟨st.tmps,Ft st1.heap st.next,st1.next⟩ (ρ1.pinned ρ.pin) { a with defers:=[{ target:=.collected w.heap.size,args:=#[] }]++a.defers } w4:=by
      refine ⟨.of E4 W4,⟨⟨⟨w.heap.size,rfl,(show ρ.pin.1≤_ from R9 hs.defers),?_,fun q=>nlive _ (Nat.le_refl _) (E1.new w.heap.size (by omega) q),?_,aap hs.defers⟩,hs.defers.mono E4 W4⟩,hs.tmps.mono E4 W4,?_⟩,Nat.le_trans (Nat.le_succ _) P1.le,fun b q=>?_,trivial⟩
      · have:=W4.size;have:=W2.size;rw [S4.size,S3.size];omega
      · exact (sameAll _ (by omega) (nlive _ (Nat.le_refl _)) (by omega)).trans hD1
      · exact (((P1.sr.heap.soft S3).soft S4).pinned ρ.pin hcl).del _
      · rcases P1.back b q with q | q
        · exact .inl q
        · exact .inr (Nat.le_trans (Nat.le_succ _) q)
    rcases hcase with ⟨rfl,rfl⟩ | ⟨rfl,rfl⟩ | ⟨id,rfl,rfl⟩
    · rw [r3];exact hQ _ _ _ P4
    · rw [r3];exact wpIn_ret (hQ _ _ _ P4)
    · rw [r3];exact wpIn_exit (hQ _ _ _ P4)
  cases e1 with
  | normal=>exact key
  | ret=>exact key
  | exit id=>exact (hne id rfl).elim
theorem ab6{C:CB}(hC:C.Ok){run:gn}(hrun:SG C.P run){N:Nat}{self:sj}(hself:Dk C.P self) :Dk C.P (NO C run N self):=by
  intro y c st p e st' obs p' h ho ro nn ρ a w Q hm hs hp hQ
  unfold NO at h
  simp only at h
  split at h
  · simp only [Option.some.injEq,Prod.mk.injEq] at h;obtain ⟨rfl,rfl,rfl,rfl⟩:=h
    exact wpIn_skip (hQ ρ a w (um.refl hs hp))
  · simp only [Option.some.injEq,Prod.mk.injEq] at h;obtain ⟨rfl,rfl,rfl,rfl⟩:=h
    exact wpIn_label (hQ ρ a w (um.refl hs hp))
  · exact ab5 hC hrun (aqG hself y) h ho hs hp hQ
  · rename_i x z
    refine wpIn_seq ?_
    split at h
    · rename_i st1 o1 p1 h1
      split at h
      case h_2=>cases h
      rename_i e2 IZ o2 p2 h2
      simp only [Option.some.injEq,Prod.mk.injEq] at h;obtain ⟨rfl,rfl,rfl,rfl⟩:=h
      rw [bn] at ho
      refine hself y x st p _ _ _ _ h1 ho.1 ro nn ρ a w _ (hm.sub fun q=>by simp only [iX,Bool.and_eq_true] at q;exact q.1) hs hp fun ρ1 a1 w1 P1=>?_
      exact hself y z st1 p1 _ _ _ _ h2 ho.2 ro nn ρ1 a1 w1 Q ((hm.sub fun q=>by simp only [iX,Bool.and_eq_true] at q;exact q.2).ext P1.stp.ext) P1.sr P1.pin fun ρ2 a2 w2 P2=>hQ ρ2 a2 w2 (P1.trans P2)
    · rename_i hne
      refine hself y x st p _ _ _ _ h ho ro nn ρ a w _ (hm.sub fun q=>by simp only [iX,Bool.and_eq_true] at q;exact q.1) hs hp fun ρ1 a1 w1 P1=>?_
      have:=hQ ρ1 a1 w1 P1
      cases e with
      | normal=>exact (hne _ _ _ h).elim
      | ret=>exact this
      | exit id=>exact this
  · rename_i cc x z
    split at h
    case h_2=>cases h
    rename_i b o1 p1 h1
    split at h
    case h_2=>cases h
    rename_i e2 IZ o2 p2 h2
    simp only [Option.some.injEq,Prod.mk.injEq] at h;obtain ⟨rfl,rfl,rfl,rfl⟩:=h
    rw [bn] at ho
    have hb:=JI (Fy hs.heap.rom hs.tmps cc) h1 ho.1
    refine wpIn_cond hb ?_
    have hs':SR ρ { st with tmps:=zt st.tmps cc b } a w:=by
      refine ⟨hs.defers,?_,hs.heap⟩
      cases cc with
      | tmp t =>
        simp only [zt,Hu]
        have:da ρ w (st.tmps.set t (.bool true b)) (a.tmps.toList.set t (.bool b)):=hs.tmps.set (.bool _ _) t
        have e:a.tmps.toList.set t (.bool b)=a.tmps.toList:=by
          apply List.ext_getElem?
          intro j
          rw [List.getElem?_set]
          split
          · rename_i q;subst q
            split
            · rename_i hlt
              simp only [Act.eval] at hb
              rw [Array.getD_eq_getD_getElem?] at hb
              have hlt':t<a.tmps.size:=by simpa using hlt
              rw [Array.getElem?_eq_getElem hlt'] at hb
              simp only [Option.getD_some] at hb
              simp [hlt',hb]
            · rename_i hge
              rw [List.getElem?_eq_none (by omega)]
          · rfl
        rw [e] at this;exact this
      | const v=>exact hs.tmps
      | global g=>exact hs.tmps
      | func f=>exact hs.tmps
    have:=hself y _ _ p1 _ _ _ _ h2 ho.2 ro nn ρ a w Q (hm.sub fun q=>by simp only [iX,Bool.and_eq_true] at q;cases b<;>first | exact q.1 | exact q.2) hs' hp hQ
    cases b<;>exact this
  · rename_i id b
    refine wpIn_block ?_
    split at h
    · rename_i id' st1 o1 p1 h1
      cases hid:Nat.beq id' id with
      | true =>
        rw [hid] at h
        simp only [cond_true,Option.some.injEq,Prod.mk.injEq] at h;obtain ⟨rfl,rfl,rfl,rfl⟩:=h
        refine hself y b st p _ _ _ _ h1 ho ro nn ρ a w _ (hm.sub fun q=>by simpa only [iX] using q) hs hp fun ρ1 a1 w1 P1=>?_
        simp only [AE.real,Exit.inBlock,Nat.eq_of_beq_eq_true hid,if_true]
        exact hQ ρ1 a1 w1 P1
      | false =>
        rw [hid] at h
        simp only [cond_false,Option.some.injEq,Prod.mk.injEq] at h;obtain ⟨rfl,rfl,rfl,rfl⟩:=h
        refine hself y b st p _ _ _ _ h1 ho ro nn ρ a w _ (hm.sub fun q=>by simpa only [iX] using q) hs hp fun ρ1 a1 w1 P1=>?_
        have hne : ¬ id'=id:=fun e=>by subst e;simp [rX] at hid
        simp only [AE.real,Exit.inBlock,hne,if_false]
        exact hQ ρ1 a1 w1 P1
    · rename_i hne
      refine hself y b st p _ _ _ _ h ho ro nn ρ a w _ (hm.sub fun q=>by simpa only [iX] using q) hs hp fun ρ1 a1 w1 P1=>?_
      have:=hQ ρ1 a1 w1 P1
      cases e with
      | normal=>exact this
      | ret=>exact this
      | exit id=>exact (hne _ _ _ _ h).elim
  · rename_i b
    exact wpIn_loop_rounds N (Tb (C:=C) (b:=b) (fun st p e st' obs p' h1 h2 ρ a w Q hm=>hself y b st p e st' obs p' h1 h2 ro nn ρ a w Q hm) N st p e st' obs p' h ho ρ a w Q (hm.sub fun q=>by simpa only [iX] using q) hs hp hQ)
  · simp only [Option.some.injEq,Prod.mk.injEq] at h;obtain ⟨rfl,rfl,rfl,rfl⟩:=h
    exact wpIn_exit (hQ ρ a w (um.refl hs hp))
  · simp only [Option.some.injEq,Prod.mk.injEq] at h;obtain ⟨rfl,rfl,rfl,rfl⟩:=h
    exact wpIn_ret (hQ ρ a w (um.refl hs hp))
  · rename_i b
    rcases hm with q | ⟨rfl,rfl,hpn⟩
    · cases q
    refine wpIn_wide.2 (wp_scope_straight (wpIn_wide.1 (hself none b st p _ _ _ _ h ho none nn ρ a w _ (.inr ⟨rfl,rfl,hpn⟩) hs hp fun ρ1 a1 w1 P1=>?_)))
    have:=hQ ρ1 a1 w1 P1
    cases e<;>exact this
  · rename_i g ps assign body
    split at h
    case h_2=>cases h
    rcases hm with q | ⟨rfl,_,q⟩
    · cases q
    · exact aga hC hself h ho q hs hQ
  · cases h
theorem Dk.old{P:Program}{self:sj}(h:Dk P self) :ab4 P (self none):=by
  intro c st p e st' obs p' hr ho ρ a w Q hpn hs hQ
  exact wpIn_wide.1 (h none c st p e st' obs p' hr ho none 0 ρ a w Q (.inr ⟨rfl,rfl,hpn⟩) hs trivial fun ρ' a' w' P1=>hQ ρ' a' w' P1.old)
theorem Td{P:Program}{w:World}{t:TypeId}{x:Value}{u:Value}(hx:∃ a,x=.pointer (some a))(h:(Instr.loadAt t x).run P w=.ok u w) :(do loadVar t (←asAddr x):Sem Value).run P w=.ok u w:=by
  obtain ⟨a,rfl⟩:=hx
  simpa [Instr.loadAt,Instr.sureAddr,asAddr] using h
def Te(tmps:Array Value) :ResultVar→Sem Value
  | .tmp t=>pure (tmps.getD t undef)
  | .cell x t=>do loadVar t (←asAddr (tmps.getD x undef))
theorem ajO(fn:Func)(tmps:Array Value) :results fn tmps=(do let vs ← fn.results.mapM (Te tmps);pure (if h:vs.size=1 then vs[0] else .tuple vs)):=by
  unfold results
  congr 1
theorem FQ{P:Program}{fn:Func}{st:aC}{ρ:am}{a:Act}{w:World}(hs:SR ρ st a w) :∀ (l:List ResultVar) {vs:List AV} {obs:List Bool},mV P fn st l=some (vs,obs)→aH obs →
    ∃ us:List Value,(l.mapM (Te a.tmps)).run P w=.ok us w∧da ρ w vs us
  | [],vs,obs,h,ho=>by
    simp only [mV,Option.some.injEq,Prod.mk.injEq] at h;obtain ⟨rfl,rfl⟩:=h
    exact ⟨[],by simp,.nil⟩
  | .tmp t::l,vs,obs,h,ho=>by
    simp only [mV] at h
    split at h
    case h_2=>cases h
    rename_i vs' o' h1
    simp only [Option.some.injEq,Prod.mk.injEq] at h;obtain ⟨rfl,rfl⟩:=h
    obtain ⟨us,q1,q2⟩:=FQ hs l h1 ho
    refine ⟨a.tmps.getD t undef::us,?_,.cons _ _ _ _ (Fy hs.heap.rom hs.tmps (.tmp t)) q2⟩
    simp only [List.mapM_cons,Te,Sem.run_bind,Sem.run_pure,Result.andThen_ok,q1]
  | .cell x t::l,vs,obs,h,ho=>by
    simp only [mV] at h
    split at h
    case h_2=>cases h
    rename_i v o rs vs' o' h1 h2
    simp only [Option.some.injEq,Prod.mk.injEq] at h;obtain ⟨rfl,rfl⟩:=h
    rw [bn] at ho
    obtain ⟨us,q1,q2⟩:=FQ hs l h2 ho.2
    have hv:=Fy hs.heap.rom hs.tmps (.tmp x)
    simp only [evA,Act.eval] at hv
    obtain ⟨u,r1,r2⟩:=O5 (P:=P) hs.heap hv h1 ho.1
    have hp:∃ ad,a.tmps.getD x undef=.pointer (some ad):=by
      generalize a.tmps.getD x undef=z at hv
      unfold Il at h1
      simp only at h1
      split at h1
      · rename_i e;rw [e] at hv;cases hv;exact ⟨_,rfl⟩
      · rename_i e;rw [e] at hv;cases hv;exact ⟨_,rfl⟩
      · cases h1
    have:=Td hp r1
    refine ⟨u::us,?_,.cons _ _ _ _ r2 q2⟩
    simp only [List.mapM_cons,Te,Sem.run_bind] at this ⊢
    rw [this]
    simp only [Result.andThen_ok,Sem.run_bind,q1,Sem.run_pure]
theorem agb{P:Program}{fn:Func}{st:aC}{ρ:am}{a:Act}{w:World}(hs:SR ρ st a w){vs:List AV}{obs:List Bool}(h:mV P fn st fn.results.toList=some (vs,obs))(ho:aH obs) :
    ∃ v,(results fn a.tmps).run P w=.ok v w∧VR ρ w (NP vs) v:=by
  obtain ⟨us,q1,q2⟩:=FQ hs fn.results.toList h ho
  have hl:=q2.length
  have hm:(fn.results.mapM (Te a.tmps)).run P w=.ok us.toArray w:=by
    rw [Array.mapM_eq_mapM_toList,map_eq_pure_bind,Sem.run_bind,q1,Result.andThen_ok,Sem.run_pure]
  rw [ajO,Sem.run_bind,hm,Result.andThen_ok]
  match vs,us,q2,hl with
  | [],[],q2,_=>exact ⟨.tuple #[],rfl,.tup _ _ .nil⟩
  | [v],[u],q2,_=>cases q2 with | cons _ _ _ _ h1 _=>exact ⟨u,rfl,h1⟩
  | v::v'::vs,u::u'::us,q2,_ =>
    refine ⟨.tuple (u::u'::us).toArray,?_,.tup _ _ q2⟩
    simp
theorem FS{P:Program}{f:FuncId}{fn:Func}{c:Code}(hf:P.funcs[f]? = some fn)(hc:fn.body=some c){lent:List aN}{args:List AV}{r:fU}{keep:Bool} 
    (h:∀ (ρ:am) (w:World) (a:Act),km ρ w lent→SR ρ (vu fn lent args) a w →
      c.wp P (fun e a' w'=>(e=.normal∨e=.ret)∧∃ ρ' st' vs obs,oa ρ ρ' w∧jX ρ.live w w'∧(∀ i,i<lent.length→ρ'.ok i→ρ.ok i)∧SR ρ' st' a' w'∧mV P fn st' fn.results.toList=some (vs,obs)∧aH obs∧S9 lent.length keep st'.heap (NP vs)=some r) a w):ai P f lent args r:=by
  intro ρ0 w us hN0 hv0
  refine ⟨⟨fn,hf,by rw [hc];rfl⟩,?_⟩
  have hv:=hv0.noPin hN0.pin (w.heap.size,none)
  have hN:km (ρ0.pinned (w.heap.size,none)) w lent:=⟨hN0.heap.noPin hN0.pin _,hN0.only,rfl⟩
  generalize hρ:ρ0.pinned (w.heap.size,none)=ρ at hv hN
  have hb0:ρ.pin.1=w.heap.size:=by rw [←hρ];rfl
  have hlive:ρ.live=ρ0.live:=by rw [←hρ];rfl
  refine callsIn_wide.1 (callsIn_of_wp_marks (F:=FW none) (n:=0) hf hc trivial (wpIn_wide.2 ?_) rfl)
  have hlen:=hv.length
  have hs:SR ρ (vu fn lent args) { tmps:=us.toArray++Array.replicate (fn.ntmps-us.toArray.size) undef,defers:=[] } w:=by
    refine ⟨Nat.le_of_eq hb0,?_,hN.heap⟩
    simp only [vu,Array.toList_append,Array.toList_replicate,List.size_toArray,hlen]
    refine da.append ?_ hv
    have:∀ n,da ρ w (List.replicate n (.tup [])) (List.replicate n undef):=by
      intro n
      induction n with
      | zero=>exact .nil
      | succ n ih=>exact .cons _ _ _ _ (.tup [] #[] .nil) ih
    exact this _
  refine wp_mono (h ρ w _ hN hs) ?_
  rintro e a' w' ⟨he,ρ',st',vs,obs,E,W,hbk,S,hr,hob,hkeep⟩
  have pK:LeavesInM (FW none) 0 P fn a'.tmps (fun e w'=>∃ u,e=.returned u∧jX ρ0.live w w'∧r.Holds ρ0 w w' lent.length u) a'.defers .returning w':=by
    refine FI a'.defers S.defers fun w'' Sf hb _=>?_
    have S':SR ρ' st' { a' with defers:=[] } w'':=⟨by show ρ'.pin.1≤_;rw [Sf.size];exact R9 S.defers,S.tmps.soft Sf,S.heap.soft Sf⟩
    have W':jX ρ.live w w'':=⟨Sf.os.trans W.os,Sf.tape.trans W.tape,Sf.output.trans W.output,by rw [Sf.size];exact W.size,fun b hlt hnl=>(hb b (by rw [E.pin,hb0];exact hlt)).trans (W.same b hlt hnl),fun b c t z q=>by
      obtain ⟨c',k1,k2⟩:=W.sized b c t z q
      exact ⟨c',Sf.cells k1,k2⟩⟩
    obtain ⟨v,q1,q2⟩:=agb S' hr hob
    refine ⟨v,q1,v,rfl,by rw [←hlive];exact W',?_⟩
    obtain ⟨ρ2,E2,k2,H2,v2⟩:=af8 S'.heap hN E hbk W'.size q2 hkeep
    have hp2:ρ2.pin.2=none:=by rw [E2.pin];exact hN.pin
    subst hρ
    exact ⟨ρ2.pinned ρ0.pin,⟨E2.at_,E2.ok,E2.live,E2.new,E2.out,rfl⟩,k2,H2.noPin hp2 _,v2.noPin hp2 _⟩
  rcases he with rfl | rfl
  · exact pK
  · exact pK
theorem agc{C:CB}{S:FP}(hS:aJ C.P S){self:Dj}(hself:ab4 C.P self) :SG C.P (wB C S self):=by
  intro f lent args p r obs p' h ho
  unfold wB at h
  split at h
  · rename_i alts hs
    simp only [Option.map_eq_some_iff,Prod.mk.injEq] at h
    obtain ⟨⟨alt,q⟩,h1,rfl,rfl,rfl⟩:=h
    exact hS f lent args alts alt hs (ani h1) ho
  · split at h
    case h_2=>cases h
    rename_i fn hf
    split at h
    case h_2=>cases h
    rename_i c hc
    split at h
    case h_2=>cases h
    rename_i e st o1 p1 hr
    cases hres:mV C.P fn st fn.results.toList with
    | none=>rw [hres] at h;cases e<;>cases h
    | some x =>
      obtain ⟨vs,o2⟩:=x
      rw [hres] at h
      have key:∀ (he:e=.normal∨e=.ret),(match S9 lent.length (C.mode f).keep st.heap (NP vs) with | some r=>some (r,o1++o2,p1) | none=>none)=some (r,obs,p')→ai C.P f lent args r:=by
        intro he h
        split at h
        case h_2=>cases h
        rename_i r' hk
        simp only [Option.some.injEq,Prod.mk.injEq] at h;obtain ⟨rfl,rfl,rfl⟩:=h
        rw [bn] at ho
        refine FS (keep:=(C.mode f).keep) hf hc fun ρ w a hN hs=>?_
        refine hself c _ p e st o1 p1 hr ho.1 ρ a w _ hN.pin hs fun ρ' a' w' P1=>⟨?_,ρ',st,vs,o2,P1.ext,P1.wle,fun i hi q=>?_,P1.sr,hres,ho.2,hk⟩
        · rcases he with rfl | rfl
          · exact .inl rfl
          · exact .inr rfl
        · rcases P1.back i q with q | q
          · exact q
          · simp only [vu] at q;omega
      cases e with
      | normal=>exact key (.inl rfl) h
      | ret=>exact key (.inr rfl) h
      | exit id=>cases h
theorem FU{C:CB}(hC:C.Ok){S:FP}(hS:aJ C.P S)(N:Nat) :∀ n,Dk C.P (La C S N n)
  | 0=>fun y c st p e st' obs p' h=>by cases h
  | n+1=>ab6 hC (agc hS (FU hC hS N n).old) (FU hC hS N n)
theorem Tf{C:CB}(hC:C.Ok){S:FP}(hS:aJ C.P S)(N:Nat)(n:Nat) :ab4 C.P (kB C S N n):=(FU hC hS N n).old
theorem QB{C:CB}(hC:C.Ok){S:FP}(hS:aJ C.P S)(N n:Nat){f:FuncId}{lent:List aN}{args:List AV}{p p':fD}{r:fU}{obs:List Bool}(h:wB C S (kB C S N n) f lent args p=some (r,obs,p'))(ho:aH obs) :
    ai C.P f lent args r:=agc hS (Tf hC hS N n) f lent args p r obs p' h ho
def Sa:List (Nat×QA)→Nat→Option QA
  | [],_=>none
  | (k,e)::l,f=>bif Nat.beq k f then some e else Sa l f
def agd:List (Nat×aoK)→Nat→aoK
  | [],_=>⟨[],false⟩
  | (k,m)::l,f=>bif Nat.beq k f then m else agd l f
def ama(P:Program)(l:List (Nat×QA))(ms:List (Nat×aoK)) :CB:={ P,ext:=Sa l,mode:=agd ms,wrap:=false }
theorem Pi:∀ {l:List (Nat×QA)} {f:Nat} {k:QA},Sa l f=some k→(f,k)∈l
  | [],f,k,h=>by cases h
  | (a,e)::l,f,k,h=>by
    simp only [Sa] at h
    cases hb:Nat.beq a f with
    | true=>rw [hb] at h;simp only [cond_true,Option.some.injEq] at h;have:=Nat.eq_of_beq_eq_true hb;subst this;subst h;simp
    | false=>rw [hb] at h;simp only [cond_false] at h;exact List.mem_cons_of_mem _ (Pi h)
structure aaq (P:Program) (f:Nat) (k:QA):Prop where
  fn : ∃ fn, P.funcs[f]? = some fn ∧ (fn.name == "runtime.NumGoroutine") = false ∧ fn.body.isNone = true ∧ Extern.findNext fn = none ∧ Extern.find fn = some (FG k)
def amb(P : Program) : Bool := P.funcs.toList.all fun fn => !(fn.name == "runtime.NumGoroutine")
theorem aoQ{P:Program}{l:List (Nat×QA)}{ms:List (Nat×aoK)}(hm:P.follows .mixedOrders=true)(hn:amb P=true)(he:∀ x∈l,aaq P x.1 x.2) :(ama P l ms).Ok:=by
  refine ⟨hm,fun f fn args w hf hb=>?_,fun f k args w hk=>?_⟩
  · have h1 : fn.name ≠ "runtime.NumGoroutine" := by
      have hmem:fn∈P.funcs.toList:=by
        have:fn∈P.funcs:=Array.mem_of_getElem? hf
        simpa using this
      have:=List.all_eq_true.1 hn fn hmem
      simpa using this
    have h2:fn.body≠none:=by intro q;rw [q] at hb;cases hb
    have hf':P.funcs[f]? = some fn:=hf
    have h3:fn.body.isNone=false:=by cases hq:fn.body<;>simp_all
    simp only [ama,callFunc,Sem.run_bind,run_program,Result.andThen_ok,hf',beq_eq_false_iff_ne.2 h1,Bool.false_eq_true,if_false,h3,Sem.run_pure]
  · obtain ⟨fn,h1,h2,h3,h4,h5⟩:=(he _ (Pi hk)).fn
    have:=run_callFunc_extern (P:=P) h1 h2 h3 h4 h5 args w
    simp only [ama]
    rw [this,Sem.run_bind]
    rfl
def At(k:Nat)(ρ0:am)(w0:World)(st:aC)(a:Act)(w:World) :Prop:=∃ ρ,oa ρ0 ρ w0∧jX ρ0.live w0 w∧SR ρ st a w∧(∀ i,i<k→ρ.ok i→ρ0.ok i)∧k≤st.next
def Sub(lent:List aN)(st st':aC) :Prop:=∀ ρ0 w0 a w,km ρ0 w0 lent→At lent.length ρ0 w0 st a w→At lent.length ρ0 w0 st' a w
theorem Sub.refl(lent:List aN)(st:aC) :Sub lent st st:=fun _ _ _ _ _ h=>h
theorem Sub.trans{lent:List aN}{a b c:aC}(h:Sub lent a b)(k:Sub lent b c) :Sub lent a c:=fun _ _ _ _ hN q=>k _ _ _ _ hN (h _ _ _ _ hN q)
def age:AV→AV
  | .flt _ x=>.flt false x
  | .bool _ b=>.bool false b
  | v=>v
def nmB(σ:Nat→Option Nat) :aN→aN
  | .vs l=>.vs ((nmL σ l).map age)
  | d=>d
def NQ(σ:Nat→Option Nat)(h:bO) :Nat→List Nat→bO
  | _,[]=>[]
  | i,b::l=>match bp h b with
    | some d=>(i,nmB σ d)::NQ σ h (i+1) l
    | none=>NQ σ h (i+1) l
def ass(b:Bool)(v u:AV) :AV :=
  match b with
  | true=>v
  | false=>u
def arg:List (Nat×AV)→Nat→AV
  | [],_=>.any
  | (k,v)::l,t=>ass (Nat.beq k t) v (arg l t)
def aar(L:List (Nat×AV)) :Nat→Nat→List AV
  | _,0=>[]
  | t,n+1=>arg L t::aar L (t+1) n
def ae(n:Nat)(L:List (Nat×AV)) :List AV:=aar L 0 n
def nmT(σ:Nat→Option Nat)(ks:List Nat) :Nat→List AV→List AV
  | _,[]=>[]
  | t,v::l=>(bif wW ks t then age (nmA σ v) else .any)::nmT σ ks (t+1) l
def norm(keep ks:List Nat)(st:aC) :aC :=
  ⟨nmT (pw keep 0) ks 0 st.tmps,NQ (pw keep 0) st.heap 0 keep,keep.length⟩
theorem agf{ρ:am}{w:World}{v:AV}{u:Value}(h:VR ρ w v u) :VR ρ w (age v) u:=by
  cases h<;>simp only [age]<;>first | exact .bool _ _ | (rename_i hf;refine .flt _ _ _ ?_;rcases hf with rfl | ⟨_,h2,h3⟩;exact .inl rfl;exact .inr ⟨rfl,h2,h3⟩) | skip
  case int=>exact .int _ _
  case str=>exact .str _
  case nptr=>exact .nptr
  case ptr hb=>exact .ptr _ _ _ _ hb
  case iptr=>rename_i bw d k i j bl o u' ha hb hr hg hc hv hk;exact .iptr bw d k i j bl o _ (by assumption) (by assumption) (by assumption) (by assumption) (by assumption) (by assumption) (by assumption)
  case nsl=>exact .nsl
  case esl=>exact .esl _
  case zsl=>exact .zsl _ _
  case nan=>exact .nan _ (by assumption)
  case sl=>exact .sl _ _ _ _ _ _ _ (by assumption) (by assumption) (by assumption) _ _ (by assumption) (by assumption)
  case slEnd=>exact .slEnd _ _ _ _ _
  case imm=>exact .imm _ _ _ _ _ _ _ _ _ _ (by assumption) (by assumption) (by assumption) (by assumption) (by assumption) (by assumption) (by assumption) (by assumption)
  case immEnd=>exact .immEnd _ _ _ _ _ _ _ (by assumption) (by assumption) (by assumption)
  case fn=>exact .fn _ _ _ _ _ (by assumption) (by assumption)
  case nfn=>exact .nfn
  case gmap=>exact .gmap _ _ _ _ _ _ (by assumption) (by assumption) (by assumption) (by assumption) (by assumption) (by assumption) (by assumption) (by assumption)
  case gvar=>exact .gvar _ _ _ _ (by assumption) (by assumption) (by assumption)
  case agg=>exact .agg _ _ (by assumption)
  case tup=>exact .tup _ _ (by assumption)
  case iface=>exact .iface _ _ _ (by assumption)
  case niface=>exact .niface
  case yld=>exact .yld _ _ (by assumption)
  case any=>exact .any _
theorem aoR{ρ:am}{keep ks:List Nat}{w:World} :∀ (l:List AV) (t:Nat) {c:List Value},da ρ w l c→da (ρ.renamed keep) w (nmT (pw keep 0) ks t l) c
  | [],t,c,h=>by cases h;exact .nil
  | v::l,t,c,h=>by
    cases h with | cons _ u _ c' h1 h2 =>
    simp only [nmT]
    refine .cons _ _ _ _ ?_ (aoR l (t+1) h2)
    cases wW ks t with
    | true=>exact agf (aao v h1)
    | false=>exact .any u
theorem Dl{σ:Nat→Option Nat}{h:bO} :∀ {l:List Nat} {i c:Nat} {d:aN},bp (NQ σ h i l) c=some d→i≤c∧∃ b e,l[c-i]? = some b∧bp h b=some e∧d=nmB σ e
  | [],i,c,d,q=>by cases q
  | b::l,i,c,d,q=>by
    simp only [NQ] at q
    have next:bp (NQ σ h (i+1) l) c=some d→i≤c∧∃ b' e,(b::l)[c-i]? = some b'∧bp h b'=some e∧d=nmB σ e:=by
      intro q
      obtain ⟨h1,b',e,h2,h3,h4⟩:=Dl q
      refine ⟨by omega,b',e,?_,h3,h4⟩
      have:c-i=(c-(i+1))+1:=by omega
      rw [this];simpa using h2
    split at q
    · rename_i e he
      simp only [gu,eP] at q
      cases hc:Nat.beq i c with
      | true =>
        rw [hc] at q;simp only [cond_true,Option.some.injEq] at q
        have:=Nat.eq_of_beq_eq_true hc;subst this
        exact ⟨Nat.le_refl _,b,e,by simp,he,q.symm⟩
      | false=>rw [hc] at q;exact next q
    · exact next q
theorem aoS{σ:Nat→Option Nat}{d:aN}(h:d.recKept) :(nmB σ d).recKept:=by
  cases d<;>first | exact h | trivial
theorem agh{σ:Nat→Option Nat}{d:aN}{x:Nat}{v:AV}(h:(nmB σ d).cell? x=some v)(hr:d.recKept) :∃ v',d.cell? x=some v'∧(v=age (nmA σ v')∨(v=v'∧v.foreign=true)):=by
  cases d with
  | vs l =>
    simp only [nmB,aN.cell?,List.getElem?_map,ab3,Option.map_map,Option.map_eq_some_iff,Function.comp] at h
    obtain ⟨v',h1,rfl⟩:=h
    exact ⟨v',h1,.inl rfl⟩
  | fl xs=>exact ⟨v,h,.inr ⟨rfl,bb (d:=.fl xs) hr rfl x v h⟩⟩
  | ns k xs=>exact ⟨v,h,.inr ⟨rfl,bb (d:=.ns k xs) hr rfl x v h⟩⟩
  | bs xs=>exact ⟨v,h,.inr ⟨rfl,bb (d:=.bs xs) hr rfl x v h⟩⟩
  | ss xs=>exact ⟨v,h,.inr ⟨rfl,bb (d:=.ss xs) hr rfl x v h⟩⟩
  | rows k m get=>exact ⟨v,h,.inr ⟨rfl,bb (d:=.rows k m get) hr rfl x v h⟩⟩
  | cols m cs=>exact ⟨v,h,.inr ⟨rfl,bb (d:=.cols m cs) hr rfl x v h⟩⟩
def ab7:Nat→Nat→List Nat→Bool
  | 0,_,_=>true
  | _+1,_,[]=>false
  | k+1,i,b::l=>Nat.beq b i&&ab7 k (i+1) l
theorem Tg:∀ {k i:Nat} {l:List Nat},ab7 k i l=true→∀ j,j<k→l[j]? = some (i+j)
  | 0,i,l,_,j,hj=>by omega
  | k+1,i,[],h,j,hj=>by cases h
  | k+1,i,b::l,h,j,hj=>by
    simp only [ab7,Bool.and_eq_true] at h
    cases j with
    | zero=>simp;exact Nat.eq_of_beq_eq_true h.1
    | succ j=>simp only [List.getElem?_cons_succ];rw [Tg h.2 j (by omega)];congr 1;omega
def ajP(k:Nat)(keep:List Nat) :Bool:=Dd keep&&ab7 k 0 keep
theorem aoT{lent:List aN}{keep ks:List Nat}(hk:ajP lent.length keep=true)(st:aC) :Sub lent st (norm keep ks st):=by
  unfold ajP at hk
  rw [Bool.and_eq_true] at hk
  obtain ⟨hn,hid⟩:=hk
  have idL:∀ {i:Nat},i<lent.length→keep[i]? = some i:=fun q=>by have:=Tg hid _ q;simpa using this
  have atL:∀ {ρ:am} {i b:Nat},keep[i]? = some b→(ρ.renamed keep).at_ i=ρ.at_ b:=fun q=>by simp [am.renamed,q]
  rintro ρ0 w0 a w hN ⟨ρ,E,W,S,hbk,hle⟩
  refine ⟨ρ.renamed keep,⟨fun b q=>?_,fun b q=>⟨b,idL (hN.heap.lt b q),E.ok b q⟩,E.live,E.new,E.out,E.pin⟩,W,⟨S.defers.renamed,aoR _ _ S.tmps,?_⟩,fun i hi q=>?_,?_⟩
  · rw [atL (idL (hN.heap.lt b q))];exact E.at_ b q
  · have hh:=S.heap
    refine ⟨fun c d q=>?_,fun c c' d d' q q' ok1 ok2 he=>?_,hh.fresh,hh.liveLt,hh.outLt,fun c q=>?_,fun x hx=>gA (hh.rom x hx) (jj (Rom.kept x hx))⟩
    · obtain ⟨_,b,e,h1,h2,rfl⟩:=Dl q
      rw [Nat.sub_zero] at h1
      rcases hh.cell b e h2 with ⟨k1,k2,hr,ce,t,r1,r2⟩ | ⟨k1,k2,k3,k4⟩
      · refine .inl ⟨⟨b,h1,k1⟩,by rw [atL h1];exact k2,aoS hr,ce,t,by rw [atL h1];exact r1,fun x v hx=>?_⟩
        obtain ⟨v',s1,s2⟩:=agh hx hr
        obtain ⟨u,t1,t2⟩:=r2 x v' s1
        refine ⟨u,t1,?_⟩
        rcases s2 with rfl | ⟨rfl,hf⟩
        · exact agf (aao v' t2)
        · exact gA t2 hf
      · refine .inr ⟨?_,(List.getElem?_eq_some_iff.1 h1).1,aoS k3,fun x=>?_⟩
        · rintro ⟨b',q1,q2⟩
          rw [h1] at q1;cases q1
          exact k1 q2
        · cases hc:(nmB (pw keep 0) e).cell? x with
          | none=>rfl
          | some v=>obtain ⟨v',s1,_⟩:=agh hc k3;rw [k4 x] at s1;cases s1
    · obtain ⟨_,b,e,h1,h2,rfl⟩:=Dl q
      obtain ⟨_,b',e',h1',h2',rfl⟩:=Dl q'
      rw [Nat.sub_zero] at h1 h1'
      obtain ⟨x,x1,x2⟩:=ok1
      obtain ⟨y,y1,y2⟩:=ok2
      rw [h1] at x1;cases x1
      rw [h1'] at y1;cases y1
      rw [atL h1,atL h1'] at he
      have:=hh.inj b b' e e' h2 h2' x2 y2 he
      subst this
      exact De hn h1 h1'
    · obtain ⟨b,h1,_⟩:=q
      exact (List.getElem?_eq_some_iff.1 h1).1
  · obtain ⟨b,q1,q2⟩:=q
    rw [idL hi] at q1;cases q1
    exact hbk i hi q2
  · simp only [norm]
    rcases Nat.lt_or_ge keep.length lent.length with q | q
    · have:=idL q
      rw [List.getElem?_eq_none (Nat.le_refl _)] at this;cases this
    · exact q
inductive GP where
  | slot (t:Nat)
  | part (t i:Nat)
  | cell (b i:Nat)
def jc.empty:jc→Bool
  | .cf [] | .ci _ [] | .cb [] | .cs [] | .cfl [] | .cns _ []=>true
  | _=>false
def Ld:List jc→Bool
  | []=>true
  | c::l=>c.empty&&Ld l
def aN.isVoid:aN→Bool
  | .fl [] | .ns _ [] | .bs [] | .ss [] | .vs []=>true
  | .cols 0 cs=>Ld cs
  | _=>false
theorem Th{c:jc}(h:c.empty=true) :c.len=0:=by
  unfold jc.empty at h
  split at h<;>first | rfl | cases h
theorem BA:∀ {l:List jc},Ld l=true→∀ c∈l,c.len=0
  | [],_,c,hc=>by cases hc
  | c::l,h,x,hx=>by
    simp only [Ld,Bool.and_eq_true] at h
    rcases List.mem_cons.1 hx with rfl | q
    · exact Th h.1
    · exact BA h.2 x q
theorem FV{d:aN}(h:d.isVoid=true) :d.recKept∧d.void:=by
  unfold aN.isVoid at h
  split at h
  case h_6 =>
    rename_i cs
    have:=BA h
    refine ⟨this,fun x=>?_⟩
    cases hc:(aN.cols 0 cs).cell? x with
    | none=>rfl
    | some v =>
      obtain ⟨c,_,h2,h3⟩:=jx hc
      have:=Fw h3
      rw [BA h c h2] at this;exact absurd this (Nat.not_lt_zero _)
  case h_7=>cases h
  all_goals exact ⟨trivial,fun x=>by simp [aN.cell?]⟩
theorem Ti(b w es:Nat) :br .nsl (.sl b w es 0 0 0):=by
  intro ρ w' u h;cases h;exact .slEnd _ _ _ _ _
theorem HR.weaken{ρ:am}{w:World}{h:bO}{n b:Nat}{d d':aN}(hh:HR ρ w h n)(hg:bp h b=some d)(hr:d'.recKept)(hw:∀ x v',d'.cell? x=some v'→∃ v,d.cell? x=some v∧br v v') :HR ρ w (fB h b d') n:=by
  have look:∀ x e,bp (fB h b d') x=some e→(x=b∧e=d')∨(x≠b∧bp h x=some e):=by
    intro x e hx
    rw [dJ] at hx
    by_cases q:b=x
    · rw [if_pos q] at hx;cases hx;exact .inl ⟨q.symm,rfl⟩
    · rw [if_neg q] at hx;exact .inr ⟨fun e=>q e.symm,hx⟩
  have had:∀ x e,bp (fB h b d') x=some e→∃ e',bp h x=some e':=by
    intro x e hx
    rcases look x e hx with ⟨rfl,_⟩ | ⟨_,q⟩
    · exact ⟨d,hg⟩
    · exact ⟨e,q⟩
  refine ⟨fun x e hx=>?_,fun x y e f h1 h2 ok1 ok2 he=>?_,hh.fresh,hh.liveLt,hh.outLt,hh.lt,hh.rom⟩
  · rcases look x e hx with ⟨rfl,rfl⟩ | ⟨_,q⟩
    · rcases hh.cell x d hg with ⟨k1,k2,_,c,t,r1,r2⟩ | ⟨k1,k2,_,k4⟩
      · refine .inl ⟨k1,k2,hr,c,t,r1,fun y v' hy=>?_⟩
        obtain ⟨v,q1,q2⟩:=hw y v' hy
        obtain ⟨u,t1,t2⟩:=r2 y v q1
        exact ⟨u,t1,q2 _ _ _ t2⟩
      · refine .inr ⟨k1,k2,hr,fun y=>?_⟩
        cases hc:e.cell? y with
        | none=>rfl
        | some v'=>obtain ⟨v,q1,_⟩:=hw y v' hc;rw [k4 y] at q1;cases q1
    · exact hh.cell x e q
  · obtain ⟨e',q1⟩:=had x e h1
    obtain ⟨f',q2⟩:=had y f h2
    exact hh.inj x y e' f' q1 q2 ok1 ok2 he
def ajQ(st:aC)(pos:GP)(w es:Nat)(d:aN) :aC :=
  match pos with
  | .slot t =>
    match st.tmps[t]? with
    | some .nsl=>⟨st.tmps.set t (.sl st.next w es 0 0 0),fB st.heap st.next d,st.next+1⟩
    | some .esl=>⟨st.tmps.set t (.sl st.next w es 0 0 0),fB st.heap st.next d,st.next+1⟩
    | _=>st
  | .part t i =>
    match st.tmps[t]? with
    | some (.agg l) =>
      match l[i]? with
      | some .nsl=>⟨st.tmps.set t (.agg (l.set i (.sl st.next w es 0 0 0))),fB st.heap st.next d,st.next+1⟩
      | _=>st
    | _=>st
  | .cell b i =>
    match bp st.heap b with
    | some (.vs l) =>
      match l[i]? with
      | some .nsl=>⟨st.tmps,fB (fB st.heap b (.vs (l.set i (.sl st.next w es 0 0 0)))) st.next d,st.next+1⟩
      | _=>st
    | _=>st
theorem aoU(b w es:Nat) :br .esl (.sl b w es 0 0 0):=by
  intro ρ w' u h;cases h;exact .slEnd _ _ _ _ _
theorem AF{ρ:am}{w:World} :∀ {l:List AV} {c:List Value} {i:Nat} {v v':AV},da ρ w l c→l[i]? = some v→br v v'→da ρ w (l.set i v') c
  | _,_,i,v,v',.nil,h,_=>by simp at h
  | _,_,0,v,v',.cons a u l c h t,hi,hw=>by simp at hi;subst hi;exact .cons _ _ _ _ (hw _ _ _ h) t
  | _,_,i+1,v,v',.cons a u l c h t,hi,hw=>.cons _ _ _ _ h (AF t (by simpa using hi) hw)
theorem ajR{lent:List aN}{st:aC}{pos:GP}{w es:Nat}{d:aN}(hd:d.isVoid=true) :Sub lent st (ajQ st pos w es d):=by
  obtain ⟨d1,d2⟩:=FV hd
  rintro ρ0 w0 a w' hN ⟨ρ,E,W,S,hbk,hle⟩
  have hh:=S.heap
  have hno : ¬ ρ.ok st.next:=fun q=>Nat.lt_irrefl _ (hh.lt _ q)
  have h1:HR ρ w' (fB st.heap st.next d) (st.next+1):=(hh.le (Nat.le_succ _)).ghost hno (Nat.lt_succ_self _) d1 d2
  have id_:At lent.length ρ0 w0 st a w':=⟨ρ,E,W,S,hbk,hle⟩
  unfold ajQ
  split
  · split
    · rename_i t h
      exact ⟨ρ,E,W,⟨S.defers,AF S.tmps h (Ti _ _ _),h1⟩,hbk,Nat.le_succ_of_le hle⟩
    · rename_i t h
      exact ⟨ρ,E,W,⟨S.defers,AF S.tmps h (aoU _ _ _),h1⟩,hbk,Nat.le_succ_of_le hle⟩
    · exact id_
  · split
    · rename_i t i l h
      split
      · rename_i h2
        refine ⟨ρ,E,W,⟨S.defers,AF S.tmps h ?_,h1⟩,hbk,Nat.le_succ_of_le hle⟩
        intro ρ w u hu
        cases hu with | agg _ c hc=>exact .agg _ _ (AF hc h2 (Ti _ _ _))
      · exact id_
    · exact id_
  · split
    · rename_i b i _ l h
      split
      · rename_i h2
        have hw:HR ρ w' (fB st.heap b (.vs (l.set i (.sl st.next w es 0 0 0)))) st.next:=by
          refine hh.weaken h trivial fun x v' hx=>?_
          simp only [aN.cell?,List.getElem?_set] at hx ⊢
          by_cases hi:i=x
          · subst hi
            rw [if_pos rfl] at hx
            split at hx
            · cases hx;exact ⟨_,h2,Ti _ _ _⟩
            · cases hx
          · rw [if_neg hi] at hx;exact ⟨v',hx,br.refl _⟩
        exact ⟨ρ,E,W,⟨S.defers,S.tmps,(hw.le (Nat.le_succ _)).ghost hno (Nat.lt_succ_self _) d1 d2⟩,hbk,Nat.le_succ_of_le hle⟩
      · exact id_
    · exact id_
def Tj(f:AV→Option AV)(st:aC)(pos:GP) :aC :=
  match pos with
  | .slot t =>
    match st.tmps[t]? with
    | some v=>match f v with
      | some v'=>⟨st.tmps.set t v',st.heap,st.next⟩
      | none=>st
    | none=>st
  | .part t i =>
    match st.tmps[t]? with
    | some (.agg l) =>
      match l[i]? with
      | some v=>match f v with
        | some v'=>⟨st.tmps.set t (.agg (l.set i v')),st.heap,st.next⟩
        | none=>st
      | none=>st
    | _=>st
  | .cell b i =>
    match bp st.heap b with
    | some (.vs l) =>
      match l[i]? with
      | some v=>match f v with
        | some v'=>⟨st.tmps,fB st.heap b (.vs (l.set i v')),st.next⟩
        | none=>st
      | none=>st
    | _=>st
theorem JP{lent:List aN}{st:aC}{pos:GP}{f:AV→Option AV}(hf:∀ v v',f v=some v'→br v v') :Sub lent st (Tj f st pos):=by
  rintro ρ0 w0 a w' hN ⟨ρ,E,W,S,hbk,hle⟩
  have hh:=S.heap
  have id_:At lent.length ρ0 w0 st a w':=⟨ρ,E,W,S,hbk,hle⟩
  unfold Tj
  split
  · split
    · rename_i t v h
      split
      · rename_i v' hv
        exact ⟨ρ,E,W,⟨S.defers,AF S.tmps h (hf _ _ hv),hh⟩,hbk,hle⟩
      · exact id_
    · exact id_
  · split
    · rename_i t i l h
      split
      · rename_i v h2
        split
        · rename_i v' hv
          refine ⟨ρ,E,W,⟨S.defers,AF S.tmps h ?_,hh⟩,hbk,hle⟩
          intro ρ w u hu
          cases hu with | agg _ c hc=>exact .agg _ _ (AF hc h2 (hf _ _ hv))
        · exact id_
      · exact id_
    · exact id_
  · split
    · rename_i b i _ l h
      split
      · rename_i v h2
        split
        · rename_i v' hv
          have hw:HR ρ w' (fB st.heap b (.vs (l.set i v'))) st.next:=by
            refine hh.weaken h trivial fun x u hx=>?_
            simp only [aN.cell?,List.getElem?_set] at hx ⊢
            by_cases hi:i=x
            · subst hi
              rw [if_pos rfl] at hx
              split at hx
              · cases hx;exact ⟨_,h2,hf _ _ hv⟩
              · cases hx
            · rw [if_neg hi] at hx;exact ⟨u,hx,br.refl _⟩
          exact ⟨ρ,E,W,⟨S.defers,S.tmps,hw⟩,hbk,hle⟩
        · exact id_
      · exact id_
    · exact id_
theorem AG{d:aN}(h:d.isVoid=true) :d.kept=true∧d.foreign=true:=by
  unfold aN.isVoid at h
  split at h<;>first | exact ⟨rfl,rfl⟩ | cases h
theorem anl{d:aN}(w es:Nat)(hd:d.isVoid=true) :br .nsl (.imm .free d w es 0 0):=by
  intro ρ w' u h;cases h;exact .immEnd _ _ _ _ _ _ _ (FV hd).1 (fun _=>(AG hd).1) (AG hd).2
theorem anm{d:aN}(w es:Nat)(hd:d.isVoid=true) :br .esl (.imm .free d w es 0 0):=by
  intro ρ w' u h;cases h;exact .immEnd _ _ _ _ _ _ _ (FV hd).1 (fun _=>(AG hd).1) (AG hd).2
def ajS(w es:Nat)(d:aN) :AV→Option AV
  | .nsl | .esl=>some (.imm .free d w es 0 0)
  | _=>none
theorem agi{w es:Nat}{d:aN}(hd:d.isVoid=true) :∀ v v',ajS w es d v=some v'→br v v':=by
  intro v v' h
  unfold ajS at h
  split at h
  · cases h;exact anl _ _ hd
  · cases h;exact anm _ _ hd
  · cases h
theorem amc{l:Lv}{ρ:am}{bl:Nat}(ha:ρ.avoid .free bl) :ρ.avoid l bl:=nJ (fun j=>ha j (Nat.zero_le _)) _ _
def arR(l:Lv) :AV→Option AV
  | .imm .free d w es i n=>some (.imm l d w es i n)
  | .iptr .free d w i j=>some (.iptr l d w i j)
  | _=>none
theorem ann{l:Lv} :∀ v v',arR l v=some v'→br v v':=by
  intro v v' h
  unfold arR at h
  split at h
  · cases h
    intro ρ w' u hu
    cases hu with
    | imm _ _ _ _ _ _ cap bl o u ha hb hc hv hn hr hk hg=>exact .imm _ _ _ _ _ _ cap bl o u (amc ha) hb hc hv hn hr (fun _=>hk rfl) hg
    | immEnd _ _ _ _ _ cap a hr hk hg=>exact .immEnd _ _ _ _ _ cap a hr (fun _=>hk rfl) hg
  · cases h
    intro ρ w' u hu
    cases hu with
    | iptr _ _ _ _ _ bl o u ha hb hc hv hr hk hg=>exact .iptr _ _ _ _ _ bl o u (amc ha) hb hc hv hr (fun _=>hk rfl) hg
  · cases h
def aoV:AV→Option AV
  | .imm _ d w es i n=>some (.imm .lent d w es i n)
  | .iptr _ d w i j=>some (.iptr .lent d w i j)
  | _=>none
theorem ajT:∀ v v',aoV v=some v'→br v v':=by
  intro v v' h
  unfold aoV at h
  split at h
  · cases h
    intro ρ w' u hu
    cases hu with
    | imm _ _ _ _ _ _ cap bl o u ha hb hc hv hn hr hk hg=>exact .imm _ _ _ _ _ _ cap bl o u (Jz (O:=ρ.own) ha) hb hc hv hn hr (fun q=>by cases q) hg
    | immEnd _ _ _ _ _ cap a hr hk hg=>exact .immEnd _ _ _ _ _ cap a hr (fun q=>by cases q) hg
  · cases h
    intro ρ w' u hu
    cases hu with
    | iptr _ _ _ _ _ bl o u ha hb hc hv hr hk hg=>exact .iptr _ _ _ _ _ bl o u (Jz (O:=ρ.own) ha) hb hc hv hr (fun q=>by cases q) hg
  · cases h
inductive GK where
  | own (w es:Nat) (d:aN)
  | fre (w es:Nat) (d:aN)
  | lev (l:Lv)
  | low
abbrev GL:=List (GP×GK)
def NR:GL→aC→aC
  | [],st=>st
  | (p,.fre w es d)::l,st=>NR l (Tj (ajS w es d) st p)
  | (p,.own w es d)::l,st=>NR l (ajQ st p w es d)
  | (p,.lev v)::l,st=>NR l (Tj (arR v) st p)
  | (p,.low)::l,st=>NR l (Tj aoV st p)
def pP:GL→Bool
  | []=>true
  | (_,.own _ _ d)::l=>d.isVoid&&pP l
  | (_,.fre _ _ d)::l=>d.isVoid&&pP l
  | (_,.lev _)::l=>pP l
  | (_,.low)::l=>pP l
theorem zu{lent:List aN} :∀ {l:GL} {st:aC},pP l=true→Sub lent st (NR l st)
  | [],st,_=>Sub.refl _ _
  | (p,.fre w es d)::l,st,h=>by
    simp only [pP,Bool.and_eq_true] at h
    exact (JP (agi h.1)).trans (zu h.2)
  | (p,.own w es d)::l,st,h=>by
    simp only [pP,Bool.and_eq_true] at h
    exact (ajR h.1).trans (zu h.2)
  | (p,.lev v)::l,st,h=>(JP ann).trans (zu (l:=l) (by simpa [pP] using h))
  | (p,.low)::l,st,h=>(JP ajT).trans (zu (l:=l) (by simpa [pP] using h))
structure NS where
  gs:GL
  keep:List Nat
  ks:List Nat
def NS.ok(k:Nat)(s:NS) :Bool:=pP s.gs&&ajP k s.keep
def NS.on(s:NS)(st:aC) :aC:=norm s.keep s.ks (NR s.gs st)
theorem aoW{lent:List aN}{s:NS}(h:s.ok lent.length=true)(st:aC) :Sub lent st (s.on st):=by
  unfold NS.ok at h
  rw [Bool.and_eq_true] at h
  exact (zu h.1).trans (aoT h.2 _)
def cp:Code→List Code
  | .seq a b=>cp a++cp b
  | .skip=>[]
  | .label _=>[]
  | c=>[c]
def Wm(P:Program) :List Code→(Exit→Act→World→Prop)→Act→World→Prop
  | [],K,a,w=>K .normal a w
  | c::l,K,a,w=>c.wp P (fun e a' w'=>match e with | .normal=>Wm P l K a' w' | e=>K e a' w') a w
theorem JQ{P:Program}{K:Exit→Act→World→Prop} :∀ (l l':List Code) (a:Act) (w:World),Wm P l (fun e a' w'=>match e with | .normal=>Wm P l' K a' w' | e=>K e a' w') a w→Wm P (l++l') K a w
  | [],l',a,w,h=>h
  | c::l,l',a,w,h=>by
    simp only [List.cons_append,Wm] at h ⊢
    refine wp_mono h ?_
    intro e a' w' q
    cases e<;>first | exact JQ l l' a' w' q | exact q
theorem BB{P:Program}{c:Code}{K:Exit→Act→World→Prop}{a:Act}{w:World}(h:Wm P [c] K a w) :c.wp P K a w:=by
  simp only [Wm] at h
  refine wp_mono h ?_
  intro e a' w' q
  cases e<;>exact q
theorem Dm{P:Program} :∀ (c:Code) {K:Exit→Act→World→Prop} {a:Act} {w:World},Wm P (cp c) K a w→c.wp P K a w
  | .seq x y,K,a,w,h=>by
    simp only [cp] at h
    refine wp_seq (Dm x ?_)
    have app:∀ (l l':List Code) (a:Act) (w:World),Wm P (l++l') K a w→Wm P l (fun e a' w'=>match e with | .normal=>Wm P l' K a' w' | e=>K e a' w') a w:=by
      intro l
      induction l with
      | nil=>intro l' a w h;exact h
      | cons c l ih =>
        intro l' a w h
        simp only [List.cons_append,Wm] at h ⊢
        refine wp_mono h ?_
        intro e a' w' q
        cases e<;>first | exact ih l' a' w' q | exact q
    have:=app _ _ _ _ h
    have mono:∀ (l:List Code) (K K':Exit→Act→World→Prop) (a:Act) (w:World),(∀ e a w,K e a w→K' e a w)→Wm P l K a w→Wm P l K' a w:=by
      intro l
      induction l with
      | nil=>intro K K' a w hK h;exact hK _ _ _ h
      | cons c l ih =>
        intro K K' a w hK h
        simp only [Wm] at h ⊢
        refine wp_mono h ?_
        intro e a' w' q
        cases e<;>first | exact ih K K' a' w' hK q | exact hK _ _ _ q
    refine mono _ _ _ _ _ ?_ this
    intro e a' w' q
    cases e<;>first | exact Dm y q | exact q
  | .skip,K,a,w,h=>wp_skip h
  | .label _,K,a,w,h=>wp_label h
  | .region ..,K,a,w,h=>BB h
  | .cond ..,K,a,w,h=>BB h
  | .block ..,K,a,w,h=>BB h
  | .loop ..,K,a,w,h=>BB h
  | .exit ..,K,a,w,h=>BB h
  | .ret,K,a,w,h=>BB h
  | .scope ..,K,a,w,h=>BB h
  | .goto ..,K,a,w,h=>BB h
  | .rangeFunc ..,K,a,w,h=>BB h
  | .refuse ..,K,a,w,h=>BB h
def ka(P:Program)(lent:List aN)(cs:List Code)(st:aC)(Q:AE→aC→Prop) :Prop :=
  ∀ (ρ0:am) (w0:World),km ρ0 w0 lent→∀ (K:Exit→Act→World→Prop),(∀ e st' a' w',Q e st'→At lent.length ρ0 w0 st' a' w'→K e.real a' w')→∀ a w,At lent.length ρ0 w0 st a w→Wm P cs K a w
def ano(self:Dj) :List Code→aC→fD→Res
  | [],st,p=>some (.normal,st,[],p)
  | c::l,st,p =>
    match self c st p with
    | some (.normal,st1,o1,p1) =>
      match ano self l st1 p1 with
      | some (e,IZ,o2,p2)=>some (e,IZ,o1++o2,p2)
      | none=>none
    | r=>r
theorem amd{P:Program}{self:Dj}(hself:ab4 P self) :∀ (cs:List Code) {st st':aC} {p p':fD} {e:AE} {obs:List Bool},ano self cs st p=some (e,st',obs,p')→aH obs→∀ {ρ:am} {a:Act} {w:World} {Q:Exit→Act→World→Prop},ρ.pin.2=none→SR ρ st a w →
    (∀ ρ' a' w',SL ρ w st.next st' ρ' a' w'→Q e.real a' w')→Wm P cs Q a w
  | [],st,st',p,p',e,obs,h,ho,ρ,a,w,Q,hpn,hs,hQ=>by
    simp only [ano,Option.some.injEq,Prod.mk.injEq] at h;obtain ⟨rfl,rfl,rfl,rfl⟩:=h
    exact hQ ρ a w (SL.refl hs)
  | c::l,st,st',p,p',e,obs,h,ho,ρ,a,w,Q,hpn,hs,hQ=>by
    simp only [ano] at h
    split at h
    · rename_i st1 o1 p1 h1
      split at h
      case h_2=>cases h
      rename_i e2 IZ o2 p2 h2
      simp only [Option.some.injEq,Prod.mk.injEq] at h;obtain ⟨rfl,rfl,rfl,rfl⟩:=h
      rw [bn] at ho
      refine hself c st p _ _ _ _ h1 ho.1 ρ a w _ hpn hs fun ρ1 a1 w1 P1=>?_
      exact amd hself l h2 ho.2 (by rw [P1.ext.pin];exact hpn) P1.sr fun ρ2 a2 w2 P2=>hQ ρ2 a2 w2 (P1.trans P2)
    · rename_i hne
      refine hself c st p _ _ _ _ h ho ρ a w _ hpn hs fun ρ1 a1 w1 P1=>?_
      have:=hQ ρ1 a1 w1 P1
      cases e with
      | normal=>exact (hne _ _ _ h).elim
      | ret=>exact this
      | exit id=>exact this
theorem At.post{lent:List aN}{ρ0 ρ ρ':am}{w0 w w':World}{st st':aC}{a a':Act}(E:oa ρ0 ρ w0)(W:jX ρ0.live w0 w)(hbk:∀ i,i<lent.length→ρ.ok i→ρ0.ok i)(hle:lent.length≤st.next)(h:SL ρ w st.next st' ρ' a' w') :At lent.length ρ0 w0 st' a' w' :=
  ⟨ρ',E.trans h.ext W.size,W.trans h.wle (fun x hx q=>E.new x hx q),h.sr,fun i hi q=>(h.back i q).elim (hbk i hi) (fun r=>by omega),Nat.le_trans hle h.le⟩
theorem ka.weak{P:Program}{lent:List aN}{cs:List Code}{st st1:aC}{Q:AE→aC→Prop}(hs:Sub lent st st1)(h:ka P lent cs st1 Q) :ka P lent cs st Q :=
  fun ρ0 w0 hN K hK a w hA=>h ρ0 w0 hN K hK a w (hs _ _ _ _ hN hA)
theorem ka.nil{P:Program}{lent:List aN}{st:aC}{Q:AE→aC→Prop}(h:Q .normal st) :ka P lent [] st Q :=
  fun ρ0 w0 hN K hK a w hA=>hK .normal st a w h hA
def WC(P:Program)(lent:List aN)(rest:List Code)(e:AE)(st:aC)(Q:AE→aC→Prop) :Prop :=
  match e with
  | .normal=>ka P lent rest st Q
  | e=>Q e st
theorem WC.exit{P:Program}{lent:List aN}{rest:List Code}{id:Nat}{st:aC}{Q:AE→aC→Prop}(h:Q (.exit id) st) :WC P lent rest (.exit id) st Q:=h
theorem WC.ret{P:Program}{lent:List aN}{rest:List Code}{st:aC}{Q:AE→aC→Prop}(h:Q .ret st) :WC P lent rest .ret st Q:=h
theorem WC.normal{P:Program}{lent:List aN}{rest:List Code}{st:aC}{Q:AE→aC→Prop}(h:ka P lent rest st Q) :WC P lent rest .normal st Q:=h
def aoX(s:NS)(r:Res) :Option (AE×aC×List Bool) :=
  match r with
  | some (e,st,obs,_)=>some (e,s.on st,obs)
  | none=>none
theorem ka.seg{C:CB}(hC:C.Ok){S:FP}(hS:aJ C.P S){lent:List aN}{N n:Nat}(k:Nat)(p:fD)(s:NS){cs:List Code}{st st1:aC}{e:AE}{obs:List Bool}{Q:AE→aC→Prop} 
    (h:aoX s (ano (kB C S N n) (cs.take k) st p)=some (e,st1,obs)) (hn:s.ok lent.length=true) (ho:aH obs) (hr:WC C.P lent (cs.drop k) e st1 Q):ka C.P lent cs st Q:=by
  intro ρ0 w0 hN K hK a w ⟨ρ,E,W,S1,hbk,hle⟩
  rw [←List.take_append_drop k cs]
  apply JQ
  unfold aoX at h
  split at h
  case h_2=>cases h
  rename_i e' IZ obs' p' hrun
  simp only [Option.some.injEq,Prod.mk.injEq] at h;obtain ⟨rfl,rfl,rfl⟩:=h
  refine amd (Tf hC hS N n) _ hrun ho (by rw [E.pin];exact hN.pin) S1 fun ρ' a' w' P1=>?_
  have hA:=aoW hn IZ ρ0 w0 a' w' hN (At.post (st:=st) (a:=a) E W hbk hle P1)
  cases e' with
  | normal=>exact hr ρ0 w0 hN K hK a' w' hA
  | ret=>exact hK _ _ _ _ hr hA
  | exit id=>exact hK _ _ _ _ hr hA
def Le(P:Program)(lent:List aN){σ:Type}(I:σ→aC)(G:σ→Prop)(m:σ→Nat)(s:σ)(id:Nat)(rest:List Code)(Q:AE→aC→Prop)(e:AE)(st:aC) :Prop :=
  match e with
  | .normal=>∃ s',G s'∧m s'<m s∧st=I s'
  | .exit j=>if j=id then ka P lent rest st Q else Q (.exit j) st
  | .ret=>Q .ret st
theorem Le.out{P:Program}{lent:List aN}{σ:Type}{I:σ→aC}{G:σ→Prop}{m:σ→Nat}{s:σ}{id:Nat}{rest:List Code}{Q:AE→aC→Prop}{st:aC}(h:ka P lent rest st Q) :Le P lent I G m s id rest Q (.exit id) st:=by
  simp only [Le,if_true];exact h
theorem Le.on{P:Program}{lent:List aN}{σ:Type}{I:σ→aC}{G:σ→Prop}{m:σ→Nat}{s:σ}{id:Nat}{rest:List Code}{Q:AE→aC→Prop}{st:aC}(s':σ)(hs:st=I s')(hm:m s'<m s)(hG:G s') :ka P lent [] st (Le P lent I G m s id rest Q) :=
  ka.nil ⟨s',hG,hm,hs⟩
theorem ka.loop{P:Program}{lent:List aN}{σ:Type}(I:σ→aC)(G:σ→Prop)(m:σ→Nat){id:Nat}{b:Code}{cs rest:List Code}{Q:AE→aC→Prop}(hcs:cs=.block id (.loop b)::rest) 
    (body:∀ s,G s→ka P lent (cp b) (I s) (Le P lent I G m s id rest Q)) (s:σ) (hs:G s):ka P lent cs (I s) Q:=by
  subst hcs
  intro ρ0 w0 hN K hK a w hA
  simp only [Wm]
  refine wp_block ?_
  refine wp_loop_rounds (m s+1) ?_
  have key:∀ n s,m s<n→G s→∀ a w,At lent.length ρ0 w0 (I s) a w→Code.rounds P b (Exit.inBlock id fun (e:Exit) a' w'=>match e with | .normal=>Wm P rest K a' w' | e=>K e a' w') n a w:=by
    intro n
    induction n with
    | zero=>intro s h;omega
    | succ n ih =>
      intro s hm hs a w hA
      rw [rounds_succ]
      refine Dm b ?_
      refine body s hs ρ0 w0 hN _ ?_ a w hA
      intro e st' a' w' hR hA'
      cases e with
      | normal =>
        obtain ⟨s',h1,h2,rfl⟩:=hR
        exact ih s' (by omega) h1 a' w' hA'
      | ret=>exact hK _ _ _ _ hR hA'
      | exit j =>
        simp only [Le] at hR
        by_cases hj:j=id
        · subst hj
          rw [if_pos rfl] at hR
          simp only [AE.real,Exit.then,Exit.inBlock,if_true]
          exact hR ρ0 w0 hN K hK a' w' hA'
        · rw [if_neg hj] at hR
          simp only [AE.real,Exit.then,Exit.inBlock,hj,if_false]
          exact hK _ _ _ _ hR hA'
  exact key _ s (Nat.lt_succ_self _) hs a w hA
theorem ka.mono{P:Program}{lent:List aN}{cs:List Code}{st:aC}{Q Q':AE→aC→Prop}(hQ:∀ e st,Q e st→Q' e st)(h:ka P lent cs st Q) :ka P lent cs st Q' :=
  fun ρ0 w0 hN K hK a w hA=>h ρ0 w0 hN K (fun e st' a' w' q hA'=>hK e st' a' w' (hQ e st' q) hA') a w hA
theorem ka.block{P:Program}{lent:List aN}{id:Nat}{b:Code}{cs rest:List Code}{st:aC}{Q:AE→aC→Prop}(hcs:cs=.block id b::rest) 
    (h:ka P lent (cp b) st fun e st'=>match e with | .normal=>ka P lent rest st' Q | .exit j=>if j=id then ka P lent rest st' Q else Q (.exit j) st' | .ret=>Q .ret st'):ka P lent cs st Q:=by
  subst hcs
  intro ρ0 w0 hN K hK a w hA
  simp only [Wm]
  refine wp_block (Dm b ?_)
  refine h ρ0 w0 hN _ ?_ a w hA
  intro e st' a' w' hR hA'
  cases e with
  | normal=>exact hR ρ0 w0 hN K hK a' w' hA'
  | ret=>exact hK _ _ _ _ hR hA'
  | exit j =>
    simp only at hR
    by_cases hj:j=id
    · subst hj
      rw [if_pos rfl] at hR
      simp only [AE.real,Exit.inBlock,if_true]
      exact hR ρ0 w0 hN K hK a' w' hA'
    · rw [if_neg hj] at hR
      simp only [AE.real,Exit.inBlock,hj,if_false]
      exact hK _ _ _ _ hR hA'
theorem ka.scope{P:Program}{lent:List aN}{b:Code}{cs rest:List Code}{st:aC}{Q:AE→aC→Prop}(hcs:cs=.scope b::rest) 
    (h:ka P lent (cp b) st fun e st'=>WC P lent rest e st' Q):ka P lent cs st Q:=by
  subst hcs
  intro ρ0 w0 hN K hK a w hA
  simp only [Wm]
  refine wp_scope_straight (Dm b ?_)
  refine h ρ0 w0 hN _ ?_ a w hA
  intro e st' a' w' hR hA'
  cases e with
  | normal=>exact hR ρ0 w0 hN K hK a' w' hA'
  | ret=>exact hK _ _ _ _ hR hA'
  | exit j=>exact hK _ _ _ _ hR hA'
def ame(P:Program)(fn:Func)(k:Nat)(keep:Bool)(r:fU)(e:AE)(st:aC) :Prop :=
  (e=.normal∨e=.ret)∧∃ vs obs,mV P fn st fn.results.toList=some (vs,obs)∧aH obs∧S9 k keep st.heap (NP vs)=some r
theorem ka.contract{P:Program}{f:FuncId}{fn:Func}{c:Code}(hf:P.funcs[f]? = some fn)(hc:fn.body=some c){lent:List aN}{args:List AV}{r:fU}{keep:Bool} 
    (h:ka P lent (cp c) (vu fn lent args) (ame P fn lent.length keep r)):ai P f lent args r:=by
  refine FS (keep:=keep) hf hc ?_
  intro ρ w a hN hs
  refine Dm c ?_
  refine h ρ w hN _ ?_ a w ⟨ρ,oa.refl _ _,jX.refl _ _,hs,fun _ _ q=>q,Nat.le_refl _⟩
  rintro e st' a' w' ⟨he,vs,obs,h1,h2,h3⟩ ⟨ρ',E,W,S,hbk,_⟩
  refine ⟨?_,ρ',st',vs,obs,E,W,hbk,S,h1,h2,h3⟩
  rcases he with rfl | rfl
  · exact .inl rfl
  · exact .inr rfl
def wC(x:Nat) :Nat:=x%9223372036854775808
def un(x y:Nat) :Nat:=x%9223372036854775808+y/9223372036854775808%2*9223372036854775808
def aoY(x y:Nat) :Bool:=(isNaN x&&isNaN y)||x==y
theorem rN(x:Nat) :BitVec.ofInt 64 (x:Int)=BitVec.ofNat 64 x:=by simp
theorem aqH : ~~~ BitVec.ofInt 64 9223372036854775808=BitVec.ofNat 64 (2^63-1):=by decide
theorem gB(n:Nat) :IntKind.u64.wrap (n:Int)=((n%18446744073709551616:Nat):Int):=by
  simp [IntKind.wrap,IntKind.signed,IntKind.bits]
theorem aoZ(x:Nat) :(cq .andNot .u64 (x:Int) 9223372036854775808)=((wC x:Nat):Int):=by
  have e:(BitVec.ofInt IntKind.u64.bits (x:Int) &&& ~~~ BitVec.ofInt IntKind.u64.bits 9223372036854775808).toNat=x%9223372036854775808:=by
    show (BitVec.ofInt 64 (x:Int) &&& ~~~ BitVec.ofInt 64 9223372036854775808).toNat=_
    rw [aqH,rN,BitVec.toNat_and,BitVec.toNat_ofNat,BitVec.toNat_ofNat]
    have:(2^63-1)%2^64=2^63-1:=by decide
    rw [this,Nat.and_two_pow_sub_one_eq_mod]
    omega
  unfold cq
  simp only
  rw [e,gB]
  congr 1
  unfold wC
  omega
theorem arS(y:Nat) :(cq .and .u64 (y:Int) 9223372036854775808)=((y/9223372036854775808%2*9223372036854775808:Nat):Int):=by
  have e:(BitVec.ofInt IntKind.u64.bits (y:Int) &&& BitVec.ofInt IntKind.u64.bits 9223372036854775808).toNat=y/9223372036854775808%2*9223372036854775808:=by
    show (BitVec.ofInt 64 (y:Int) &&& BitVec.ofInt 64 9223372036854775808).toNat=_
    have h1:BitVec.ofInt 64 9223372036854775808=BitVec.ofNat 64 (2^63):=by decide
    rw [h1,rN,BitVec.toNat_and,BitVec.toNat_ofNat,BitVec.toNat_ofNat]
    have:2^63%2^64=2^63:=by decide
    rw [this]
    apply Nat.eq_of_testBit_eq;intro i
    have e2:(9223372036854775808:Nat)=2^63:=by decide
    rw [e2,Nat.testBit_and,Nat.testBit_two_pow,Nat.testBit_mod_two_pow,Nat.testBit_mul_two_pow]
    by_cases hi:63=i
    · subst hi
      simp [Nat.testBit_eq_decide_div_mod_eq]
    · by_cases h2:63≤i
      · have h3:∃ j,i-63=j+1:=⟨i-64,by omega⟩
        obtain ⟨j,hj⟩:=h3
        have:(y/2^63%2).testBit (i-63)=false:=by
          have:=Nat.mod_lt (y/2^63) (by decide:2>0)
          apply Nat.testBit_lt_two_pow
          calc y/2^63%2<2:=this
            _=2^1:=rfl
            _≤2^(i-63):=Nat.pow_le_pow_right (by decide) (by omega)
        simp [hi,this]
      · simp [hi,h2]
  unfold cq
  simp only
  rw [e,gB]
  congr 1
  omega
theorem amf(x:Nat) :(IntKind.u64.wrap ((x:Int)*2^min (Int.toNat 1) IntKind.u64.bits)).fdiv (2^min (Int.toNat 1) IntKind.u64.bits)=((wC x:Nat):Int):=by
  have h1:min (Int.toNat 1) IntKind.u64.bits=1:=by decide
  have h2:(2:Int)^1=2:=by decide
  rw [h1,h2]
  have h3:(x:Int)*2=((x*2:Nat):Int):=by push_cast;rfl
  rw [h3,gB,Int.fdiv_eq_ediv_of_nonneg _ (by decide:(0:Int)≤2)]
  unfold wC
  omega
theorem aqI(y:Nat) :IntKind.u64.wrap ((y:Int).fdiv (2^min (Int.toNat 63) IntKind.u64.bits)*2^min (Int.toNat 63) IntKind.u64.bits)=((y/9223372036854775808%2*9223372036854775808:Nat):Int):=by
  have h1:min (Int.toNat 63) IntKind.u64.bits=63:=by decide
  have h2:(2:Int)^63=9223372036854775808:=by decide
  rw [h1,h2,Int.fdiv_eq_ediv_of_nonneg _ (by decide:(0:Int)≤9223372036854775808)]
  have h3:(y:Int)/9223372036854775808*9223372036854775808=((y/9223372036854775808*9223372036854775808:Nat):Int):=by rw [Int.natCast_mul,Int.natCast_ediv];rfl
  rw [h3,gB]
  congr 1
  omega
theorem arh(x y:Nat) :cq .or .u64 ((wC x:Nat):Int) ((y/9223372036854775808%2*9223372036854775808:Nat):Int)=((un x y:Nat):Int):=by
  have e:(BitVec.ofInt IntKind.u64.bits ((wC x:Nat):Int) ||| BitVec.ofInt IntKind.u64.bits ((y/9223372036854775808%2*9223372036854775808:Nat):Int)).toNat=un x y:=by
    show (BitVec.ofInt 64 ((wC x:Nat):Int) ||| BitVec.ofInt 64 ((y/9223372036854775808%2*9223372036854775808:Nat):Int)).toNat=_
    rw [rN,rN,BitVec.toNat_or,BitVec.toNat_ofNat,BitVec.toNat_ofNat]
    unfold wC un
    have hb0:=Nat.mod_lt (y/9223372036854775808) (by decide:2>0)
    generalize y/9223372036854775808%2=b at *
    have e2:(9223372036854775808:Nat)=2^63:=by decide
    have l1:x%9223372036854775808%2^64=x%9223372036854775808:=by omega
    rw [l1]
    rcases Nat.lt_or_ge b 2 with hb | hb
    · have l2:b*9223372036854775808%2^64=b*9223372036854775808:=by omega
      rw [l2,Nat.or_comm,Nat.add_comm,e2,Nat.mul_comm b,Nat.two_pow_add_eq_or_of_lt (Nat.mod_lt _ (by decide))]
    · omega
  unfold cq
  simp only
  rw [e,gB]
  congr 1
  unfold un
  have:=Nat.mod_lt x (by decide:9223372036854775808>0)
  have:=Nat.mod_lt (y/9223372036854775808) (by decide:2>0)
  omega
theorem Tk(x:Nat) :isNaN (wC x)=isNaN x:=by
  rw [pL,pL];unfold wC;rw [Nat.mod_mod]
theorem AH(x y:Nat) :isNaN (un x y)=isNaN x:=by
  rw [pL,pL];unfold un
  rw [Nat.add_mul_mod_self_right,Nat.mod_mod]
theorem ao0{ex:Bool}{x y:Nat}(h:FR ex x y) :FR false (wC x) (wC y):=by
  rcases h with rfl | ⟨h1,h2,h3⟩
  · exact .inl rfl
  · exact .inr ⟨rfl,by rw [Tk];exact h2,by rw [Tk];exact h3⟩
theorem FR.copy{e1 e2:Bool}{x y x' y':Nat}(h:FR e1 x x')(k:FR e2 y y')(hn:isNaN y=true→isNaN x=true) :FR false (un x y) (un x' y'):=by
  rcases h with rfl | ⟨h1,h2,h3⟩
  · rcases k with rfl | ⟨k1,k2,k3⟩
    · exact .inl rfl
    · exact .inr ⟨rfl,by rw [AH];exact hn k2,by rw [AH];exact hn k2⟩
  · exact .inr ⟨rfl,by rw [AH];exact h2,by rw [AH];exact h3⟩
theorem FR.same{e1 e2:Bool}{x y x' y':Nat}(h:FR e1 x x')(k:FR e2 y y') :aoY x' y'=aoY x y:=by
  unfold aoY
  rcases h with rfl | ⟨h1,h2,h3⟩
  · rcases k with rfl | ⟨k1,k2,k3⟩
    · rfl
    · rw [k2,k3]
      cases hx:isNaN x' with
      | true=>rfl
      | false =>
        have a:(x'==y')=false:=by
          rw [beq_eq_false_iff_ne];intro e;rw [e] at hx;rw [hx] at k3;cases k3
        have b:(x'==y)=false:=by
          rw [beq_eq_false_iff_ne];intro e;rw [e] at hx;rw [hx] at k2;cases k2
        rw [a,b]
  · rcases k with rfl | ⟨k1,k2,k3⟩
    · rw [h2,h3]
      cases hx:isNaN y' with
      | true=>rfl
      | false =>
        have a:(x'==y')=false:=by
          rw [beq_eq_false_iff_ne];intro e;rw [e] at h3;rw [hx] at h3;cases h3
        have b:(x==y')=false:=by
          rw [beq_eq_false_iff_ne];intro e;rw [e] at h2;rw [hx] at h2;cases h2
        rw [a,b]
    · rw [h2,h3,k2,k3];rfl
theorem fU.Holds.weak{ρ:am}{w w':World}{k:Nat}{v v':AV}{own:List (Option aN)}{u:Value}(h:(⟨v,own⟩:fU).Holds ρ w w' k u)(hw:∀ ρ w,VR ρ w v u→VR ρ w v' u) :(⟨v',own⟩:fU).Holds ρ w w' k u:=by
  obtain ⟨ρ',h1,h2,h3,h4⟩:=h
  exact ⟨ρ',h1,h2,h3,hw _ _ h4⟩
theorem E9{P:Program}{f:FuncId}{ex:Bool}{x:Nat}{r:Nat→AV}{r':AV}(h:∀ y,ai P f [] [.flt true y] ⟨r y,[]⟩) 
    (hw:∀ y,FR ex x y→∀ ρ w u,VR ρ w (r y) u→VR ρ w r' u):ai P f [] [.flt ex x] ⟨r',[]⟩:=by
  intro ρ w us hN hv
  cases hv with | cons _ u _ _ h1 h2 =>
  cases h2
  cases h1 with | flt _ _ y hf =>
  obtain ⟨q1,q2⟩:=h y ρ w [.float .f64 y] hN (.cons _ _ _ _ (.flt _ _ _ (.inl rfl)) .nil)
  refine ⟨q1,q2.mono ?_⟩
  rintro e w' ⟨u,rfl,W,hu⟩
  exact ⟨u,rfl,W,hu.weak fun ρ w=>hw y hf ρ w u⟩
theorem Fa{P:Program}{f:FuncId}{e1 e2:Bool}{x1 x2:Nat}{r:Nat→Nat→AV}{r':AV}(h:∀ y1 y2,ai P f [] [.flt true y1,.flt true y2] ⟨r y1 y2,[]⟩) 
    (hw:∀ y1 y2,FR e1 x1 y1→FR e2 x2 y2→∀ ρ w u,VR ρ w (r y1 y2) u→VR ρ w r' u):ai P f [] [.flt e1 x1,.flt e2 x2] ⟨r',[]⟩:=by
  intro ρ w us hN hv
  cases hv with | cons _ u _ _ h1 h2 =>
  cases h2 with | cons _ u _ _ h3 h4 =>
  cases h4
  cases h1 with | flt _ _ y1 hf1 =>
  cases h3 with | flt _ _ y2 hf2 =>
  obtain ⟨q1,q2⟩:=h y1 y2 ρ w [.float .f64 y1,.float .f64 y2] hN (.cons _ _ _ _ (.flt _ _ _ (.inl rfl)) (.cons _ _ _ _ (.flt _ _ _ (.inl rfl)) .nil))
  refine ⟨q1,q2.mono ?_⟩
  rintro e w' ⟨u,rfl,W,hu⟩
  exact ⟨u,rfl,W,hu.weak fun ρ w=>hw y1 y2 hf1 hf2 ρ w u⟩
theorem VR.flt_weak{ρ:am}{w:World}{x y:Nat}{u:Value}(h:VR ρ w (.flt true y) u)(hf:FR false x y) :VR ρ w (.flt false x) u:=by
  cases h with | flt _ _ z hz =>
  rcases hz with rfl | ⟨h1,_⟩
  · exact .flt _ _ _ hf
  · cases h1
structure ax where
  f:FuncId
  on:List aN→List AV→Option (List wA)
def FX:List ax→FP
  | [],_,_,_=>none
  | e::l,f,lent,args=>bif Nat.beq e.f f then (match e.on lent args with | some r=>some r | none=>FX l f lent args) else FX l f lent args
def agj:List ax→Nat
  | []=>0
  | e::l=>Nat.lor (Nat.shiftLeft 1 e.f) (agj l)
def aG(L:List ax) :FP:=fun f lent args=>bif SS (agj L) f then FX L f lent args else none
def aI(P:Program)(e:ax) :Prop:=∀ lent args alts a,e.on lent args=some alts→a∈alts→aH a.obs→ai P e.f lent args a.out
theorem aas:∀ {L:List ax} {e:ax},e∈L→SS (agj L) e.f=true
  | x::l,e,h=>by
    rw [HF]
    show ((1 <<< x.f) ||| agj l).testBit e.f=true
    rw [Nat.testBit_or,Bool.or_eq_true]
    rcases List.mem_cons.1 h with rfl | h
    · left;rw [Nat.one_shiftLeft,Nat.testBit_two_pow];simp
    · right;rw [←HF];exact aas h
theorem JR:∀ {L:List ax} {f:FuncId} {lent:List aN} {args:List AV} {alts:List wA},FX L f lent args=some alts→∃ e∈L,e.f=f∧e.on lent args=some alts
  | e::l,f,lent,args,alts,h=>by
    simp only [FX] at h
    cases hb:Nat.beq e.f f with
    | false=>rw [hb] at h;obtain ⟨x,h1,h2⟩:=JR h;exact ⟨x,by simp [h1],h2⟩
    | true =>
      rw [hb] at h
      have:=Nat.eq_of_beq_eq_true hb
      simp only [cond_true] at h
      split at h
      · rename_i r hr;cases h;exact ⟨e,by simp,this,hr⟩
      · obtain ⟨x,h1,h2⟩:=JR h;exact ⟨x,by simp [h1],h2⟩
theorem aat{L:List ax}{f:FuncId}{lent:List aN}{args:List AV}{alts:List wA}(h:FX L f lent args=some alts) :aG L f lent args=some alts:=by
  obtain ⟨e,h1,h2,_⟩:=JR h
  have:=aas h1
  rw [h2] at this
  simp only [aG,this,cond_true];exact h
theorem Tl{L:List ax}{f:FuncId}{lent:List aN}{args:List AV}{alts:List wA}(h:aG L f lent args=some alts) :FX L f lent args=some alts:=by
  unfold aG at h
  cases hb:SS (agj L) f with
  | false=>rw [hb] at h;cases h
  | true=>rw [hb] at h;exact h
theorem Tm(P:Program) :aJ P (aG []):=fun f lent args alts a h=>by have:=Tl h;cases this
theorem aj{P:Program}{e:ax}{l:List ax}(he:aI P e)(hl:aJ P (aG l)) :aJ P (aG (e::l)):=by
  intro f lent args alts a h ha ho
  replace h:=Tl h
  simp only [FX] at h
  cases hb:Nat.beq e.f f with
  | false=>rw [hb] at h;exact hl f lent args alts a (aat h) ha ho
  | true =>
    rw [hb] at h
    have:=Nat.eq_of_beq_eq_true hb
    subst this
    simp only [cond_true] at h
    split at h
    · rename_i r hr
      cases h
      exact he lent args alts a hr ha ho
    · exact hl _ lent args alts a (aat h) ha ho
def one(v:AV)(obs:List Bool) :Option (List wA):=some [⟨⟨v,[]⟩,obs⟩]
def ao1(v:AV)(own:List (Option aN))(obs:List Bool) :Option (List wA):=some [⟨⟨v,own⟩,obs⟩]
theorem anp{P:Program}{f:FuncId}{lent:List aN}{args:List AV}{alts:List wA}{a:wA}{v:AV}{own:List (Option aN)}{obs:List Bool}(h:ao1 v own obs=some alts)(ha:a∈alts)(ho:aH a.obs) 
    (hc:aH obs→ai P f lent args ⟨v,own⟩):ai P f lent args a.out:=by
  simp only [ao1,Option.some.injEq] at h;subst h
  simp only [List.mem_singleton] at ha;subst ha
  exact hc ho
theorem za{P:Program}{f:FuncId}{lent:List aN}{args:List AV}{alts:List wA}{a:wA}{v:AV}{obs:List Bool}(h:one v obs=some alts)(ha:a∈alts)(ho:aH a.obs) 
    (hc:aH obs→ai P f lent args ⟨v,[]⟩):ai P f lent args a.out:=anp (own:=[]) h ha ho hc
theorem ai.run{C:CB}(hC:C.Ok){S:FP}(hS:aJ C.P S)(p:fD){f:FuncId}{lent:List aN}{args:List AV}{p':fD}{r:fU}{obs:List Bool}(N n:Nat)(h:wB C S (kB C S N n) f lent args p=some (r,obs,p'))(ho:aH obs) :
    ai C.P f lent args r:=QB hC hS N n h ho
theorem ob{b:Bool}{l:List Bool}(h:b=true)(t:aH l) :aH (b::l):=⟨h,t⟩
theorem nob:aH []:=trivial
inductive jl:List AV→List AV→Prop
  | nil:jl [] []
  | cons {v v':AV} {l l':List AV} (h:br v v') (t:jl l l'):jl (v::l) (v'::l')
theorem jl.vrs{ρ:am}{w:World} :∀ {l l':List AV} {c:List Value},jl l l'→da ρ w l c→da ρ w l' c
  | _,_,_,.nil,.nil=>.nil
  | _,_,_,.cons h t,.cons _ _ _ _ hv tv=>.cons _ _ _ _ (h _ _ _ hv) (jl.vrs t tv)
theorem jl.refl:∀ l:List AV,jl l l
  | []=>.nil
  | v::l=>.cons (br.refl v) (jl.refl l)
theorem br.agg{l l':List AV}(h:jl l l') :br (.agg l) (.agg l'):=by
  intro ρ w u hv;cases hv with | agg _ _ hl=>exact .agg _ _ (h.vrs hl)
theorem br.tup{l l':List AV}(h:jl l l') :br (.tup l) (.tup l'):=by
  intro ρ w u hv;cases hv with | tup _ _ hl=>exact .tup _ _ (h.vrs hl)
theorem ai.args{P:Program}{f:FuncId}{lent:List aN}{a a':List AV}{r:fU}(h:ai P f lent a' r)(ha:jl a a') :ai P f lent a r :=
  fun ρ w us hN hv=>h ρ w us hN (ha.vrs hv)
theorem ai.weak{P:Program}{f:FuncId}{lent:List aN}{a:List AV}{v v':AV}{own:List (Option aN)}(h:ai P f lent a ⟨v,own⟩)(hw:br v v') :ai P f lent a ⟨v',own⟩:=by
  intro ρ w us hN hv
  obtain ⟨q1,q2⟩:=h ρ w us hN hv
  refine ⟨q1,q2.mono ?_⟩
  rintro e w' ⟨u,rfl,W,hu⟩
  exact ⟨u,rfl,W,hu.weak fun ρ w=>hw ρ w u⟩
theorem JS(k k' b:Bool) :br (.bool k b) (.bool k' b):=by
  intro ρ w u h;cases h;exact .bool _ _
end
end Go.Plb
namespace Go.Plb
noncomputable section
open Go.ChangeShapes Go.WideShapes Go.ChangeAt Go.RowKit Go.Deep
set_option linter.unusedSimpArgs false
set_option linter.unusedVariables false
set_option linter.unusedSectionVars false
variable [Rom]
def am.none_:am:={ at_:=fun _=>0,live:=fun _=>False,out:=fun _ _=>False,ok:=fun _=>False,pin:=(0,none) }
theorem aqJ(w:World)(hr:∀ x∈Rom.tab,VR am.none_ w x.2 (.pointer (some ⟨x.1,0,none⟩))) :km am.none_ w [] :=
  ⟨⟨fun b d q=>by simp [fZ,gu,eP] at q,fun b c d e q=>by simp [fZ,gu,eP] at q,fun bl q=>q.elim,fun bl q=>q.elim,fun j bl q=>q.elim,fun b q=>q.elim,hr⟩,fun bl q=>q.elim,rfl⟩
theorem JT(l:Lv)(bl:Nat) :am.none_.avoid l bl:=nJ (fun j=>by cases j<;>exact id) l 0
inductive FA where
  | i (k:IntKind) (n:Int)
  | f (x:Nat)
  | s (b:ByteArray)
  | b (b:Bool)
  | fl (xs:List Nat)
  | ns (k:IntKind) (xs:List Int)
def FA.av:FA→AV
  | .i k n=>.int k n
  | .f x=>.flt true x
  | .s z=>.str z
  | .b z=>.bool false z
  | .fl xs=>.imm .free (.fl xs) 1 1 0 xs.length
  | .ns k xs=>.imm .free (.ns k xs) 1 1 0 xs.length
theorem FA.kept(a:FA) :a.av.kept=true:=by cases a<;>rfl
inductive FT where
  | i (k:IntKind)
  | f
  | s
  | b
  | fl
  | ns (k:IntKind)
def FA.has:FT→FA→Prop
  | .i k,.i k' n=>k'=k∧(Lit.int k n).wf=true
  | .f,.f x=>(Lit.float .f64 x).wf=true
  | .s,.s z=>z.size≤maxLen
  | .b,.b _=>True
  | .fl,.fl xs=>xs.length≤maxLen∧∀ x∈xs,(Lit.float .f64 x).wf=true
  | .ns k,.ns k' xs=>k'=k∧xs.length≤maxLen∧∀ n∈xs,(Lit.int k n).wf=true
  | _,_=>False
def aqK(P:Program)(t:TypeId) :Option FT :=
  match P.underlying t with
  | some (.int k)=>some (.i k)
  | some (.float .f64)=>some .f
  | some .string=>some .s
  | some .bool=>some .b
  | some (.slice e) =>
    match P.underlying e,P.cellsOf e with
    | some (.float .f64),1=>some .fl
    | some (.int k),1=>some (.ns k)
    | _,_=>none
  | _=>none
def ab8:Value→Nat
  | .float _ b=>b
  | _=>0
def ab9:Value→Int
  | .int _ n=>n
  | _=>0
theorem Pj{W:World}{a:Addr}{i:Nat}{v:Value}(c:W.cell? (a.add i)=some v)(h0:a.spot=none) :a.add i=⟨a.block,a.off+i,none⟩:=by
  cases a;simp only at h0;subst h0
  unfold Addr.add;split
  · rename_i q;subst q;rfl
  · rfl
theorem Lf{W:World}{a:Addr}{v:Value}(c:W.cell? a=some v) :a.spot=none:=by
  unfold World.cell? at c
  split at c
  · cases q:a.spot with
    | none=>rfl
    | some s=>rw [q] at c;simp at c
  · cases c
theorem Tn{W:World}{a:Addr}{v:Value}(c:W.cell? a=some v) :a.block<W.heap.size:=by
  unfold World.cell? at c
  split at c
  · rename_i q;exact (Array.getElem?_eq_some_iff.1 q).1
  · cases c
theorem sk{α:Type}(f:Nat→α)(n x:Nat)(y:α)(h:((List.range n).map f)[x]? = some y) :x<n∧y=f x:=by
  rw [List.getElem?_map] at h
  rcases Nat.lt_or_ge x n with q | q
  · rw [List.getElem?_range q] at h;simp only [Option.map_some,Option.some.injEq] at h;exact ⟨q,h.symm⟩
  · rw [List.getElem?_eq_none (by simpa using q)] at h;cases h
variable {H : Type} {enc : TypeId × Value → H} {P : Program} {W : World}
theorem anq{t:TypeId}{ft:FT}{fuel:Nat}{v:Value}{x:DataW H×List MemPlace}(ht:aqK P t=some ft)(h:DataW.trod enc P W 0 (fun _=>true) true fuel t [v]=some x) :
    ∃ a:FA,a.has ft∧VR am.none_ W a.av v:=by
  cases fuel with
  | zero=>simp [DataW.trod] at h
  | succ fuel =>
  have h0:=h
  unfold aqK at ht
  split at ht
  · rename_i k hk
    cases ht
    simp only [DataW.trod,hk] at h
    cases v<;>simp at h
    rename_i k' n
    obtain ⟨⟨rfl,hw⟩,_⟩:=h
    exact ⟨.i k' n,⟨rfl,hw⟩,.int _ _⟩
  · rename_i hk
    cases ht
    simp only [DataW.trod,hk] at h
    cases v<;>simp at h
    rename_i k b
    obtain ⟨⟨rfl,hw⟩,_⟩:=h
    exact ⟨.f b,hw,.flt _ _ _ (.inl rfl)⟩
  · rename_i hk
    cases ht
    simp only [DataW.trod,hk] at h
    cases v<;>simp at h
    exact ⟨.s _,h.1,.str _⟩
  · rename_i hk
    cases ht
    simp only [DataW.trod,hk] at h
    cases v<;>simp at h
    exact ⟨.b _,trivial,.bool _ _⟩
  · rename_i e hk
    have key:∀ (he:P.cellsOf e=1),(v=.slice none 0 0)∨∃ (a:Addr) (len cap n:Nat) (V:Nat→Value),v=.slice (some a) len cap∧len≤cap∧cap≤maxLen ∧
        ∀ i,i<len→∃ y,W.cell? (a.add i)=some (V i)∧DataW.trod enc P W 0 (fun _=>true) true n e [V i]=some y:=by
      intro he
      rcases open_slice1 hk he h0 with ⟨h1,_⟩ | ⟨a,len,cap,m,n,V,D,Pl,h1,hb,hl,hm,hmm,_,hx⟩
      · simp only [List.cons.injEq,and_true] at h1
        exact .inl h1
      · simp only [List.cons.injEq,and_true] at h1
        refine .inr ⟨a,len,cap,n,V,h1,hl,hm,fun i hi=>⟨_,hx i (by rw [hmm,if_pos rfl];omega)⟩⟩
    split at ht
    · rename_i he hc
      cases ht
      rcases key hc with rfl | ⟨a,len,cap,n,V,rfl,hl,hm,hx⟩
      · exact ⟨.fl [],⟨Nat.zero_le _,fun x hx=>by cases hx⟩,.immEnd _ _ _ _ _ _ _ trivial (fun _=>rfl) rfl⟩
      · have hV:∀ i,i<len→V i=.float .f64 (ab8 (V i))∧(Lit.float .f64 (ab8 (V i))).wf=true:=by
          intro i hi
          obtain ⟨y,c1,c2⟩:=hx i hi
          cases n with
          | zero=>simp [DataW.trod] at c2
          | succ n =>
            simp only [DataW.trod,he] at c2
            cases hV:V i<;>rw [hV] at c2<;>simp at c2
            obtain ⟨⟨rfl,hw⟩,_⟩:=c2
            exact ⟨rfl,hw⟩
        refine ⟨.fl ((List.range len).map fun i=>ab8 (V i)),⟨by simp;omega,fun x hx=>?_⟩,?_⟩
        · simp only [List.mem_map,List.mem_range] at hx
          obtain ⟨i,hi,rfl⟩:=hx
          exact (hV i hi).2
        · simp only [FA.av,List.length_map,List.length_range]
          rcases Nat.eq_zero_or_pos len with rfl | hz
          · exact .immEnd _ _ _ _ _ _ _ trivial (fun _=>rfl) rfl
          · have h0:=Lf (hx 0 hz).choose_spec.1
            have hs:a.spot=none:=by
              have e:a.add 0=a:=by simp [Addr.add]
              rw [e] at h0;exact h0
            have hcell:∀ i,i<len→W.cell? ⟨a.block,a.off+i,none⟩=some (V i):=fun i hi=>by
              obtain ⟨y,c1,_⟩:=hx i hi
              rw [Pj c1 hs] at c1;exact c1
            have ha:a=⟨a.block,a.off+0*1,none⟩:=by cases a;simp only at hs;subst hs;rfl
            have:=VR.imm (ρ:=am.none_) (w:=W) .free (.fl ((List.range len).map fun i=>ab8 (V i))) 1 1 0 len cap a.block a.off V (JT _ _) (Tn (a:=⟨a.block,a.off+0,none⟩) (hcell 0 hz))
              (fun x v hx'=>by
                simp only [aN.cell?,Option.map_eq_some_iff] at hx'
                obtain ⟨y,h1,h2⟩:=hx'
                exact hcell x (sk _ _ _ _ h1).1)
              (fun x v hx'=>by
                simp only [aN.cell?,Option.map_eq_some_iff] at hx'
                obtain ⟨y,h1,rfl⟩:=hx'
                obtain ⟨q1,rfl⟩:=sk _ _ _ _ h1
                rw [(hV x q1).1]
                exact .flt _ _ _ (.inl rfl)) hl trivial (fun _=>rfl) rfl
            rw [ha];exact this
    · rename_i k he hc
      cases ht
      rcases key hc with rfl | ⟨a,len,cap,n,V,rfl,hl,hm,hx⟩
      · exact ⟨.ns k [],⟨rfl,Nat.zero_le _,fun x hx=>by cases hx⟩,.immEnd _ _ _ _ _ _ _ trivial (fun _=>rfl) rfl⟩
      · have hV:∀ i,i<len→V i=.int k (ab9 (V i))∧(Lit.int k (ab9 (V i))).wf=true:=by
          intro i hi
          obtain ⟨y,c1,c2⟩:=hx i hi
          cases n with
          | zero=>simp [DataW.trod] at c2
          | succ n =>
            simp only [DataW.trod,he] at c2
            cases hV:V i<;>rw [hV] at c2<;>simp at c2
            obtain ⟨⟨rfl,hw⟩,_⟩:=c2
            exact ⟨rfl,hw⟩
        refine ⟨.ns k ((List.range len).map fun i=>ab9 (V i)),⟨rfl,by simp;omega,fun x hx=>?_⟩,?_⟩
        · simp only [List.mem_map,List.mem_range] at hx
          obtain ⟨i,hi,rfl⟩:=hx
          exact (hV i hi).2
        · simp only [FA.av,List.length_map,List.length_range]
          rcases Nat.eq_zero_or_pos len with rfl | hz
          · exact .immEnd _ _ _ _ _ _ _ trivial (fun _=>rfl) rfl
          · have h0:=Lf (hx 0 hz).choose_spec.1
            have hs:a.spot=none:=by
              have e:a.add 0=a:=by simp [Addr.add]
              rw [e] at h0;exact h0
            have hcell:∀ i,i<len→W.cell? ⟨a.block,a.off+i,none⟩=some (V i):=fun i hi=>by
              obtain ⟨y,c1,_⟩:=hx i hi
              rw [Pj c1 hs] at c1;exact c1
            have ha:a=⟨a.block,a.off+0*1,none⟩:=by cases a;simp only at hs;subst hs;rfl
            have:=VR.imm (ρ:=am.none_) (w:=W) .free (.ns k ((List.range len).map fun i=>ab9 (V i))) 1 1 0 len cap a.block a.off V (JT _ _) (Tn (a:=⟨a.block,a.off+0,none⟩) (hcell 0 hz))
              (fun x v hx'=>by
                simp only [aN.cell?,Option.map_eq_some_iff] at hx'
                obtain ⟨y,h1,h2⟩:=hx'
                exact hcell x (sk _ _ _ _ h1).1)
              (fun x v hx'=>by
                simp only [aN.cell?,Option.map_eq_some_iff] at hx'
                obtain ⟨y,h1,rfl⟩:=hx'
                obtain ⟨q1,rfl⟩:=sk _ _ _ _ h1
                rw [(hV x q1).1]
                exact .int _ _) hl trivial (fun _=>rfl) rfl
            rw [ha];exact this
    · cases ht
  · cases ht
theorem agk{t:TypeId}{ft:FT}{v:Value}{d:DataW H}{p:List MemPlace}{base:Nat}(ht:aqK P t=some ft)(ho:Value.okWide P W .any base t v)(h:DataW.Trod enc P W 0 (fun _=>true) true t v d p) :
    ∃ a:FA,a.has ft∧VR am.none_ W a.av v:=by
  obtain ⟨fuel,hf⟩:=h
  have hc:v.cells.toList=[v]:=by
    have hne:∀ c,v ≠ .agg c:=by
      rintro c rfl
      unfold aqK at ht
      unfold Value.okWide at ho
      split at ht
      case h_6=>cases ht
      all_goals (rename_i hk;rw [hk] at ho;simp [Cell.okWide,Cell.ok,hk] at ho)
    cases v<;>first | rfl | exact (hne _ rfl).elim
  rw [hc] at hf
  exact anq ht hf
def FA.avs:List FA→List AV
  | []=>[]
  | a::l=>a.av::FA.avs l
theorem ao2{W W':World}(h:jX (fun _=>False) W W') :Below W.heap.size W W' :=
  ⟨h.os,h.tape,h.output,h.size,fun k hk=>h.same k hk (fun q=>q)⟩
def AI(P:Program)(ts:List TypeId) :Bool:=ts.all fun t=>P.readableRec t&&decide (t<P.types.size)
theorem aau{W W':World}(hl:laidOutB P=true)(hb:Below W.heap.size W W') :∀ {ts:List TypeId} {vs:List Value} {ds:List (DataW H)} {ps:List MemPlace},AI P ts=true →
    DataW.TrodAll enc P W 0 (fun _=>true) true ts vs ds ps→(∀ x∈ps,x.block<W.heap.size)→∀ sp:Nat→Bool,(∀ p∈ps,sp p.block=true)→DataW.TrodAll enc P W' 0 sp true ts vs ds ps
  | [],vs,ds,ps,_,h,_,_,_=>by obtain ⟨rfl,rfl,rfl⟩:=trodAll_nil h;rfl
  | t::ts,vs,ds,ps,hp,h,hlt,sp,hsp=>by
    obtain ⟨v,vs',d,ds',p,q,rfl,rfl,rfl,h1,h2⟩:=trodAll_cons h
    simp only [AI,List.all_cons,Bool.and_eq_true,decide_eq_true_eq] at hp
    exact ⟨p,q,WideElems.Trod_stays hl hp.1.1 hp.1.2 h1 (fun x hx=>hb.same (hlt x (by simp [hx]))) (fun x hx=>hsp x (by simp [hx])),
      aau hl hb (by simpa [AI] using hp.2) h2 (fun x hx=>hlt x (by simp [hx])) sp (fun x hx=>hsp x (by simp [hx])),rfl⟩
theorem ao3{f:Func}{s:ChangeSpec}{W W':World}{args:Array Value}{ds gs:List (DataW H)}{before:List MemPlace}{tb:TypeId}(hl:laidOutB P=true) 
    (hW:DataW.Whole enc P f.params.toList s.vars false W args.toList ds gs before) (hv:s.vars=[]) (hp:AI P f.params.toList=true)
    (hs:s.fn H (ds++gs) = { results:=[.lit (.bool true)],args:=ds }) (hr:f.resultTypes = #[tb]) (ht:P.underlying tb=some .bool) (hw:jX (fun _=>False) W W') :
    s.post enc P f false true false false W args (.bool true) W':=by
  have hb:=ao2 hw
  have hlt:∀ p∈before,p.block<W.heap.size:=fun p hp=>hW.lt p hp
  have hW':=hW
  obtain ⟨p,q,hA,hV,rfl,hfz,jR⟩:=hW'
  rw [hv] at hV
  obtain ⟨rfl,rfl⟩:=trodVars_none hV
  simp only [List.append_nil] at hlt hs hW
  have harg:=aau hl hb hp hA hlt (fun b=>decide (b<W.heap.size)) (fun x hx=>by simpa using hlt x hx)
  refine ⟨ds,[],p,[],p,[],hW,?_,?_,?_,World.keptBut_mono (fun x hx=>⟨hx,.inr (.inl hx)⟩) (hb.frame (· ∈ p)),fun e=>(by cases e)⟩
  · rw [List.append_nil,hs,hr]
    exact trodAll_mk1 (shut_bool ht true)
  · rw [List.append_nil,hs];exact harg
  · rw [hv];simp only [List.append_nil,hs];exact rfl
theorem ast{a:FA}(h:a.has .f) :∃ x,a=.f x:=by
  cases a<;>simp only [FA.has] at h
  exact ⟨_,rfl⟩
theorem arT{a:FA}(h:a.has .fl) :∃ x,a=.fl x:=by
  cases a<;>simp only [FA.has] at h
  exact ⟨_,rfl⟩
theorem ao4{ρ:am}{w w':World}{k b:Bool}{u:Value}(h:(⟨.bool k b,[]⟩:fU).Holds ρ w w' 0 u) :u=.bool b:=by
  obtain ⟨ρ',_,_,_,h4⟩:=h
  cases h4;rfl
end
end Go.Plb
namespace Go.Plb.Seat
open Go Go.Plb Go.Proofs
noncomputable abbrev prog:Program:=Tryz.prog
def aV:List Int:=[0,1,56,2,57,49,28,3,61,58,42,50,38,29,17,4,62,47,59,36,45,43,51,22,53,39,33,30,24,18,12,5,63,55,48,27,60,41,37,16,46,35,44,21,52,32,23,11,54,26,40,15,34,20,31,10,25,14,19,9,13,8,7,6]
instance:Rom:=⟨[(1,.iptr .free (.ns .u8 aV) 1 0 0)],by intro x hx;simp only [List.mem_cons,List.not_mem_nil,or_false] at hx;rcases hx with rfl<;>rfl⟩
abbrev rr:FuncId:=9
abbrev NT:FuncId:=22
abbrev agl:FuncId:=23
abbrev Lg:FuncId:=35
abbrev mo:FuncId:=36
abbrev BC:FuncId:=39
abbrev It:FuncId:=40
abbrev FY:FuncId:=41
abbrev zw:FuncId:=42
abbrev Dn:FuncId:=60
abbrev Do:FuncId:=63
abbrev sm:FuncId:=65
abbrev WD:FuncId:=69
abbrev WE:FuncId:=70
abbrev aca:FuncId:=71
abbrev acb:FuncId:=72
abbrev acd:FuncId:=73
abbrev NU:FuncId:=74
abbrev To:FuncId:=75
abbrev rt:FuncId:=76
abbrev Dp:FuncId:=78
abbrev vv:FuncId:=82
abbrev zx:FuncId:=93
abbrev Tp:FuncId:=94
abbrev Iu:FuncId:=95
abbrev JU:FuncId:=99
abbrev NV:FuncId:=100
abbrev JV:FuncId:=101
abbrev BD:FuncId:=102
abbrev ko:FuncId:=103
abbrev JW:FuncId:=104
abbrev zy:FuncId:=105
abbrev FZ:FuncId:=106
abbrev Iv:FuncId:=107
abbrev F0:FuncId:=108
abbrev JX:FuncId:=110
abbrev Lh:FuncId:=112
abbrev Li:FuncId:=113
abbrev Tq:FuncId:=117
abbrev QC:FuncId:=118
abbrev ace:FuncId:=127
abbrev ajU:FuncId:=131
abbrev anr:FuncId:=132
abbrev WF:FuncId:=133
abbrev Dq:FuncId:=134
abbrev F1:FuncId:=135
abbrev Dr:FuncId:=136
abbrev ajV:FuncId:=137
abbrev Lj:FuncId:=138
abbrev F2:FuncId:=139
abbrev Ds:FuncId:=140
abbrev Lk:FuncId:=141
abbrev Ll:FuncId:=142
abbrev wY:FuncId:=143
abbrev Lm:FuncId:=144
abbrev WG:FuncId:=145
abbrev WH:FuncId:=146
abbrev WI:FuncId:=147
abbrev agm:FuncId:=148
abbrev acf:FuncId:=149
abbrev qL:FuncId:=152
abbrev Fu:FuncId:=163
abbrev yk:FuncId:=167
abbrev sn:FuncId:=169
abbrev Ln:FuncId:=171
abbrev F3:FuncId:=173
abbrev Tr:FuncId:=174
abbrev agn:FuncId:=175
abbrev HH:FuncId:=176
abbrev F4:FuncId:=177
abbrev Dt:FuncId:=178
abbrev NW:FuncId:=179
abbrev F5:FuncId:=180
abbrev F6:FuncId:=181
abbrev Du:FuncId:=182
abbrev Dv:FuncId:=183
abbrev AJ:FuncId:=184
abbrev Dw:FuncId:=185
abbrev F7:FuncId:=186
abbrev Dx:FuncId:=187
abbrev BE:FuncId:=188
abbrev AL:FuncId:=189
abbrev Lo:FuncId:=194
abbrev Ts:FuncId:=197
abbrev NX:FuncId:=198
abbrev Lp:FuncId:=201
abbrev Tt:FuncId:=202
abbrev Lq:FuncId:=204
abbrev Lr:FuncId:=217
abbrev qM:FuncId:=218
abbrev Dy:FuncId:=219
abbrev zz:FuncId:=220
abbrev yn:FuncId:=221
abbrev jN:FuncId:=222
abbrev dR:FuncId:=223
abbrev Dz:FuncId:=224
abbrev AM:FuncId:=225
abbrev JY:FuncId:=226
abbrev ch:FuncId:=227
abbrev ago:FuncId:=228
abbrev agp:FuncId:=229
abbrev AN:FuncId:=237
abbrev ru:FuncId:=240
abbrev df:FuncId:=246
abbrev Ls:FuncId:=251
abbrev JZ:FuncId:=252
abbrev AO:FuncId:=253
abbrev NY:FuncId:=254
abbrev rv:FuncId:=255
abbrev J0:FuncId:=256
abbrev ajW:FuncId:=257
abbrev HI:FuncId:=258
abbrev zA:FuncId:=259
abbrev NZ:FuncId:=261
abbrev AP:FuncId:=262
abbrev yo:FuncId:=263
abbrev vw:FuncId:=264
abbrev AQ:FuncId:=265
abbrev AR:FuncId:=266
abbrev yp:FuncId:=267
abbrev Iw:FuncId:=268
abbrev F8:FuncId:=269
abbrev H7:FuncId:=291
abbrev acg:FuncId:=292
abbrev H8:FuncId:=294
abbrev Tu:FuncId:=299
abbrev QD:FuncId:=300
abbrev WJ:FuncId:=301
abbrev WK:FuncId:=302
abbrev J1:FuncId:=304
abbrev agq:FuncId:=305
abbrev agr:FuncId:=306
abbrev ach:FuncId:=307
abbrev F9:FuncId:=313
abbrev bU:FuncId:=314
abbrev nT:FuncId:=315
abbrev HJ:FuncId:=316
abbrev WL:FuncId:=317
abbrev AS:FuncId:=318
abbrev so:FuncId:=319
abbrev N0:FuncId:=320
abbrev yq:FuncId:=321
abbrev Ga:FuncId:=322
abbrev DA:FuncId:=323
abbrev QE:FuncId:=326
abbrev J2:FuncId:=334
abbrev J3:FuncId:=335
abbrev WM:FuncId:=338
abbrev Tv:FuncId:=339
abbrev QF:FuncId:=340
abbrev Tw:FuncId:=341
abbrev J4:FuncId:=342
abbrev oQ:FuncId:=343
abbrev HK:FuncId:=344
abbrev N2:FuncId:=345
abbrev WN:FuncId:=346
abbrev HL:FuncId:=347
abbrev N3:FuncId:=351
abbrev Gb:FuncId:=352
abbrev N4:FuncId:=353
abbrev Lt:FuncId:=354
abbrev AT:FuncId:=355
abbrev HM:FuncId:=356
abbrev sq:FuncId:=358
noncomputable def FN(f:FuncId) :Func:=(prog.funcs[f]?).getD default
noncomputable def md(f:FuncId) :Code:=((FN f).body).getD .skip
noncomputable def C0:CB:=ama prog [(mo,.frombits),(rt,.bits),(F9,.sqrt),(so,.add64),(sq,.sub64)] [(NT,⟨[],true⟩),(agl,⟨[],true⟩),(Do,⟨[],true⟩),(WD,⟨[],true⟩),(WE,⟨[],true⟩),(aca,⟨[],true⟩),(acb,⟨[],true⟩),(acd,⟨[],true⟩),(NU,⟨[],true⟩),(To,⟨[],true⟩),(vv,⟨[],true⟩),(NV,⟨[],true⟩),(JV,⟨[],true⟩),(JW,⟨[],true⟩),(FZ,⟨[],true⟩),(F0,⟨[],true⟩),(JX,⟨[true,true,true,true,true,true,true,true,true,true],false⟩),(Lh,⟨[true,true,true,true,true,true,true,true,true,true],false⟩),(Li,⟨[true,true,true,true,true,true,true,true,true,true],false⟩),(Tq,⟨[true,true,true,true,true,true,true,true,true,true],false⟩),(QC,⟨[true,true,true,true,true,true,true,true,true,true],false⟩),(ajU,⟨[],true⟩),(anr,⟨[],true⟩),(WF,⟨[],true⟩),(Dq,⟨[],true⟩),(F1,⟨[],true⟩),(Dr,⟨[],true⟩),(ajV,⟨[],true⟩),(F2,⟨[],true⟩),(Ds,⟨[],true⟩),(wY,⟨[],true⟩),(WG,⟨[],true⟩),(WH,⟨[],true⟩),(WI,⟨[],true⟩),(agm,⟨[],true⟩),(acf,⟨[],true⟩),(Fu,⟨[true,true,true,true,true,true,true,true,true,true],false⟩),(F3,⟨[],true⟩),(Tr,⟨[],true⟩),(agn,⟨[true],false⟩),(HH,⟨[],true⟩),(F4,⟨[],true⟩),(Dt,⟨[],true⟩),(NW,⟨[],true⟩),(F5,⟨[],true⟩),(F6,⟨[],true⟩),(Du,⟨[],true⟩),(Dv,⟨[],true⟩),(AJ,⟨[],true⟩),(Dw,⟨[],true⟩),(F7,⟨[],true⟩),(Dx,⟨[],true⟩),(BE,⟨[],true⟩),(AL,⟨[],true⟩),(Lo,⟨[true,true,true,true,true,true,true,true,true,true],false⟩),(Ts,⟨[true,true,true,true,true,true,true,true,true,true],false⟩),(NX,⟨[true,true,true,true,true,true,true,true,true,true],false⟩),(Lp,⟨[true,true,true,true,true,true,true,true,true,true],false⟩),(Tt,⟨[true,true,true,true,true,true,true,true,true,true],false⟩),(Lq,⟨[true,true,true,true,true,true,true,true,true,true],false⟩),(Dy,⟨[],true⟩),(zz,⟨[],true⟩),(yn,⟨[],true⟩),(jN,⟨[],true⟩),(Dz,⟨[],true⟩),(AM,⟨[],true⟩),(JY,⟨[],true⟩),(ago,⟨[],true⟩),(agp,⟨[],true⟩),(JZ,⟨[],true⟩),(AO,⟨[],true⟩),(NY,⟨[],true⟩),(rv,⟨[true],false⟩),(J0,⟨[],true⟩),(ajW,⟨[true],false⟩),(HI,⟨[true],false⟩),(zA,⟨[true],false⟩),(AP,⟨[],true⟩),(yo,⟨[],true⟩),(vw,⟨[],true⟩),(AQ,⟨[],true⟩),(AR,⟨[],true⟩),(yp,⟨[],true⟩),(F8,⟨[],true⟩),(H7,⟨[true,true,true,true,true,true,true,true,true,true],false⟩),(acg,⟨[true,true,true,true,true,true,true,true,true,true],false⟩),(H8,⟨[true,true,true,true,true,true,true,true,true,true],false⟩),(Tu,⟨[true,true,true,true,true,true,true,true,true,true],false⟩),(QD,⟨[true,true,true,true,true,true,true,true,true,true],false⟩),(WJ,⟨[true,true,true,true,true,true,true,true,true,true],false⟩),(WK,⟨[true,true,true,true,true,true,true,true,true,true],false⟩),(J1,⟨[],true⟩),(agq,⟨[],true⟩),(agr,⟨[],true⟩),(ach,⟨[],true⟩),(HJ,⟨[],true⟩),(WL,⟨[],true⟩),(N0,⟨[],true⟩),(yq,⟨[],true⟩),(Ga,⟨[],true⟩),(DA,⟨[],true⟩),(QE,⟨[true,true,true,true,true,true,true,true,true,true],false⟩),(J2,⟨[true,true,true,true,true,true,true,true,true,true],false⟩),(J3,⟨[true,true,true,true,true,true,true,true,true,true],false⟩),(WM,⟨[true,true,true,true,true,true,true,true,true,true],false⟩),(Tv,⟨[true,true,true,true,true,true,true,true,true,true],false⟩),(QF,⟨[true,true,true,true,true,true,true,true,true,true],false⟩),(Tw,⟨[true,true,true,true,true,true,true,true,true,true],false⟩),(J4,⟨[true,true,true,true,true,true,true,true,true,true],false⟩),(HK,⟨[],true⟩),(N2,⟨[],true⟩),(WN,⟨[],true⟩),(HL,⟨[],true⟩),(N3,⟨[true,true,true,true,true,true,true,true,true,true],false⟩),(Gb,⟨[true,true,true,true,true,true,true,true,true,true],false⟩),(N4,⟨[true,true,true,true,true,true,true,true,true,true],false⟩),(Lt,⟨[true,true,true,true,true,true,true,true,true,true],false⟩),(AT,⟨[false,false,true],false⟩),(HM,⟨[],true⟩)]
theorem BF:aaq prog mo .frombits:=⟨FN mo,by kernel_rfl,by kernel_rfl,by kernel_rfl,by kernel_rfl,by kernel_rfl⟩
theorem Gc:aaq prog rt .bits:=⟨FN rt,by kernel_rfl,by kernel_rfl,by kernel_rfl,by kernel_rfl,by kernel_rfl⟩
theorem WO:aaq prog F9 .sqrt:=⟨FN F9,by kernel_rfl,by kernel_rfl,by kernel_rfl,by kernel_rfl,by kernel_rfl⟩
theorem H9:aaq prog so .add64:=⟨FN so,by kernel_rfl,by kernel_rfl,by kernel_rfl,by kernel_rfl,by kernel_rfl⟩
theorem Ia:aaq prog sq .sub64:=⟨FN sq,by kernel_rfl,by kernel_rfl,by kernel_rfl,by kernel_rfl,by kernel_rfl⟩
theorem mixed:prog.follows .mixedOrders=true:=by kernel_rfl
theorem asu:amb prog=true:=by kernel_rfl
theorem jO:C0.Ok:=aoQ mixed asu (by
  intro x hx
  simp only [List.mem_cons,List.not_mem_nil,or_false] at hx
  rcases hx with rfl | rfl | rfl | rfl | rfl
  · exact BF
  · exact Gc
  · exact WO
  · exact H9
  · exact Ia
  )
end Go.Plb.Seat
namespace Go.Proofs.YtcfhbjfbfmlkiaaGreatDoor
open Go.ChangeShapes Go.WideShapes Go.ChangeAt Go.RowKit Go.Plb Go.Plb.Seat
theorem arU:ownKnob Tryz.prog.godebug=none:=by kernel_rfl
theorem aqL:laidOutB Tryz.prog=true:=by kernel_rfl
theorem amg : Tryz.prog.globalNamed "math/bits.deBruijn64tab" = some 1 := by kernel_rfl
def Lu : List (String × DataW Unit) := [("math/bits.deBruijn64tab", Rows.laid_math_bits_deBruijn64tab)]
theorem aqM:(Rows.laid_math_bits_deBruijn64tab:DataW Unit)=Lib.tabData .u8 aV:=by rfl
theorem arV{W : World}(h : laidMetH Tryz.prog Lu W) : Lib.TabIs Tryz.prog W "math/bits.deBruijn64tab" .u8 aV := by
  have h':laidMet Tryz.prog Lu W:=h
  unfold Lu at h'
  rw [aqM] at h'
  exact Lib.tabIs_of_head amg (t:=333) (e:=5) (n:=64) (by kernel_rfl) (by kernel_rfl) (by kernel_rfl) (by kernel_rfl) (by kernel_rfl) h'
theorem aqN{W:World}(h:laidMetH Tryz.prog Lu W) :∀ x∈Rom.tab,VR am.none_ W x.2 (.pointer (some ⟨x.1,0,none⟩)):=by
  intro x hx
  obtain rfl:=List.mem_singleton.1 hx
  have ht:=arV h
  have cell:∀ i,i<64→W.cell? ⟨1,i,none⟩=some (.int .u8 (aV.getD i 0)):=fun i hi=>ht.cell amg i hi
  have hb:1<W.heap.size:=by
    have h0:=cell 0 (by decide)
    unfold World.cell? at h0
    rcases Nat.lt_or_ge 1 W.heap.size with q | q
    · exact q
    · have e:W.heap[1]? = none:=Array.getElem?_eq_none q
      rw [e] at h0;cases h0
  have look:∀ (y:Nat) v,(aN.ns .u8 aV).cell? y=some v→y<64∧v=.int .u8 (aV.getD y 0):=by
    intro y v hv
    have hv':(aV[y]?).map (fun z=>AV.int .u8 z)=some v:=hv
    cases e:aV[y]? with
    | none=>rw [e] at hv';cases hv'
    | some z =>
      rw [e] at hv'
      have hy:=(List.getElem?_eq_some_iff.1 e).1
      refine ⟨hy,?_⟩
      rw [List.getD_eq_getElem?_getD,e]
      exact (Option.some.inj hv').symm
  exact .iptr .free _ 1 0 0 1 0 (fun y=>.int .u8 (aV.getD y 0)) (JT _ _) hb
    (fun y v hv=>by rw [Nat.zero_add];exact cell y (look y v hv).1) (fun y v hv=>by rw [(look y v hv).2];exact .int _ _) trivial (fun _=>rfl) rfl
noncomputable def aav(os:Os) :World :=
  { World.holding Tryz.prog os ⟨#[],#[],[]⟩ with heap:=(World.holding Tryz.prog os ⟨#[],#[],[]⟩).heap.modify 1 fun
      | .cells _ t frozen=>.cells (aV.map fun z=>Value.int .u8 z).toArray t frozen
      | o=>o }
theorem ao5(os:Os)(args:Array Value) :laidMetH Tryz.prog Lu ((aav os).forCall (fun _ _=>0) ⟨#[],args,[]⟩).memory :=
  (laidMet_of_run' 8 (by kernel_rfl) (by kernel_rfl):laidMet Tryz.prog Lu _)
end Go.Proofs.YtcfhbjfbfmlkiaaGreatDoor
