/-
  Part 5 of what the claim leans on: an evaluator of the model, proved sound; the contracts of the functions.
-/
import Derived.Test.YtpeljmhlgggijaaA4
namespace Go.Plb.Seat
open Go Go.Plb
set_option linter.unusedSimpArgs false
set_option linter.unusedVariables false
theorem OT{l:List Nat}{n:Nat}(h:l.length=n)(x:Nat) :(l.take n++List.take 1 [x]).length=n+1:=by
  rw [List.length_append,List.length_take,h,Nat.min_self];rfl
structure TO (k:Nat) (D Z:List Nat) (l:List Int) (y:List Nat):Prop where
  hD:D.length=k
  hZ:Z.length=k
  hl:l.length=k
  hy:y.length=k
  hi:In k l
  hk:k≤12
  hg:GD Z
theorem U4{k rho a:Nat}{D Z y:List Nat}{l:List Int}{p0:Nat}(h:TO k D Z l y)(ha:a<k) :jk (cu (iG rho k k D Z k l y a) (p0,0)) (Sum.elim (fun _=>True) fun _=>False):=by
  obtain ⟨hD,hZ,hl,hy,hi,hk,hg⟩:=h
  refine jk.loop (fun (p:Nat×Nat)=>p.2≤a) (fun p=>a-p.2) (Nat.zero_le _) ?_
  rintro ⟨p,b⟩ hb
  dsimp only at hb
  unfold iG
  dsimp only
  refine an (fun _=>b<a) (aL ?_) fun _ hb'=>aL ?_
  · unfold tx
    rw [ff hD,ff hZ]
    obtain ⟨u,e,hu⟩:=Gg D Z rho k (a:Int) (l.getD b 0) (y.getD b 0) hD hZ (by omega)
    rw [hu]
    simp only [T.wp,Sum.elim_inl,Sum.elim_inr,decide_eq_true_eq,decide_eq_false_iff_not,ao,aO,aP,aq,aw,am,aB,ah,List.length_set,List.length_replicate,beq_iff_eq,beq_eq_false_iff_ne,bne_iff_ne,bne_eq_false_iff_eq,Bool.not_eq_true',Bool.not_eq_false',ne_eq,ak,Int.toNat_natCast]
    exact ⟨fun h=>⟨by omega,by omega,by omega,by omega,by omega,rfl,by omega,by omega,by omega,by omega,by omega⟩,fun _=>trivial⟩
  · unfold tA
    simp only [T.wp,Sum.elim_inl,Sum.elim_inr,decide_eq_true_eq,decide_eq_false_iff_not,ao,aO,aP,aq,aw,am,aB,ah,List.length_set,List.length_replicate,beq_iff_eq,beq_eq_false_iff_ne,bne_iff_ne,bne_eq_false_iff_eq,Bool.not_eq_true',Bool.not_eq_false',ne_eq,ak,Int.toNat_natCast]
    exact ⟨by omega,by omega,by omega⟩
theorem U5{k rho a:Nat}{D Z y:List Nat}{l:List Int}{p0:Nat}(h:TO k D Z l y)(ha:a<k) :jk (cu (iH k rho k k D Z k l y a) (p0,a)) (Sum.elim (fun _=>True) fun _=>False):=by
  obtain ⟨hD,hZ,hl,hy,hi,hk,hg⟩:=h
  refine jk.loop (fun (p:Nat×Nat)=>p.2≤k-1) (fun p=>k-p.2) (by dsimp only;omega) ?_
  rintro ⟨p,b⟩ hb
  dsimp only at hb
  unfold iH
  dsimp only
  refine an (fun _=>b<k-1) (aL ?_) fun _ hb'=>aL ?_
  · unfold tC
    rw [ff hD,ff hZ]
    obtain ⟨u,e,hu⟩:=Gg D Z rho k (a:Int) (l.getD b 0) (y.getD b 0) hD hZ (by omega)
    rw [hu]
    simp only [T.wp,Sum.elim_inl,Sum.elim_inr,decide_eq_true_eq,decide_eq_false_iff_not,ao,aO,aP,aq,aw,am,aB,ah,List.length_set,List.length_replicate,beq_iff_eq,beq_eq_false_iff_ne,bne_iff_ne,bne_eq_false_iff_eq,Bool.not_eq_true',Bool.not_eq_false',ne_eq,ak,Int.toNat_natCast]
    exact ⟨by omega,fun h=>⟨by omega,by omega,by omega,by omega,by omega,rfl,by omega,by omega,by omega,by omega,by omega,by omega⟩,fun _=>trivial⟩
  · unfold tD
    simp only [T.wp,Sum.elim_inl,Sum.elim_inr,decide_eq_true_eq,decide_eq_false_iff_not,ao,aO,aP,aq,aw,am,aB,ah,List.length_set,List.length_replicate,beq_iff_eq,beq_eq_false_iff_ne,bne_iff_ne,bne_eq_false_iff_eq,Bool.not_eq_true',Bool.not_eq_false',ne_eq,ak,Int.toNat_natCast]
    exact ⟨by omega,by omega,by omega⟩
theorem VG{k rho:Nat}{D Z y w:List Nat}{l:List Int}(h:TO k D Z l y)(hw:w.length=k)(hk1:1≤k) :jk (cu (iI k rho k k D Z k l y) (0,w)) (Sum.elim (fun w=>w.length=k) fun _=>False):=by
  refine jk.loop (fun (p:Nat×List Nat)=>p.1≤k∧p.2.length=k) (fun p=>k-p.1) ⟨Nat.zero_le _,hw⟩ ?_
  rintro ⟨a,w⟩ ⟨ha,hw⟩
  dsimp only at ha hw
  unfold iI
  dsimp only
  refine an (fun _=>a<k) (aL ?_) fun _ ha'=>?_
  · unfold tr
    simp only [T.wp,Sum.elim_inl,Sum.elim_inr,decide_eq_true_eq,decide_eq_false_iff_not,ao,aO,aP,aq,aw,am,aB,ah,List.length_set,List.length_replicate,beq_iff_eq,beq_eq_false_iff_ne,bne_iff_ne,bne_eq_false_iff_eq,Bool.not_eq_true',Bool.not_eq_false',ne_eq,ak,Int.toNat_natCast]
    exact ⟨fun h=>by omega,fun _=>hw⟩
  refine an (fun (w:List Nat)=>w.length=k) (jk.join (an (fun _=>True) (aL ?_) fun p _=>an (fun _=>True) (aL ?_) fun _ _=>an (fun _=>True) ((U4 h ha').mono ?_) fun q _=>an (fun _=>True) (aL ?_) fun _ _=>an (fun _=>True) ((U5 h ha').mono ?_) fun r _=>aL ?_)) fun w' hw'=>aL ?_
  · unfold tu
    rw [ff h.hD,ff h.hZ]
    obtain ⟨u,e,hu⟩:=Gg D Z rho k (a:Int) (l.getD ((k:Int)-1).toNat 0) (y.getD ((k:Int)-1).toNat 0) h.hD h.hZ (by have:=h.hk;omega)
    rw [hu]
    have h1:=h.hD
    have h2:=h.hZ
    have h3:=h.hl
    have h4:=h.hy
    have h5:=h.hk
    simp only [T.wp,Sum.elim_inl,Sum.elim_inr,decide_eq_true_eq,decide_eq_false_iff_not,ao,aO,aP,aq,aw,am,aB,ah,List.length_set,List.length_replicate,beq_iff_eq,beq_eq_false_iff_ne,bne_iff_ne,bne_eq_false_iff_eq,Bool.not_eq_true',Bool.not_eq_false',ne_eq,ak,Int.toNat_natCast]
    exact ⟨by omega,by omega,by omega,by omega,by omega,by omega,rfl,trivial⟩
  · unfold tw;trivial
  · rintro (r | r) hr
    · trivial
    · exact hr.elim
  · unfold tB;trivial
  · rintro (r | r) hr
    · trivial
    · exact hr.elim
  · unfold tE
    have h2:=h.hZ
    have hz:isNaN (Z.getD a 0)=false:=by
      rw [←ym]
      exact (SX (h.hg a (by omega))).1
    rw [hz]
    simp only [T.wp,Sum.elim_inl,Sum.elim_inr,decide_eq_true_eq,decide_eq_false_iff_not,ao,aO,aP,aq,aw,am,aB,ah,List.length_set,List.length_replicate,beq_iff_eq,beq_eq_false_iff_ne,bne_iff_ne,bne_eq_false_iff_eq,Bool.not_eq_true',Bool.not_eq_false',ne_eq,ak,Int.toNat_natCast]
    exact ⟨by omega,by omega,rfl,by omega,by omega,hw⟩
  · unfold tF
    have h5:=h.hk
    simp only [T.wp,Sum.elim_inl,Sum.elim_inr,decide_eq_true_eq,decide_eq_false_iff_not,ao,aO,aP,aq,aw,am,aB,ah,List.length_set,List.length_replicate,beq_iff_eq,beq_eq_false_iff_ne,bne_iff_ne,bne_eq_false_iff_eq,Bool.not_eq_true',Bool.not_eq_false',ne_eq,ak,Int.toNat_natCast]
    exact ⟨by omega,⟨by omega,hw'⟩,by omega⟩
abbrev MF(N x9 n10 c11 n12 c13:Nat)(d z v:List Nat)(l g:List Int)(t:List Nat)(w:List Nat) :Int×Nat×Nat×Nat×Nat×Int×Int×Nat×Nat×Nat×Nat×Nat×Nat×Nat×List Nat×List Nat×List Nat×List Int×List Int×List Nat×Int×Int×Nat×Nat×List Nat :=
  ((N:Int),N,N,N,N,(N:Int),(N:Int),N*N,N*N,x9,n10,c11,n12,c13,d,z,v,l,g,t,(N:Int),(N:Int),N*N,N*N,w)
theorem U6{N n10 c11 n12 c13 x9:Nat}{d z v w:List Nat}{l g:List Int}(hd:d.length=N)(hv:v.length=N*N)(hw:w.length=N*N)(hN:N≤12)(hg:In N g)(hg2:g.length=n12)(hn:n12≤N) :
    jk (cu (iX n12) (0,0,0,MF N x9 n10 c11 n12 c13 d z v l g [] w)) (Sum.elim (fun p=>∃ t w',p=(n12,n12,MF N x9 n10 c11 n12 c13 d z v l g t w')∧t.length=n12∧w'.length=N*N) fun _=>False):=by
  refine jk.loop (fun p=>∃ a t w',p=(a,a,a,MF N x9 n10 c11 n12 c13 d z v l g t w')∧a≤n12∧t.length=a∧w'.length=N*N) (fun p=>n12-p.2.2.1) ⟨0,[],w,rfl,Nat.zero_le _,rfl,hw⟩ ?_
  rintro _ ⟨a,t,y,rfl,ha,ht,hy⟩
  unfold iX
  dsimp only [MF]
  refine an (fun p=>a<n12∧∃ t w',p=(a+1,MF N x9 n10 c11 n12 c13 d z v l g t w')∧t.length=a+1∧w'.length=N*N) (aL ?_) ?_
  · unfold uK
    simp only [T.wp,Sum.elim_inl,Sum.elim_inr,decide_eq_true_eq,decide_eq_false_iff_not,ao,aO,aP,aq,aw,am,aB,ah,List.length_set,List.length_replicate,beq_iff_eq,beq_eq_false_iff_ne,bne_iff_ne,bne_eq_false_iff_eq,Bool.not_eq_true',Bool.not_eq_false',ne_eq,ak,Int.toNat_natCast]
    refine ⟨fun h=>?_,fun h=>⟨t,y,?_,by omega,hy⟩⟩
    · have b:=hg.at (i:=a) (by omega)
      obtain ⟨x,hx,w',rfl,hw'⟩:=U2 (n10:=n10) (c11:=c11) (n12:=n12) (c13:=c13) (x9:=x9) (d:=d) (z:=z) (l:=l) (g:=g) (i:=g.getD a 0) (j:=(N:Int)) (k:=(N:Int)) (at_:=(a:Int)) hv hy hN b ⟨by omega,by omega⟩
      rw [hx]
      exact ⟨by omega,by omega,by omega,by omega,by omega,by omega,by simp only [List.length_cons,List.length_nil];omega,by omega,rfl,by omega,_,_,rfl,OT ht _,hw'⟩
    · have:a=n12:=by omega
      subst this
      rfl
  · rintro _ ⟨hlt,t',w',rfl,ht',hw'⟩
    refine aL ?_
    unfold uL
    simp only [T.wp,Sum.elim_inl,Sum.elim_inr,decide_eq_true_eq,decide_eq_false_iff_not,ao,aO,aP,aq,aw,am,aB,ah,List.length_set,List.length_replicate,beq_iff_eq,beq_eq_false_iff_ne,bne_iff_ne,bne_eq_false_iff_eq,Bool.not_eq_true',Bool.not_eq_false',ne_eq,ak,Int.toNat_natCast]
    exact ⟨by omega,⟨a+1,t',w',rfl,by omega,ht',hw'⟩,by omega⟩
theorem Ws{N k:Nat}{d z:List Nat}{l:List Int}(hd:d.length=N)(hz:z.length=N)(hl:In N l)(hl2:l.length=k)(hk:k≤12) :
    jk (cu (iF N N k d z l) (0,0,0,0,0,[],[])) (Sum.elim (fun p=>p.1=k∧p.2.2.1=k∧p.2.2.2.2.1.length=k∧p.2.2.2.2.2.length=k) fun _=>False):=by
  refine jk.loop (fun (p:Nat×Nat×Nat×Nat×Nat×List Nat×List Nat)=>p.1≤k∧p.2.1=p.1∧p.2.2.2.1=p.1∧p.2.2.2.2.2.1.length=p.1∧p.2.2.2.2.2.2.length=p.1) (fun p=>k-p.1) ⟨Nat.zero_le _,rfl,rfl,rfl,rfl⟩ ?_
  rintro ⟨a,b,b',c,c',x,y⟩ ⟨h1,h2,h3,h4,h5⟩
  dsimp only at h1 h2 h3 h4 h5
  replace h2:=h2.symm
  replace h3:=h3.symm
  subst h2 h3
  unfold iF
  refine aL ?_
  unfold tm
  simp only [T.wp,Sum.elim_inl,Sum.elim_inr,decide_eq_true_eq,decide_eq_false_iff_not,ao,aO,aP,aq,aw,am,aB,ah,List.length_set,List.length_replicate,beq_iff_eq,beq_eq_false_iff_ne,bne_iff_ne,bne_eq_false_iff_eq,Bool.not_eq_true',Bool.not_eq_false',ne_eq,ak,Int.toNat_natCast]
  refine ⟨fun h=>?_,fun h=>⟨by omega,by omega,by omega,by omega⟩⟩
  have q:=hl.at (i:=a) (by omega)
  simp only [List.length_append,List.length_take,List.length_cons,List.length_nil]
  exact ⟨by omega,by omega,by omega,by omega,by omega,by omega,by omega,by omega,by omega,by omega,by omega,by omega,by omega,by omega,by omega,⟨by omega,trivial,trivial,by omega,by omega⟩,by omega⟩
theorem VH{k rho a:Nat}{D Z y h' w:List Nat}{l:List Int}(h:TO k D Z l y)(hh:h'.length=k)(hw:w.length=k)(ha:a<k) :jk (cu (iJ k rho k k D Z k l y h' a) (0,w)) (Sum.elim (fun w=>w.length=k) fun _=>False):=by
  obtain ⟨hD,hZ,hl,hy,hi,hk,hg⟩:=h
  refine jk.loop (fun (p:Nat×List Nat)=>p.1≤k∧p.2.length=k) (fun p=>k-p.1) ⟨Nat.zero_le _,hw⟩ ?_
  rintro ⟨b,w⟩ ⟨hb,hw⟩
  dsimp only at hb hw
  unfold iJ
  dsimp only
  refine an (fun (w:List Nat)=>b<k∧w.length=k) (aL ?_) fun w' hw'=>aL ?_
  · unfold tL
    rw [ff hD,ff hZ]
    obtain ⟨u,e,hu⟩:=Gg D Z rho k (b:Int) (l.getD a 0) (y.getD a 0) hD hZ (by omega)
    rw [hu]
    simp only [T.wp,Sum.elim_inl,Sum.elim_inr,decide_eq_true_eq,decide_eq_false_iff_not,ao,aO,aP,aq,aw,am,aB,ah,List.length_set,List.length_replicate,beq_iff_eq,beq_eq_false_iff_ne,bne_iff_ne,bne_eq_false_iff_eq,Bool.not_eq_true',Bool.not_eq_false',ne_eq,ak,Int.toNat_natCast]
    exact ⟨fun h=>⟨by omega,by omega,by omega,by omega,by omega,by omega,by omega,rfl,by omega,by omega,by omega,hw⟩,fun _=>hw⟩
  · unfold tM
    simp only [T.wp,Sum.elim_inl,Sum.elim_inr,decide_eq_true_eq,decide_eq_false_iff_not,ao,aO,aP,aq,aw,am,aB,ah,List.length_set,List.length_replicate,beq_iff_eq,beq_eq_false_iff_ne,bne_iff_ne,bne_eq_false_iff_eq,Bool.not_eq_true',Bool.not_eq_false',ne_eq,ak,Int.toNat_natCast]
    exact ⟨by omega,⟨by omega,hw'.2⟩,by omega⟩
theorem VI{k lg:Nat}{w:List Nat}(hw:w.length=k)(hk:k≤12) :jk (cu (iK k lg) (0,w)) (Sum.elim (fun w=>w.length=k) fun _=>False):=by
  refine jk.loop (fun (p:Nat×List Nat)=>p.1≤k∧p.2.length=k) (fun p=>k-p.1) ⟨Nat.zero_le _,hw⟩ ?_
  rintro ⟨b,w⟩ ⟨hb,hw⟩
  dsimp only at hb hw
  unfold iK
  refine aL ?_
  unfold tP
  simp only [T.wp,Sum.elim_inl,Sum.elim_inr,decide_eq_true_eq,decide_eq_false_iff_not,ao,aO,aP,aq,aw,am,aB,ah,List.length_set,List.length_replicate,beq_iff_eq,beq_eq_false_iff_ne,bne_iff_ne,bne_eq_false_iff_eq,Bool.not_eq_true',Bool.not_eq_false',ne_eq,ak,Int.toNat_natCast]
  exact ⟨fun h=>⟨by omega,by omega,by omega,by omega,by omega,⟨by omega,hw⟩,by omega⟩,fun _=>hw⟩
theorem V5{α β X:Type}{m:Option (α⊕(β⊕X))}{Q:α→Prop}{E:β⊕X→Prop}(h:jk m (Sum.elim Q fun _=>False)) :jk m (Sum.elim Q E):=by
  refine h.mono ?_
  rintro (r | r) hr
  · exact hr
  · exact hr.elim
theorem OU{α X:Type}{m:Option (α⊕X)}{Q:α→Prop}{E:X→Prop}(h:jk m (Sum.elim Q fun _=>False)) :jk m (Sum.elim Q E):=by
  refine h.mono ?_
  rintro (r | r) hr
  · exact hr
  · exact hr.elim
theorem U7{N k rho c11 n12 c13 x9:Nat}{d z v w t D Z y h':List Nat}{l g lx:List Int}(h:TO k D Z lx y)(hh:h'.length=k)(hd:d.length=N)(hz:z.length=N)(hv:v.length=N*N)(hw:w.length=N*N)(hN:N≤12)(hl:In N l)(hl2:l.length=k)(hg2:g.length=n12)(hn:k+n12=N)(ht:t.length=n12) :
    jk (cu (iL k rho k k D Z k lx y h') (n12,n12,0,MF N x9 k c11 n12 c13 d z v l g t w)) (Sum.elim (fun p=>∃ t w',p=(N,N,MF N x9 k c11 n12 c13 d z v l g t w')∧t.length=N∧w'.length=N*N) fun _=>False):=by
  refine jk.loop (fun p=>∃ a t w',p=(n12+a,n12+a,a,MF N x9 k c11 n12 c13 d z v l g t w')∧a≤k∧t.length=n12+a∧w'.length=N*N) (fun p=>k-p.2.2.1) ⟨0,t,w,rfl,Nat.zero_le _,ht,hw⟩ ?_
  rintro _ ⟨a,t,w,rfl,ha,ht,hw⟩
  unfold iL
  dsimp only [MF]
  refine an (fun _=>a<k) (aL ?_) fun _ ha'=>?_
  · unfold tI
    simp only [T.wp,Sum.elim_inl,Sum.elim_inr,decide_eq_true_eq,decide_eq_false_iff_not,ao,aO,aP,aq,aw,am,aB,ah,List.length_set,List.length_replicate,beq_iff_eq,beq_eq_false_iff_ne,bne_iff_ne,bne_eq_false_iff_eq,Bool.not_eq_true',Bool.not_eq_false',ne_eq,ak,Int.toNat_natCast]
    refine ⟨fun h=>by omega,fun h=>⟨t,w,?_,by omega,hw⟩⟩
    have:a=k:=by omega
    subst this
    rw [show n12+a=N by omega]
  refine an (fun p=>∃ t w',p=(n12+a+1,MF N x9 k c11 n12 c13 d z v l g t w')∧t.length=n12+a+1∧w'.length=N*N) (jk.join (an (fun (p:Int×Nat×List Nat)=>(0≤p.1∧p.1<k)∧p.2.2.length=k) (aL ?_) ?_)) ?_
  · unfold tK
    obtain ⟨hD,hZ,hl',hy,hi,hk,hg⟩:=h
    have b:=hi.at (i:=a) (by omega)
    simp only [T.wp,Sum.elim_inl,Sum.elim_inr,decide_eq_true_eq,decide_eq_false_iff_not,ao,aO,aP,aq,aw,am,aB,ah,List.length_set,List.length_replicate,beq_iff_eq,beq_eq_false_iff_ne,bne_iff_ne,bne_eq_false_iff_eq,Bool.not_eq_true',Bool.not_eq_false',ne_eq,ak,Int.toNat_natCast]
    exact ⟨by omega,by omega,by omega,by omega,by omega,by omega,by omega,b,trivial⟩
  · rintro ⟨i,x,u⟩ ⟨hi,hu⟩
    dsimp only at hi hu
    refine an (fun (w:List Nat)=>w.length=k) (V5 (VH h hh hu ha')) fun u2 hu2=>an (fun _=>True) (aL ?_) fun lg _=>an (fun _=>True) (aL ?_) fun _ _=>an (fun (w:List Nat)=>w.length=k) (V5 (VI hu2 h.hk)) fun u3 hu3=>aL ?_
    · unfold tN
      have:=h.hk
      rw [ff hu2]
      obtain ⟨e,he⟩:=Rl u2 (by omega)
      rw [he]
      simp only [T.wp,Sum.elim_inl,Sum.elim_inr,decide_eq_true_eq,decide_eq_false_iff_not,ao,aO,aP,aq,aw,am,aB,ah,List.length_set,List.length_replicate,beq_iff_eq,beq_eq_false_iff_ne,bne_iff_ne,bne_eq_false_iff_eq,Bool.not_eq_true',Bool.not_eq_false',ne_eq,ak,Int.toNat_natCast]
      exact ⟨by omega,rfl,trivial⟩
    · unfold tO;trivial
    · unfold tQ
      obtain ⟨hD,hZ,hl',hy,hi',hk,hg⟩:=h
      obtain ⟨xx,hx,w',rfl,hw'⟩:=U3 (c11:=c11) (c13:=c13) (x9:=x9) (j:=(N:Int)) (k:=(N:Int)) (at_:=((n12+a:Nat):Int)) hd hz hv hw hN hl hl2 hg2 hk hu3 ⟨by omega,by omega⟩
      rw [hx]
      simp only [T.wp,Sum.elim_inl,Sum.elim_inr,decide_eq_true_eq,decide_eq_false_iff_not,ao,aO,aP,aq,aw,am,aB,ah,List.length_set,List.length_replicate,beq_iff_eq,beq_eq_false_iff_ne,bne_iff_ne,bne_eq_false_iff_eq,Bool.not_eq_true',Bool.not_eq_false',ne_eq,ak,Int.toNat_natCast]
      exact ⟨by omega,by omega,by omega,by omega,by simp only [List.length_cons,List.length_nil];omega,by omega,by omega,rfl,_,_,rfl,OT ht _,hw'⟩
  · rintro _ ⟨t',w',rfl,ht',hw'⟩
    refine aL ?_
    unfold tR
    have:=h.hk
    simp only [T.wp,Sum.elim_inl,Sum.elim_inr,decide_eq_true_eq,decide_eq_false_iff_not,ao,aO,aP,aq,aw,am,aB,ah,List.length_set,List.length_replicate,beq_iff_eq,beq_eq_false_iff_ne,bne_iff_ne,bne_eq_false_iff_eq,Bool.not_eq_true',Bool.not_eq_false',ne_eq,ak,Int.toNat_natCast]
    exact ⟨by omega,⟨a+1,t',w',rfl,by omega,ht',hw'⟩,by omega⟩
set_option maxHeartbeats 2000000 in
theorem TP {N k c11 n12 c13 x9 : Nat} {d z v : List Nat} {l g : List Int} (hd : d.length = N) (hz : z.length = N) (hv : v.length = N * N) (hN : N ≤ 12) (hl : In N l) (hg : In N g) (hl2 : l.length = k) (hg2 : g.length = n12) (hn : k + n12 = N) :
    jk (au (N : Int) N N N N (N : Int) (N : Int) (N * N) (N * N) x9 k c11 n12 c13 d z v l g) fun x => x = .r0 (N : Int) N N N N (N : Int) (N : Int) (N * N) (N * N) x9 k c11 n12 c13 d z v l g ∨ ∃ m t w, x = .r1 m (N : Int) N N N N (N : Int) (N : Int) (N * N) (N * N) x9 k c11 n12 c13 d z v l g t w ∧ t.length = N ∧ w.length = N * N ∧ m ≤ 65 * N := by
  have hNN : N * N ≤ 144 := Nat.mul_le_mul hN hN
  have e0 : (N : Int) * (N : Int) = ((N * N : Nat) : Int) := by rw [Int.natCast_mul]
  refine ql (an (fun p => p.1 = N * N ∧ p.2.length = N * N) (aL ?_) ?_)
  · unfold uJ
    rw [e0]
    simp only [T.wp, Sum.elim_inl, Sum.elim_inr, decide_eq_true_eq, decide_eq_false_iff_not, ao, aO, aP, aq, aw, am, aB, ah, List.length_set, List.length_replicate, beq_iff_eq, beq_eq_false_iff_ne, bne_iff_ne, bne_eq_false_iff_eq, Bool.not_eq_true', Bool.not_eq_false', ne_eq, ak, Int.toNat_natCast]
    generalize N * N = u at *
    ((repeat' (first | with_reducible assumption | (refine And.intro ?_ ?_) | intro _)) <;> (try (first | omega | with_reducible assumption | exact rfl | exact True.intro)))
  rintro ⟨a1, l2⟩ ⟨h1, h2⟩
  dsimp only at h1 h2
  subst h1
  refine an (fun p => ∃ t w', p = (n12, n12, MF N x9 k c11 n12 c13 d z v l g t w') ∧ t.length = n12 ∧ w'.length = N * N) (OU (U6 (z := z) hd hv h2 hN hg hg2 (by omega))) ?_
  rintro _ ⟨t, w, rfl, ht, hw⟩
  dsimp only [MF]
  refine an (fun b => b = decide (k > 0)) (aL ?_) ?_
  · unfold tk
    show decide _ = decide _
    congr 1
    exact propext ⟨fun h => by omega, fun h => by omega⟩
  rintro b hb
  refine an (fun p => ∃ m t w', p = (N, N, m, MF N x9 k c11 n12 c13 d z v l g t w') ∧ t.length = N ∧ w'.length = N * N ∧ m ≤ 65 * N) ?_ ?_
  · cases b
    · have hk0 : k = 0 := by
        have := of_decide_eq_false hb.symm
        omega
      simp only [cond_false]
      refine aL ?_
      unfold tT
      refine ⟨0, t, w, ?_, by omega, hw, by omega⟩
      rw [show n12 = N by omega]
    · have hk1 : 1 ≤ k := by
        have := of_decide_eq_true hb.symm
        omega
      simp only [cond_true]
      refine an (fun _ => True) (aL ?_) fun _ _ => an (fun (p : Nat × Nat × Nat × Nat × List Nat × List Nat) => p.1 = k ∧ p.2.2.1 = k ∧ p.2.2.2.2.1.length = k ∧ p.2.2.2.2.2.length = k) (OU (Ws hd hz hl hl2 (by omega))) ?_
      · unfold tl; trivial
      rintro ⟨a146, a147, a148, a149, D, Z⟩ ⟨q1, q2, q3, q4⟩
      dsimp only at q1 q2 q3 q4
      subst q1 q2
      obtain ⟨x, hx, hxx⟩ := VF D Z x9 a148 q3 q4 (by omega)
      refine an (fun (p : Nat × Nat × Nat × Nat × Nat × List Int × List Nat) => p.2.1 = 0 → p.1 ≤ 65 * a148 ∧ p.2.2.1 = a148 ∧ TO a148 D Z p.2.2.2.2.2.1 p.2.2.2.2.2.2) (aL ?_) ?_
      · unfold tn
        rw [ff q3, ff q4, hx]
        simp only [T.wp, Sum.elim_inl, Sum.elim_inr, decide_eq_true_eq, decide_eq_false_iff_not, ao, aO, aP, aq, aw, am, aB, ah, List.length_set, List.length_replicate, beq_iff_eq, beq_eq_false_iff_ne, bne_iff_ne, bne_eq_false_iff_eq, Bool.not_eq_true', Bool.not_eq_false', ne_eq, ak, Int.toNat_natCast]
        rcases hxx with ⟨e, he, rfl⟩ | ⟨a, b, m, c, lx, y, rfl, g1, g2, g3, g4, g5, g6⟩
        · exact ⟨by omega, by omega, rfl, fun h => absurd h he⟩
        · exact ⟨by omega, by omega, rfl, fun _ => ⟨g5, g1, ⟨q3, q4, g2, g3, g4, by omega, g6⟩⟩⟩
      rintro ⟨many, e, a154, a155, a156, lx, y⟩ hs
      dsimp only at hs
      refine an (fun (w : List Nat) => w.length = a148 ∧ e = 0) (aL ?_) ?_
      · unfold tp
        simp only [T.wp, Sum.elim_inl, Sum.elim_inr, decide_eq_true_eq, decide_eq_false_iff_not, ao, aO, aP, aq, aw, am, aB, ah, List.length_set, List.length_replicate, beq_iff_eq, beq_eq_false_iff_ne, bne_iff_ne, bne_eq_false_iff_eq, Bool.not_eq_true', Bool.not_eq_false', ne_eq, ak, Int.toNat_natCast]
        exact ⟨fun h => .inl trivial, fun h => ⟨by omega, by omega, by omega, by omega, trivial, by omega⟩⟩
      rintro u ⟨hu, he⟩
      obtain ⟨hm, ha, hS⟩ := hs he
      subst ha
      refine an (fun (w : List Nat) => w.length = a154) (OU (VG hS hu hk1)) fun h' hh => an (fun _ => True) (aL ?_) fun _ _ => an (fun p => ∃ t w', p = (N, N, MF N x9 a154 c11 n12 c13 d z v l g t w') ∧ t.length = N ∧ w'.length = N * N) (OU (U7 hS hh hd hz hv hw hN hl hl2 hg2 hn ht)) ?_
      · unfold tG; trivial
      rintro _ ⟨t', w', rfl, ht', hw'⟩
      refine aL ?_
      unfold tS
      exact ⟨many, t', w', rfl, ht', hw', by omega⟩
  · rintro _ ⟨m, t', w', rfl, ht', hw', hm⟩
    refine aL ?_
    unfold tU
    exact .inr ⟨m, t', w', rfl, ht', hw', hm⟩
theorem jp{α:Type}{o k:Nat}{l:List α}(h:o+k≤l.length) :(ay o k l).length=k:=by
  have:ay o k l=(l.drop o).take k:=IB o k l
  rw [this,List.length_take,List.length_drop]
  omega
theorem U8{D E:List Nat}(h2:2≤D.length)(h5:D.length≤512)(hE:E.length=D.length-1) :
    jk (iC D E) fun x=>∃ D1 D2,x=.r0 (E.getD (D.length/2-1) 0) (D.length/2) (D.length/2-1) (D.length-D.length/2) (D.length-1-D.length/2) D1 (ay 0 (D.length/2-1) E) D2 (ay (D.length/2) (D.length-1-D.length/2) E)∧D1.length=D.length/2∧D2.length=D.length-D.length/2∧(Az (E.getD (D.length/2-1) 0) 0=false→D1=ay 0 (D.length/2) D∧D2=ay (D.length/2) (D.length-D.length/2) D):=by
  have ed:Int.tdiv ((D.length:Nat):Int) (2:Int)=((D.length/2:Nat):Int):=rfl
  obtain ⟨m,hm⟩:∃ m,m=D.length/2:=⟨_,rfl⟩
  have hm1:1≤m:=by omega
  have hm2:m<D.length:=by omega
  have e1:((m:Nat):Int)-1=((m-1:Nat):Int):=by omega
  rw [←hm] at ed ⊢
  have c1:(ay 0 m D).length=m:=jp (by omega)
  have c2:(ay 0 (m-1) E).length=m-1:=jp (by omega)
  have c3:(ay m (D.length-m) D).length=D.length-m:=jp (by omega)
  have c4:(ay m (D.length-1-m) E).length=D.length-1-m:=jp (by omega)
  have e2:E.length-m=D.length-1-m:=by omega
  refine ql (an (fun p=>p=((m:Int),E.getD (m-1) 0,Az (E.getD (m-1) 0) 0,m,m-1,D.length-m,D.length-1-m,ay 0 m D,ay 0 (m-1) E,ay m (D.length-m) D,ay m (D.length-1-m) E)) (aL ?_) ?_)
  · unfold He
    simp only [ed,e1,ah,e2,c1,c2,c3,c4,hE]
    simp only [T.wp,Sum.elim_inl,Sum.elim_inr,decide_eq_true_eq,decide_eq_false_iff_not,ao,aO,aP,aq,aw,am,aB,ah,List.length_set,List.length_replicate,beq_iff_eq,beq_eq_false_iff_ne,bne_iff_ne,bne_eq_false_iff_eq,Bool.not_eq_true',Bool.not_eq_false',ne_eq,ak,Int.toNat_natCast]
    simp only [eX,Nat.ble_eq,c1,c2,c3,c4]
    refine ⟨by decide,by omega,by omega,by omega,by omega,by omega,by omega,by omega,by omega,by omega,by omega,by omega,by omega,by omega,by omega,by omega,by omega,by omega,by omega,by omega,by omega,by omega,?_⟩
    trivial
  rintro _ rfl
  refine an (fun p=>p.1.length=m∧p.2.length=D.length-m∧(Az (E.getD (m-1) 0) 0=false→p.1=ay 0 m D∧p.2=ay m (D.length-m) D)) ?_ ?_
  · cases hr:Az (E.getD (m-1) 0) 0
    · simp only [cond_false]
      refine aL ?_
      unfold Hh
      exact ⟨c1,c3,fun _=>⟨rfl,rfl⟩⟩
    · simp only [cond_true]
      refine aL ?_
      unfold Hg
      simp only [e1,ah]
      simp only [T.wp,Sum.elim_inl,Sum.elim_inr,decide_eq_true_eq,decide_eq_false_iff_not,ao,aO,aP,aq,aw,am,aB,ah,List.length_set,List.length_replicate,beq_iff_eq,beq_eq_false_iff_ne,bne_iff_ne,bne_eq_false_iff_eq,Bool.not_eq_true',Bool.not_eq_false',ne_eq,ak,Int.toNat_natCast]
      rw [c1,c3]
      exact ⟨by omega,by omega,by omega,by omega,by omega,by omega,by omega,by omega,by omega,rfl,rfl,fun q=>(by cases q)⟩
  · rintro ⟨x,y⟩ ⟨h1,h2,h3⟩
    dsimp only at h1 h2 h3
    refine aL ?_
    unfold Hi
    exact ⟨x,y,rfl,h1,h2,h3⟩
def Kf(n:Nat) :Nat→List Nat
  | 0=>List.replicate (n*n) 0
  | i+1=>(Kf n i).set (i*n+i) 4607182418800017408
theorem yy(n:Nat) :∀ i,(Kf n i).length=n*n
  | 0=>by unfold Kf;rw [List.length_replicate]
  | i+1=>by unfold Kf;rw [List.length_set,yy n i]
theorem TQ{n:Nat}(hn:n≤12) :bh (n:Int)=some (.r0 (n:Int) (n*n) (Kf n n)):=by
  have hNN:n*n≤144:=Nat.mul_le_mul hn hn
  have e0:(n:Int)*(n:Int)=((n*n:Nat):Int):=by rw [Int.natCast_mul]
  refine kh (df (a:=(n*n,Kf n 0)) ?_ (df (a:=Kf n n) (wu (fun j=>(j,Kf n j)) n rfl (fun j hj=>?_) ?_) rfl))
  · unfold IF
    rw [e0]
    exact (mO (by simp only [ao,aO,aP,aq,aw,am,cO,cP,decide_eq_true_eq,decide_eq_false_iff_not,beq_iff_eq,beq_eq_false_iff_ne,bne_iff_ne,bne_eq_false_iff_eq,Bool.not_eq_true',Bool.not_eq_false',List.length_set,ne_eq,ge_iff_le,gt_iff_lt,bK,ah,eX];omega) (mO (by simp only [ao,aO,aP,aq,aw,am,cO,cP,decide_eq_true_eq,decide_eq_false_iff_not,beq_iff_eq,beq_eq_false_iff_ne,bne_iff_ne,bne_eq_false_iff_eq,Bool.not_eq_true',Bool.not_eq_false',List.length_set,ne_eq,ge_iff_le,gt_iff_lt,bK,ah,eX];omega) (mO (by simp only [ao,aO,aP,aq,aw,am,cO,cP,decide_eq_true_eq,decide_eq_false_iff_not,beq_iff_eq,beq_eq_false_iff_ne,bne_iff_ne,bne_eq_false_iff_eq,Bool.not_eq_true',Bool.not_eq_false',List.length_set,ne_eq,ge_iff_le,gt_iff_lt,bK,ah,eX];omega) (mO (by simp only [ao,aO,aP,aq,aw,am,cO,cP,decide_eq_true_eq,decide_eq_false_iff_not,beq_iff_eq,beq_eq_false_iff_ne,bne_iff_ne,bne_eq_false_iff_eq,Bool.not_eq_true',Bool.not_eq_false',List.length_set,ne_eq,ge_iff_le,gt_iff_lt,bK,ah,eX];omega) (mO (by simp only [ao,aO,aP,aq,aw,am,cO,cP,decide_eq_true_eq,decide_eq_false_iff_not,beq_iff_eq,beq_eq_false_iff_ne,bne_iff_ne,bne_eq_false_iff_eq,Bool.not_eq_true',Bool.not_eq_false',List.length_set,ne_eq,ge_iff_le,gt_iff_lt,bK,ah,eX];omega) rfl)))))
  · show (vR _ _ _ _).run=_
    unfold vR
    have e1:(j:Int)*(n:Int)=((j*n:Nat):Int):=by rw [Int.natCast_mul]
    have e2:(((j*n:Nat):Int)+(j:Int)).toNat=j*n+j:=by omega
    rw [e1,e2]
    have q1:(j+1)*n≤n*n:=Nat.mul_le_mul_right n (by omega)
    rw [Nat.add_mul,Nat.one_mul] at q1
    have q2:=yy n j
    refine T.at (by simp only [ao,aO,aP,aq,aw,am,cO,cP,decide_eq_true_eq,decide_eq_false_iff_not,beq_iff_eq,beq_eq_false_iff_ne,bne_iff_ne,bne_eq_false_iff_eq,Bool.not_eq_true',Bool.not_eq_false',List.length_set,ne_eq,ge_iff_le,gt_iff_lt,bK,ah,eX];omega) (mO (ao.2 (by omega)) (mO (ao.2 (by omega)) (mO (aO.2 (by omega)) (mO (aq.2 (by omega)) (mO (by simp only [ao,aO,aP,aq,aw,am,cO,cP,decide_eq_true_eq,decide_eq_false_iff_not,beq_iff_eq,beq_eq_false_iff_ne,bne_iff_ne,bne_eq_false_iff_eq,Bool.not_eq_true',Bool.not_eq_false',List.length_set,ne_eq,ge_iff_le,gt_iff_lt,bK,ah,eX];omega) rfl)))))
  · show (vR _ _ _ _).run=_
    unfold vR
    exact zE (by simp only [ao,aO,aP,aq,aw,am,cO,cP,decide_eq_true_eq,decide_eq_false_iff_not,beq_iff_eq,beq_eq_false_iff_ne,bne_iff_ne,bne_eq_false_iff_eq,Bool.not_eq_true',Bool.not_eq_false',List.length_set,ne_eq,ge_iff_le,gt_iff_lt,bK,ah,eX];omega) rfl
theorem Rq{n:Nat}(hn:n≤12) :bi (n:Int)=some (.r0 (n:Int) (n*n) (Kf n n)):=by
  have hNN:n*n≤144:=Nat.mul_le_mul hn hn
  have e0:(n:Int)*(n:Int)=((n*n:Nat):Int):=by rw [Int.natCast_mul]
  refine kh (df (a:=(n*n,Kf n 0)) ?_ (df (a:=Kf n n) (wu (fun j=>(j,Kf n j)) n rfl (fun j hj=>?_) ?_) rfl))
  · unfold I7
    rw [e0]
    exact (mO (by simp only [ao,aO,aP,aq,aw,am,cO,cP,decide_eq_true_eq,decide_eq_false_iff_not,beq_iff_eq,beq_eq_false_iff_ne,bne_iff_ne,bne_eq_false_iff_eq,Bool.not_eq_true',Bool.not_eq_false',List.length_set,ne_eq,ge_iff_le,gt_iff_lt,bK,ah,eX];omega) (mO (by simp only [ao,aO,aP,aq,aw,am,cO,cP,decide_eq_true_eq,decide_eq_false_iff_not,beq_iff_eq,beq_eq_false_iff_ne,bne_iff_ne,bne_eq_false_iff_eq,Bool.not_eq_true',Bool.not_eq_false',List.length_set,ne_eq,ge_iff_le,gt_iff_lt,bK,ah,eX];omega) (mO (by simp only [ao,aO,aP,aq,aw,am,cO,cP,decide_eq_true_eq,decide_eq_false_iff_not,beq_iff_eq,beq_eq_false_iff_ne,bne_iff_ne,bne_eq_false_iff_eq,Bool.not_eq_true',Bool.not_eq_false',List.length_set,ne_eq,ge_iff_le,gt_iff_lt,bK,ah,eX];omega) (mO (by simp only [ao,aO,aP,aq,aw,am,cO,cP,decide_eq_true_eq,decide_eq_false_iff_not,beq_iff_eq,beq_eq_false_iff_ne,bne_iff_ne,bne_eq_false_iff_eq,Bool.not_eq_true',Bool.not_eq_false',List.length_set,ne_eq,ge_iff_le,gt_iff_lt,bK,ah,eX];omega) (mO (by simp only [ao,aO,aP,aq,aw,am,cO,cP,decide_eq_true_eq,decide_eq_false_iff_not,beq_iff_eq,beq_eq_false_iff_ne,bne_iff_ne,bne_eq_false_iff_eq,Bool.not_eq_true',Bool.not_eq_false',List.length_set,ne_eq,ge_iff_le,gt_iff_lt,bK,ah,eX];omega) rfl)))))
  · show (wq _ _ _ _).run=_
    unfold wq
    have e1:(j:Int)*(n:Int)=((j*n:Nat):Int):=by rw [Int.natCast_mul]
    have e2:(((j*n:Nat):Int)+(j:Int)).toNat=j*n+j:=by omega
    rw [e1,e2]
    have q1:(j+1)*n≤n*n:=Nat.mul_le_mul_right n (by omega)
    rw [Nat.add_mul,Nat.one_mul] at q1
    have q2:=yy n j
    refine T.at (by simp only [ao,aO,aP,aq,aw,am,cO,cP,decide_eq_true_eq,decide_eq_false_iff_not,beq_iff_eq,beq_eq_false_iff_ne,bne_iff_ne,bne_eq_false_iff_eq,Bool.not_eq_true',Bool.not_eq_false',List.length_set,ne_eq,ge_iff_le,gt_iff_lt,bK,ah,eX];omega) (mO (ao.2 (by omega)) (mO (ao.2 (by omega)) (mO (aO.2 (by omega)) (mO (aq.2 (by omega)) (mO (by simp only [ao,aO,aP,aq,aw,am,cO,cP,decide_eq_true_eq,decide_eq_false_iff_not,beq_iff_eq,beq_eq_false_iff_ne,bne_iff_ne,bne_eq_false_iff_eq,Bool.not_eq_true',Bool.not_eq_false',List.length_set,ne_eq,ge_iff_le,gt_iff_lt,bK,ah,eX];omega) rfl)))))
  · show (wq _ _ _ _).run=_
    unfold wq
    exact zE (by simp only [ao,aO,aP,aq,aw,am,cO,cP,decide_eq_true_eq,decide_eq_false_iff_not,beq_iff_eq,beq_eq_false_iff_ne,bne_iff_ne,bne_eq_false_iff_eq,Bool.not_eq_true',Bool.not_eq_false',List.length_set,ne_eq,ge_iff_le,gt_iff_lt,bK,ah,eX];omega) rfl
theorem VJ{l:List Nat}{i k:Nat}(hi:i<l.length)(hk:k<l.length){x:Nat}(h:x∈Wr l i k) :x∈l:=by
  unfold Wr at h
  rcases List.mem_or_eq_of_mem_set h with q | q
  · rcases List.mem_or_eq_of_mem_set q with r | r
    · exact r
    · rw [r];exact FW hk
  · rw [q];exact FW hi
theorem Qc{l:List Nat} :∀ {i:Nat},i≤l.length→∀ {x},x∈LE l i→x∈l
  | 0,_,x,h=>h
  | i+1,hi,x,h=>by
    unfold LE at h
    have hl:=Jg l i
    have:=Gf (LE l i) i (l.length-(i+1))
    exact Qc (by omega) (VJ (by omega) (by omega) h)
theorem Sl{l:List Nat} :GD l↔∀ x,x∈l→gd x=true:=by
  refine ⟨fun h x hx=>?_,fun h i hi=>h _ (FW hi)⟩
  obtain ⟨i,hi,rfl⟩:=List.getElem_of_mem hx
  have:=h i hi
  rw [List.getD_eq_getElem?_getD,List.getElem?_eq_getElem hi] at this
  exact this
theorem Wt{l:List Nat}(h:GD l) :GD (LE l l.length):=by
  rw [Sl] at h ⊢
  exact fun x hx=>h x (Qc (Nat.le_refl _) hx)
theorem Wu{a b:List Nat}(h:GD a)(k:GD b) :GD (a++b):=by
  rw [Sl] at h k ⊢
  intro x hx
  rcases List.mem_append.1 hx with q | q
  · exact h x q
  · exact k x q
theorem SZ{α:Type}{xs ys:List α}{i k:Nat}(h:i+k≤xs.length)(q:k≤ys.length) :(VO xs i k ys).length=xs.length:=by
  unfold VO
  rw [List.length_append,List.length_append,List.length_take,List.length_take,List.length_drop]
  omega
theorem U9{D w l:List Nat}{n m:Nat}(hD:D.length=n)(hN:n≤20)(hm:m≤n)(hw:w.length=m*m)(hl:l.length=n*n) :
    jk (cu (qX D m (m*m) w (n*n)) (0,l)) (Sum.elim (fun l=>l.length=n*n) fun _=>False):=by
  have hNN:n*n≤400:=Nat.mul_le_mul hN hN
  have hMM:m*m≤400:=Nat.mul_le_mul (show m≤20 by omega) (show m≤20 by omega)
  refine jk.loop (fun (p:Nat×List Nat)=>p.1≤m∧p.2.length=n*n) (fun p=>m-p.1) ⟨Nat.zero_le _,hl⟩ ?_
  rintro ⟨a,l⟩ ⟨ha,hl⟩
  dsimp only at ha hl
  unfold qX
  refine aL ?_
  unfold Eu
  have emin:∀ x y,Nat.min x y=min x y:=fun _ _=>rfl
  simp only [T.wp,Sum.elim_inl,Sum.elim_inr,decide_eq_true_eq,decide_eq_false_iff_not,ao,aO,aP,aq,aw,am,aB,ah,List.length_set,List.length_replicate,beq_iff_eq,beq_eq_false_iff_ne,bne_iff_ne,bne_eq_false_iff_eq,Bool.not_eq_true',Bool.not_eq_false',ne_eq,ak,Int.toNat_natCast]
  simp only [emin,CD,List.length_take,List.length_drop,hD,hw]
  refine ⟨fun h=>?_,fun h=>hl⟩
  have q1:(a+1)*n≤n*n:=Nat.mul_le_mul_right n (by omega)
  have q2:(a+1)*m≤m*m:=Nat.mul_le_mul_right m (by omega)
  rw [Nat.add_mul,Nat.one_mul] at q1 q2
  generalize a*n=p1 at *
  generalize a*m=p2 at *
  rw [hl]
  refine ⟨by omega,by omega,by omega,by omega,by omega,by omega,by omega,by omega,by omega,by omega,by omega,by omega,⟨by omega,?_⟩,by omega⟩
  rw [SZ,hl]
  · rw [hl];omega
  · rw [List.length_take,List.length_drop,hw];omega
theorem Va{D w l:List Nat}{n m:Nat}(hD:D.length=n)(hN:n≤20)(hm:m≤n)(hw:w.length=(n-m)*(n-m))(hl:l.length=n*n) :
    jk (cu (qY D m ((n-m)*(n-m)) w (n*n)) (m,l)) (Sum.elim (fun l=>l.length=n*n) fun _=>False):=by
  have hNN:n*n≤400:=Nat.mul_le_mul hN hN
  have hMM:(n-m)*(n-m)≤400:=Nat.mul_le_mul (show n-m≤20 by omega) (show n-m≤20 by omega)
  refine jk.loop (fun (p:Nat×List Nat)=>m≤p.1∧p.1≤n∧p.2.length=n*n) (fun p=>n-p.1) ⟨Nat.le_refl _,hm,hl⟩ ?_
  rintro ⟨a,l⟩ ⟨ha0,ha,hl⟩
  dsimp only at ha0 ha hl
  unfold qY
  dsimp only
  refine an (fun (l:List Nat)=>a<n∧l.length=n*n) (aL ?_) fun l' hl'=>aL ?_
  · unfold Ex
    have emin:∀ x y,Nat.min x y=min x y:=fun _ _=>rfl
    have e1:((a:Int)-(m:Int))*((n:Int)-(m:Int))=(((a-m)*(n-m):Nat):Int):=by
      rw [show (a:Int)-(m:Int)=((a-m:Nat):Int) by omega,show (n:Int)-(m:Int)=((n-m:Nat):Int) by omega,Int.natCast_mul]
    rw [hD,e1]
    simp only [T.wp,Sum.elim_inl,Sum.elim_inr,decide_eq_true_eq,decide_eq_false_iff_not,ao,aO,aP,aq,aw,am,aB,ah,List.length_set,List.length_replicate,beq_iff_eq,beq_eq_false_iff_ne,bne_iff_ne,bne_eq_false_iff_eq,Bool.not_eq_true',Bool.not_eq_false',ne_eq,ak,Int.toNat_natCast]
    simp only [emin,CD,List.length_take,List.length_drop,hw]
    refine ⟨fun h=>?_,fun h=>hl⟩
    have q1:(a+1)*n≤n*n:=Nat.mul_le_mul_right n (by omega)
    have q2:(a-m+1)*(n-m)≤(n-m)*(n-m):=Nat.mul_le_mul_right (n-m) (by omega)
    rw [Nat.add_mul,Nat.one_mul] at q1 q2 ⊢
    generalize a*n=p1 at *
    generalize (a-m)*(n-m)=p2 at *
    rw [hl]
    refine ⟨by omega,by omega,by omega,by omega,by omega,by omega,by omega,by omega,by omega,by omega,by omega,by omega,by omega,by omega,by omega,?_⟩
    rw [SZ,hl]
    · rw [hl];omega
    · rw [List.length_take,List.length_drop,hw];omega
  · unfold Ey
    simp only [T.wp,Sum.elim_inl,Sum.elim_inr,decide_eq_true_eq,decide_eq_false_iff_not,ao,aO,aP,aq,aw,am,aB,ah,List.length_set,List.length_replicate,beq_iff_eq,beq_eq_false_iff_ne,bne_iff_ne,bne_eq_false_iff_eq,Bool.not_eq_true',Bool.not_eq_false',ne_eq,ak,Int.toNat_natCast]
    exact ⟨by omega,⟨by omega,by omega,hl'.2⟩,by omega⟩
def TR(x:aF) :Prop:=∃ s e,e≠0∧x=.r0 0 s e [] 0 0 0 []
def WX(n s:Nat)(v:List Nat)(x:aF) :Prop:=∃ z,x=.r0 n s 0 v (n:Int) (n:Int) (n*n) z∧z.length=n*n
def Sn(n:Nat)(v:List Nat) :Prop:=∃ w,v=LE w n∧w.length=n∧GD w
def Qd(n b:Nat)(x:aF) :Prop:=TR x∨∃ s v,WX n s v x∧s≤b∧Sn n v
theorem Sn.len{n:Nat}{v:List Nat}(h:Sn n v) :v.length=n:=by
  obtain ⟨w,rfl,hw,_⟩:=h
  rw [Jg,hw]
theorem Sn.gd{n:Nat}{v:List Nat}(h:Sn n v) :GD v:=by
  obtain ⟨w,rfl,hw,hg⟩:=h
  rw [←hw]
  exact Wt hg
def Xh(n n1 n2:Nat)(x1 x2 x:aF) :Prop :=
  (TR x1∨TR x2→TR x)∧∀ s1 v1 s2 v2,WX n1 s1 v1 x1→WX n2 s2 v2 x2→WX n (s1+s2) (LE (v1++v2) n) x
theorem KS{x:aF}(h:TR x){n s v}(k:WX n s v x) :False:=by
  obtain ⟨s',e,he,rfl⟩:=h
  obtain ⟨z,h,_⟩:=k
  injection h with _ _ h
  exact he h
theorem Vb{a b:List Nat}{n m:Nat}(ha:a.length=n)(hb:b.length=m) :List.take n a++List.take m b=a++b:=by
  rw [←ha,←hb,List.take_length,List.take_length]
abbrev Xi:=Nat×Int×Nat×Nat×Nat×Nat×Int×Int×Nat×Nat×Nat×Nat×Nat×Nat×Nat×List Nat×List Nat×List Nat×List Int×List Int
def Xj(n:Nat)(p:Xi) :Prop:=p.1≤780∧p.2.2.1=n∧p.2.2.2.2.2.2.1=(n:Int)∧p.2.2.2.2.2.2.2.1=(n:Int)∧p.2.2.2.2.2.2.2.2.1=n*n∧p.2.2.2.2.2.2.2.2.2.2.2.2.2.2.2.1.length=n∧p.2.2.2.2.2.2.2.2.2.2.2.2.2.2.2.2.2.1.length=n*n
set_option maxHeartbeats 4000000 in
theorem body {R : List Nat → List Nat → Option aF} {D E : List Nat} {n m b rho : Nat} (hD : D.length = n) (h3 : 3 ≤ n) (hN : n ≤ 20) (hE : E.length = n - 1) (hm : m = n / 2) (hrho : rho = E.getD (m - 1) 0) (hr : isNaN rho = false) (hN' : Az rho 0 = true → n ≤ 12) (hb : b ≤ 1000000000)
    (r1 : ∀ D', D'.length = m → jk (R D' (ay 0 (m - 1) E)) (Qd m b)) (r2 : ∀ D', D'.length = n - m → jk (R D' (ay m (n - 1 - m) E)) (Qd (n - m) b)) :
    jk (uT R D E) fun x => Qd n (2 * b + 1000) x ∧ (Az rho 0 = false → ∀ x1 x2, R (ay 0 m D) (ay 0 (m - 1) E) = some x1 → R (ay m (n - m) D) (ay m (n - 1 - m) E) = some x2 → Xh n m (n - m) x1 x2 x) := by
  have hNN : n * n ≤ 400 := Nat.mul_le_mul hN hN
  have cE1 : (ay 0 (m - 1) E).length = m - 1 := jp (by omega)
  have cE2 : (ay m (n - 1 - m) E).length = n - 1 - m := jp (by omega)
  obtain ⟨xt, hxt, D1, D2, rfl, d1, d2, d3⟩ := U8 (D := D) (E := E) (by omega) (by omega) (by omega)
  rw [hD, ← hm] at d1 d2 d3 hxt
  rw [← hrho] at d3 hxt
  obtain ⟨x1, hx1, o1⟩ := r1 D1 d1
  obtain ⟨x2, hx2, o2⟩ := r2 D2 d2
  refine jk.mono (Q := fun x => Qd n (2 * b + 1000) x ∧ (Az rho 0 = false → Xh n m (n - m) x1 x2 x)) ?_ ?_
  rotate_left
  · rintro x ⟨q1, q2⟩
    refine ⟨q1, fun h y1 y2 hy1 hy2 => ?_⟩
    obtain ⟨e1, e2⟩ := d3 h
    rw [e1, hy1] at hx1
    rw [e2, hy2] at hx2
    injection hx1 with hx1
    injection hx2 with hx2
    subst hx1 hx2
    exact q2 h
  refine ql (an (fun b => b = false) (aL ?_) ?_)
  · unfold yR
    exact decide_eq_false (by omega)
  rintro _ rfl
  refine an (fun _ => True) ?_ fun _ _ => ?_
  · simp only [cond_false]
    refine aL ?_
    unfold Er
    trivial
  refine an (fun p => p = (rho, m, m - 1, n - m, n - 1 - m, D1, ay 0 (m - 1) E, D2, ay m (n - 1 - m) E)) (aL ?_) ?_
  · unfold Es
    rw [ak, ak, hxt]
    simp only [T.wp, Sum.elim_inl, Sum.elim_inr, decide_eq_true_eq, decide_eq_false_iff_not, ao, aO, aP, aq, aw, am, aB, ah, List.length_set, List.length_replicate, beq_iff_eq, beq_eq_false_iff_ne, bne_iff_ne, bne_eq_false_iff_eq, Bool.not_eq_true', Bool.not_eq_false', ne_eq, ak, Int.toNat_natCast]
    exact ⟨by omega, by omega, rfl, rfl⟩
  rintro _ rfl
  dsimp only
  rcases o1 with ⟨s, e, he, rfl⟩ | ⟨s1, v1, ⟨z1, rfl, hz1⟩, hs1, hv1⟩
  · refine an (fun p => p.1 = e) (aL ?_) ?_
    · unfold yS
      rw [ff d1, ff cE1, hx1]
      simp only [T.wp, Sum.elim_inl, Sum.elim_inr, decide_eq_true_eq, decide_eq_false_iff_not, ao, aO, aP, aq, aw, am, aB, ah, List.length_set, List.length_replicate, beq_iff_eq, beq_eq_false_iff_ne, bne_iff_ne, bne_eq_false_iff_eq, Bool.not_eq_true', Bool.not_eq_false', ne_eq, ak, Int.toNat_natCast]
      exact ⟨by omega, by omega, rfl, rfl⟩
    · rintro ⟨e', y2, y3, y4, y5, y6, y7, y8⟩ hq
      dsimp only at hq
      subst hq
      refine an (fun _ => False) (aL ?_) fun _ h => h.elim
      unfold u7
      simp only [T.wp, Sum.elim_inl, Sum.elim_inr, decide_eq_true_eq, decide_eq_false_iff_not, ao, aO, aP, aq, aw, am, aB, ah, List.length_set, List.length_replicate, beq_iff_eq, beq_eq_false_iff_ne, bne_iff_ne, bne_eq_false_iff_eq, Bool.not_eq_true', Bool.not_eq_false', ne_eq, ak, Int.toNat_natCast]
      refine ⟨fun _ => ⟨.inl ⟨_, _, he, rfl⟩, fun _ => ⟨fun _ => ⟨_, _, he, rfl⟩, fun a c f g k => ?_⟩⟩, fun h => absurd h (by omega)⟩
      exact (KS ⟨_, _, he, rfl⟩ k).elim
  refine an (fun p => p = (0, m, s1, v1, (m : Int), (m : Int), m * m, z1)) (aL ?_) ?_
  · unfold yS
    rw [ff d1, ff cE1, hx1]
    simp only [T.wp, Sum.elim_inl, Sum.elim_inr, decide_eq_true_eq, decide_eq_false_iff_not, ao, aO, aP, aq, aw, am, aB, ah, List.length_set, List.length_replicate, beq_iff_eq, beq_eq_false_iff_ne, bne_iff_ne, bne_eq_false_iff_eq, Bool.not_eq_true', Bool.not_eq_false', ne_eq, ak, Int.toNat_natCast]
    exact ⟨by omega, by omega, rfl, rfl⟩
  rintro _ rfl
  dsimp only
  rcases o2 with ⟨s, e, he, rfl⟩ | ⟨s2, v2, ⟨z2, rfl, hz2⟩, hs2, hv2⟩
  · refine an (fun p => p.1 = e) (aL ?_) ?_
    · unfold u7
      rw [ff d2, ff cE2, hx2]
      simp only [T.wp, Sum.elim_inl, Sum.elim_inr, decide_eq_true_eq, decide_eq_false_iff_not, ao, aO, aP, aq, aw, am, aB, ah, List.length_set, List.length_replicate, beq_iff_eq, beq_eq_false_iff_ne, bne_iff_ne, bne_eq_false_iff_eq, Bool.not_eq_true', Bool.not_eq_false', ne_eq, ak, Int.toNat_natCast]
      exact ⟨fun h => absurd rfl h, fun _ => ⟨by omega, by omega, rfl, rfl⟩⟩
    · rintro ⟨e', y2, y3, y4, y5, y6, y7, y8⟩ hq
      dsimp only at hq
      subst hq
      refine an (fun _ => False) (aL ?_) fun _ h => h.elim
      unfold yT
      simp only [T.wp, Sum.elim_inl, Sum.elim_inr, decide_eq_true_eq, decide_eq_false_iff_not, ao, aO, aP, aq, aw, am, aB, ah, List.length_set, List.length_replicate, beq_iff_eq, beq_eq_false_iff_ne, bne_iff_ne, bne_eq_false_iff_eq, Bool.not_eq_true', Bool.not_eq_false', ne_eq, ak, Int.toNat_natCast]
      refine ⟨fun _ => ⟨.inl ⟨_, _, he, rfl⟩, fun _ => ⟨fun _ => ⟨_, _, he, rfl⟩, fun a c f g _ k => ?_⟩⟩, fun h => absurd h (by omega)⟩
      exact (KS ⟨_, _, he, rfl⟩ k).elim
  refine an (fun p => p = (0, n - m, s2, v2, ((n - m : Nat) : Int), ((n - m : Nat) : Int), (n - m) * (n - m), z2)) (aL ?_) ?_
  · unfold u7
    rw [ff d2, ff cE2, hx2]
    simp only [T.wp, Sum.elim_inl, Sum.elim_inr, decide_eq_true_eq, decide_eq_false_iff_not, ao, aO, aP, aq, aw, am, aB, ah, List.length_set, List.length_replicate, beq_iff_eq, beq_eq_false_iff_ne, bne_iff_ne, bne_eq_false_iff_eq, Bool.not_eq_true', Bool.not_eq_false', ne_eq, ak, Int.toNat_natCast]
    exact ⟨fun h => absurd rfl h, fun _ => ⟨by omega, by omega, rfl, rfl⟩⟩
  rintro _ rfl
  dsimp only
  have hl1 := hv1.len
  have hl2 := hv2.len
  refine an (fun p => p.1 = n * n ∧ p.2.length = n * n) (aL ?_) ?_
  · unfold yT
    simp only [T.wp, Sum.elim_inl, Sum.elim_inr, decide_eq_true_eq, decide_eq_false_iff_not, ao, aO, aP, aq, aw, am, aB, ah, List.length_set, List.length_replicate, beq_iff_eq, beq_eq_false_iff_ne, bne_iff_ne, bne_eq_false_iff_eq, Bool.not_eq_true', Bool.not_eq_false', ne_eq, ak, Int.toNat_natCast]
    rw [hD]
    exact ⟨fun h => absurd rfl h, fun _ => ⟨by omega, by omega, by omega, by omega, by omega, by omega, by omega⟩⟩
  rintro ⟨a36, l37⟩ ⟨g1, g2⟩
  dsimp only at g1 g2
  subst g1
  refine an (fun (l : List Nat) => l.length = n * n) (OU (U9 hD hN (by omega) hz1 g2)) fun l40 g3 => an (fun _ => True) (aL ?_) fun _ _ => an (fun (l : List Nat) => l.length = n * n) (OU (Va hD hN (by omega) hz2 g3)) fun l45 g4 => ?_
  · unfold Ev; trivial
  refine an (fun p => p = (Az rho 0, n, v1 ++ v2)) (aL ?_) ?_
  · unfold Ez
    rw [ff hl1, Vb rfl hl2]
    simp only [T.wp, Sum.elim_inl, Sum.elim_inr, decide_eq_true_eq, decide_eq_false_iff_not, ao, aO, aP, aq, aw, am, aB, ah, List.length_set, List.length_replicate, beq_iff_eq, beq_eq_false_iff_ne, bne_iff_ne, bne_eq_false_iff_eq, Bool.not_eq_true', Bool.not_eq_false', ne_eq, ak, Int.toNat_natCast]
    simp only [eX, Nat.ble_eq]
    rw [hl1, show m + (n - m) = n by omega]
    exact ⟨by omega, by omega, by omega, by omega, by omega, by omega, rfl⟩
  rintro _ rfl
  dsimp only
  have hlv : (v1 ++ v2).length = n := by rw [List.length_append, hl1, hl2]; omega
  refine an (fun (p : Xi) => Xj n p ∧ (Az rho 0 = false → p.1 = 0 ∧ p.2.2.2.2.2.2.2.2.2.2.2.2.2.2.2.1 = v1 ++ v2)) ?_ ?_
  · cases hf : Az rho 0
    · simp only [cond_false]
      refine aL ?_
      unfold ED
      rw [hD]
      exact ⟨⟨by omega, rfl, rfl, rfl, rfl, hlv, g4⟩, fun _ => ⟨rfl, rfl⟩⟩
    · simp only [cond_true]
      have hN12 := hN' hf
      obtain ⟨xw, hxw, rr, d', z', v', rfl, k1, k2, k3⟩ := Rm (m := m) (rho := rho) hlv g4 hN12 (by omega) (by omega) hr
      refine an (fun p => p = ((n : Int), n, n * n, rr, d', z', v')) (aL ?_) ?_
      · unfold EB
        rw [hD, hxw]
        exact ⟨rfl, rfl⟩
      rintro _ rfl
      dsimp only
      obtain ⟨xa, hxa, a80, a81, a82, a83, a84, l85, l86, l87, l88, l89, rfl, hms, hs⟩ := TM (x9 := rr) k1 k2 k3 hN12
      refine an (fun p => p = ((n : Int), n, n, n, n, (n : Int), (n : Int), n * n, n * n, a80, a81, a82, a83, a84, l85, l86, l87, l88, l89)) (aL ?_) ?_
      · unfold EC
        rw [hxa]
        exact ⟨rfl, rfl⟩
      rintro _ rfl
      dsimp only
      obtain ⟨xr, hxr, hrr⟩ := TP (c11 := a82) (c13 := a84) (x9 := a80) hms.d hms.z hms.v hN12 hms.il hms.ig hms.l hms.g hs
      rcases hrr with rfl | ⟨mm, t, w, rfl, w1, w2, w3⟩
      · refine an (fun p => p.2.1 = 7) (aL ?_) ?_
        · unfold yU
          rw [hxr]
          exact .inl ⟨rfl, rfl⟩
        · rintro ⟨y1, y2, y3, y4, y5, y6, y7, y8, y9, y10, y11, y12, y13, y14, y15, y16, y17, y18, y19, y20, y21⟩ hq
          dsimp only at hq
          subst hq
          refine aL ?_
          unfold yV
          simp only [T.wp, Sum.elim_inl, Sum.elim_inr, decide_eq_true_eq, decide_eq_false_iff_not, ao, aO, aP, aq, aw, am, aB, ah, List.length_set, List.length_replicate, beq_iff_eq, beq_eq_false_iff_ne, bne_iff_ne, bne_eq_false_iff_eq, Bool.not_eq_true', Bool.not_eq_false', ne_eq, ak, Int.toNat_natCast]
          exact ⟨fun _ => ⟨.inl ⟨_, _, by decide, rfl⟩, fun q => (by cases q)⟩, fun h => absurd h (by decide)⟩
      · refine an (fun p => p.2.1 = 0 ∧ Xj n (p.1, p.2.2)) (aL ?_) ?_
        · unfold yU
          rw [hxr]
          exact .inr ⟨Xa rfl, .inl ⟨rfl, rfl, by show mm ≤ 780; omega, rfl, rfl, rfl, rfl, w1, w2⟩⟩
        · rintro ⟨y1, y2, y3, y4, y5, y6, y7, y8, y9, y10, y11, y12, y13, y14, y15, y16, y17, y18, y19, y20, y21⟩ ⟨hq, hS⟩
          dsimp only at hq
          subst hq
          refine aL ?_
          unfold yV
          simp only [T.wp, Sum.elim_inl, Sum.elim_inr, decide_eq_true_eq, decide_eq_false_iff_not, ao, aO, aP, aq, aw, am, aB, ah, List.length_set, List.length_replicate, beq_iff_eq, beq_eq_false_iff_ne, bne_iff_ne, bne_eq_false_iff_eq, Bool.not_eq_true', Bool.not_eq_false', ne_eq, ak, Int.toNat_natCast]
          exact ⟨fun h => absurd rfl h, fun _ => ⟨hS, fun q => (by cases q)⟩⟩
  rintro ⟨st, y3, a98, y5, y6, y7, i102, i103, a104, y11, y12, y13, y14, y15, y16, l111, y18, l113, y20, y21⟩ ⟨⟨c1, c2, c3, c4, c5, c6, c7⟩, hap⟩
  dsimp only at c1 c2 c3 c4 c5 c6 c7 hap
  subst c2 c3 c4 c5
  obtain ⟨xs, hxs, hss⟩ := Ny (w := l111) (z := l113) (R := a98) (by omega) (by omega) (by rw [c6]; exact c7)
  rw [c6] at hxs hss
  refine an (fun (p : Nat × Nat × List Nat × Int × Int × Nat × List Nat) => (p = (0, 10, [], 0, 0, 0, []) ∧ ¬ GD l111) ∨ (GD l111 ∧ ∃ z, p = (a98, 0, LE l111 a98, (a98 : Int), (a98 : Int), a98 * a98, z) ∧ z.length = a98 * a98)) (aL ?_) ?_
  · unfold EE
    rw [ff c6, ff c7, hxs]
    simp only [T.wp, Sum.elim_inl, Sum.elim_inr, decide_eq_true_eq, decide_eq_false_iff_not, ao, aO, aP, aq, aw, am, aB, ah, List.length_set, List.length_replicate, beq_iff_eq, beq_eq_false_iff_ne, bne_iff_ne, bne_eq_false_iff_eq, Bool.not_eq_true', Bool.not_eq_false', ne_eq, ak, Int.toNat_natCast]
    rcases hss with ⟨rfl, hn⟩ | ⟨hg, z', rfl, hz'⟩
    · exact ⟨by omega, by omega, rfl, .inl ⟨rfl, hn⟩⟩
    · exact ⟨by omega, by omega, rfl, .inr ⟨hg, z', rfl, hz'⟩⟩
  · rintro p hp
    rcases hp with ⟨rfl, hn⟩ | ⟨hg, z', rfl, hz'⟩
    · refine aL ?_
      unfold yW
      simp only [T.wp, Sum.elim_inl, Sum.elim_inr, decide_eq_true_eq, decide_eq_false_iff_not, ao, aO, aP, aq, aw, am, aB, ah, List.length_set, List.length_replicate, beq_iff_eq, beq_eq_false_iff_ne, bne_iff_ne, bne_eq_false_iff_eq, Bool.not_eq_true', Bool.not_eq_false', ne_eq, ak, Int.toNat_natCast]
      refine ⟨by omega, by omega, .inl ⟨_, _, by decide, rfl⟩, fun q => ?_⟩
      refine absurd ?_ hn
      rw [(hap q).2]
      exact Wu hv1.gd hv2.gd
    · refine aL ?_
      unfold yW
      simp only [T.wp, Sum.elim_inl, Sum.elim_inr, decide_eq_true_eq, decide_eq_false_iff_not, ao, aO, aP, aq, aw, am, aB, ah, List.length_set, List.length_replicate, beq_iff_eq, beq_eq_false_iff_ne, bne_iff_ne, bne_eq_false_iff_eq, Bool.not_eq_true', Bool.not_eq_false', ne_eq, ak, Int.toNat_natCast]
      refine ⟨by omega, by omega, .inr ⟨_, _, ⟨z', rfl, hz'⟩, by omega, l111, rfl, c6, hg⟩, fun q => ⟨fun h => ?_, fun t1 u1 t2 u2 k1 k2 => ?_⟩⟩
      · rcases h with ⟨_, _, he, h⟩ | ⟨_, _, he, h⟩
        · injection h with _ _ h
          exact absurd h.symm he
        · injection h with _ _ h
          exact absurd h.symm he
      · obtain ⟨_, k1, _⟩ := k1
        obtain ⟨_, k2, _⟩ := k2
        injection k1 with _ k11 _ k12
        injection k2 with _ k21 _ k22
        subst k11 k12 k21 k22
        obtain ⟨q1, q2⟩ := hap q
        refine ⟨z', ?_, hz'⟩
        rw [q1, q2, Nat.zero_add]
def conv:cR→aF
  | .r0 a b c d e f g h=>.r0 a b c d e f g h
theorem Wv{D E:List Nat}{n:Nat}(hD:D.length=n)(hE:E.length=n-1)(hN:n≤512) :UW D E=true:=decide_eq_true ⟨by omega,by omega⟩
theorem leaf{D E:List Nat}{n:Nat}(hD:D.length=n)(h2:n≤2)(hE:E.length=n-1) :
    ∃ y,fg D E (n:Int) (n:Int) (Kf n n)=some y∧VE n n y∧∀ R,uT R D E=some (conv y):=by
  obtain ⟨y,hy,hq⟩:=Si (R:=n) hD (Wv hD hE (by omega)) (by omega) (by omega) (yy n n)
  refine ⟨y,hy,hq,fun R=>?_⟩
  refine kh (df (a:=true) ?_ (qZ ?_))
  · unfold yR
    show some (Sum.inl (decide _))=_
    rw [decide_eq_true (by omega)]
  · cases y with
    | r0 a b c d e f g h =>
    refine df (a:=(a,b,c,d,e,f,g,h)) ?_ rfl
    unfold Eq
    have hn:((D.length:Nat):Int)=(n:Int):=by rw [hD]
    rw [hn,TQ (by omega:n≤12)]
    simp only [vS,ch,fL,fM]
    rw [ak,ak,ff (yy n n),hy]
    exact sB (kW (kW (mO (Ge (yy n n)) (sB rfl))))
theorem VE.conv{n:Nat}{y:cR}(h:VE n n y) :Qd n (31*n) (conv y):=by
  rcases h with ⟨s,e,rfl,he⟩ | ⟨s,w,z,rfl,hs,hw,hg,hz⟩
  · exact .inl ⟨s,e,by rcases he with rfl | rfl<;>decide,rfl⟩
  · exact .inr ⟨s,_,⟨z,rfl,hz⟩,hs,w,rfl,hw,hg⟩
def NN(E:List Nat) :Prop:=∀ i,i<E.length→isNaN (E.getD i 0)=false
theorem Ww{l:List Nat} :NN l↔∀ x,x∈l→isNaN x=false:=by
  refine ⟨fun h x hx=>?_,fun h i hi=>h _ (FW hi)⟩
  obtain ⟨i,hi,rfl⟩:=List.getElem_of_mem hx
  have:=h i hi
  rw [List.getD_eq_getElem?_getD,List.getElem?_eq_getElem hi] at this
  exact this
theorem NN.cut{E:List Nat}(h:NN E)(o k:Nat) :NN (ay o k E):=by
  rw [Ww] at h ⊢
  intro x hx
  rw [IB] at hx
  exact h x (List.mem_of_mem_drop (List.mem_of_mem_take hx))
theorem Qd.mono{n b c:Nat}{x:aF}(h:Qd n b x)(k:b≤c) :Qd n c x:=by
  rcases h with h | ⟨s,v,h,hs,hv⟩
  · exact .inl h
  · exact .inr ⟨s,v,h,Nat.le_trans hs k,hv⟩
def Bn:Nat→Nat
  | 0=>0
  | j+1=>2*Bn j+1000
theorem WY:∀ {j:Nat},j≤5→Bn j≤31000:=by
  intro j hj
  have:j=0∨j=1∨j=2∨j=3∨j=4∨j=5:=by omega
  rcases this with rfl | rfl | rfl | rfl | rfl | rfl<;>decide
theorem Kg:∀ (j:Nat) {D E:List Nat} {n:Nat},1≤j→j≤5→D.length=n→E.length=n-1→n≤2^j→n≤12→NN E→jk (eN j D E) (Qd n (Bn j))
  | 0,_,_,_,h,_,_,_,_,_,_=>absurd h (by decide)
  | j + 1, D, E, n, _, h5, hD, hE, hj, hN, hn => by
    by_cases h2:n≤2
    · obtain ⟨y,_,hq,hR⟩:=leaf hD h2 hE
      refine ⟨conv y,hR _,(hq.conv).mono ?_⟩
      unfold Bn
      omega
    · have hj1:1≤j:=by
        rcases j with _ | j
        · rw [Nat.pow_one] at hj;omega
        · omega
      have hp:2^(j+1)=2*2^j:=by rw [Nat.pow_succ,Nat.mul_comm]
      have hB:=WY (show j≤5 by omega)
      refine (body (m:=n/2) (R:=eN j) (b:=Bn j) hD (by omega) (by omega) hE rfl rfl (hn _ (by omega)) (fun _=>hN) (by omega) (fun D' hD'=>?_) fun D' hD'=>?_).mono fun x hx=>hx.1
      · exact Kg j hj1 (by omega) hD' (jp (by omega)) (by omega) (by omega) (hn.cut _ _)
      · refine Kg j hj1 (by omega) hD' ?_ (by omega) (by omega) (hn.cut _ _)
        rw [jp (by omega)];omega
end Go.Plb.Seat
namespace Go.Plb
set_option linter.unusedSimpArgs false
set_option linter.unusedVariables false
set_option linter.unusedSectionVars false
variable [Rom]
theorem OV(s:Bool)(m a b:Nat) :Ieee.signed s m (a+b)=Ieee.signed s m a*((2^b:Nat):Int):=by
  unfold Ieee.signed
  rw [Nat.shiftLeft_eq,Nat.shiftLeft_eq,Nat.pow_add,←Nat.mul_assoc,Int.natCast_mul (m*2^a) (2^b)]
  cases s
  · rfl
  · rw [if_pos rfl,if_pos rfl,Int.neg_mul]
theorem OW(s:Bool)(m a:Nat) :Ieee.signed s m a=sg s (m*2^a):=by
  unfold Ieee.signed sg
  rw [Nat.shiftLeft_eq]
theorem Rr{x:Nat}(hx:x<Kd) :(x/9223372036854775808%2==1)=(x/9223372036854775808==1):=by
  have hx:x<18446744073709551616:=hx
  have:x/9223372036854775808%2=x/9223372036854775808:=by omega
  rw [this]
theorem Wx{x y:Nat}(hx:x<Kd)(hy:y<Kd)(fx:HB x=true)(fy:HB y=true) :flt x y=decide (fz x<fz y):=by
  unfold flt vA Ieee.Format.order
  rw [Jd hx fx,Jd hy fy,Rr hx,Rr hy]
  unfold fz
  generalize (x/9223372036854775808==1)=s
  generalize (y/9223372036854775808==1)=t
  generalize DO (x%9223372036854775808)=m
  generalize DO (y%9223372036854775808)=n
  generalize qw (x%9223372036854775808)=i
  generalize qw (y%9223372036854775808)=j
  simp only [Ieee.Datum.order]
  have e1:((-1074+(i:Int))-min (-1074+(i:Int)) (-1074+(j:Int))).toNat=i-min i j:=by omega
  have e2:((-1074+(j:Int))-min (-1074+(i:Int)) (-1074+(j:Int))).toNat=j-min i j:=by omega
  rw [e1,e2,←OW,←OW]
  have h1:Ieee.signed s m i=Ieee.signed s m (i-min i j)*((2^(min i j):Nat):Int):=by rw [←OV];congr 1;omega
  have h2:Ieee.signed t n j=Ieee.signed t n (j-min i j)*((2^(min i j):Nat):Int):=by rw [←OV];congr 1;omega
  rw [h1,h2]
  have hp:(0:Int)<((2^(min i j):Nat):Int):=by have:=Nat.pow_pos (n:=min i j) (show 0<2 by decide);omega
  generalize Ieee.signed s m (i-min i j)=a
  generalize Ieee.signed t n (j-min i j)=b
  generalize ((2^(min i j):Nat):Int)=p at hp
  have e:(a*p<b*p)↔a<b:=⟨fun h=>Int.lt_of_mul_lt_mul_right h (Int.le_of_lt hp),fun h=>Int.mul_lt_mul_of_pos_right h hp⟩
  have e3:(some (compare a b)==some Ordering.lt)=decide (a<b):=by
    rw [Bool.eq_iff_iff,decide_eq_true_eq,beq_iff_eq,Option.some.injEq]
    exact Int.compare_eq_lt
  rw [e3,Bool.eq_iff_iff,decide_eq_true_eq,decide_eq_true_eq]
  exact e.symm
end Go.Plb
namespace Go.Plb.Seat
open Go Go.Plb
set_option linter.unusedSimpArgs false
set_option linter.unusedVariables false
theorem Rs(x:Nat) :FloatKind.f64.format.read (x%Kd)=FloatKind.f64.format.read x:=by
  show Ieee.double.read _=Ieee.double.read _
  unfold Ieee.Format.read
  have e:Ieee.double.signWeight=9223372036854775808:=by decide
  have w:Kd=18446744073709551616:=by decide
  rw [e,w,show x%18446744073709551616/9223372036854775808%2=x/9223372036854775808%2 by omega,show x%18446744073709551616%9223372036854775808=x%9223372036854775808 by omega]
theorem Rt(x y:Nat) :vA (x%Kd) (y%Kd)=vA x y:=by
  unfold vA Ieee.Format.order
  rw [Rs,Rs]
theorem So(x:Nat) :eE (x%Kd)=eE x:=by
  have w:Kd=18446744073709551616:=by decide
  unfold eE
  rw [w]
  omega
theorem Jh(x:Nat) :x%Kd<Kd:=Nat.mod_lt _ (by decide)
theorem Vc{x:Nat}(h:gd x=true) :HB (x%Kd)=true:=by
  obtain ⟨h1,h2⟩:=SX h
  cases q:HB (x%Kd)
  · exfalso
    rcases OP (Jh x) q with r | ⟨r1,r2,r3⟩
    · have:=SV (y:=x%Kd) r
      unfold Az at this h1
      rw [Rt] at this
      rw [this] at h1
      cases h1
    · have:=SW (Jh x) r2
      rw [So,h2] at this
      cases this
  · rfl
def wv(x:Nat) :Int:=fz (x%Kd)
theorem S0{x y:Nat}(hx:gd x=true)(hy:gd y=true) :flt x y=decide (wv x<wv y):=by
  have:=Wx (Jh x) (Jh y) (Vc hx) (Vc hy)
  rw [←show flt (x%Kd) (y%Kd)=flt x y by unfold flt;rw [Rt]]
  exact this
theorem Nz{l:List Nat}(h:GD l){i:Nat} :∀ (d:Nat),i+d<l.length→∀ q,i≤q→q≤i+d→wv (l.getD (DP l i d) 0)≤wv (l.getD q 0)
  | 0,_,q,h1,h2=>by
    have:q=i:=by omega
    subst this
    exact Int.le_refl _
  | d + 1, hd, q, h1, h2 => by
    have ih:=Nz h (i:=i) d (by omega)
    have b:=Gf l i d
    have f:=S0 (h (i+1+d) (by omega)) (h (DP l i d) (by omega))
    unfold DP
    cases e:flt (l.getD (i+1+d) 0) (l.getD (DP l i d) 0)
    · simp only [cond_false]
      rw [e] at f
      have f':=of_decide_eq_false f.symm
      by_cases hq:q=i+1+d
      · subst hq;omega
      · exact ih q h1 (by omega)
    · simp only [cond_true]
      rw [e] at f
      have f':=of_decide_eq_true f.symm
      by_cases hq:q=i+1+d
      · subst hq;exact Int.le_refl _
      · have:=ih q h1 (by omega)
        omega
theorem Ru{l:List Nat}{i q x:Nat}(hi:i<l.length) :(l.set i x).getD q 0=if q=i then x else l.getD q 0:=by
  rw [List.getD_eq_getElem?_getD,List.getD_eq_getElem?_getD,List.getElem?_set]
  by_cases h:i=q
  · subst h
    rw [if_pos rfl,if_pos hi,if_pos rfl];rfl
  · rw [if_neg h,if_neg (fun z=>h z.symm)]
theorem Vd{l:List Nat}{i k q:Nat}(hi:i<l.length)(hk:k<l.length) :(Wr l i k).getD q 0=if q=k then l.getD i 0 else if q=i then l.getD k 0 else l.getD q 0:=by
  unfold Wr
  rw [Ru (by rw [List.length_set];exact hk),Ru hi]
theorem VK{l:List Nat}(h:GD l){i:Nat}(hi:i≤l.length) :GD (LE l i):=by
  rw [Sl] at h ⊢
  exact fun x hx=>h x (Qc hi hx)
theorem OX{l:List Nat}(h:GD l) :∀ (i:Nat),i≤l.length→∀ p q,p<i→p<q→q<l.length→wv ((LE l i).getD p 0)≤wv ((LE l i).getD q 0)
  | 0,_,p,q,hp,_,_=>absurd hp (by omega)
  | i + 1, hi, p, q, hp, hpq, hq => by
    have ih:=OX h i (by omega)
    have g:=VK h (i:=i) (by omega)
    have hl:=Jg l i
    have b:=Gf (LE l i) i (l.length-(i+1))
    have al:=Nz g (i:=i) (l.length-(i+1)) (by omega)
    unfold LE
    generalize DP (LE l i) i (l.length-(i+1))=k at *
    generalize LE l i=s at *
    rw [Vd (by omega) (by omega),Vd (by omega) (by omega)]
    by_cases hpi:p=i
    · subst hpi
      have e1:(if p=k then s.getD p 0 else if p=p then s.getD k 0 else s.getD p 0)=s.getD k 0:=by
        by_cases z:p=k
        · rw [if_pos z,z]
        · rw [if_neg z,if_pos rfl]
      rw [e1]
      by_cases z:q=k
      · rw [if_pos z];exact al p (by omega) (by omega)
      · rw [if_neg z,if_neg (by omega)];exact al q (by omega) (by omega)
    · rw [if_neg (show ¬ p=k by omega),if_neg hpi]
      by_cases z:q=k
      · rw [if_pos z];exact ih p i (by omega) (by omega) (by omega)
      · rw [if_neg z]
        by_cases z2:q=i
        · rw [if_pos z2];exact ih p k (by omega) (by omega) (by omega)
        · rw [if_neg z2];exact ih p q (by omega) hpq hq
theorem Sn.rises{n:Nat}{v:List Nat}(h:Sn n v){i:Nat}(hi:i+1<n) :flt (v.getD (i+1) 0) (v.getD i 0)=false:=by
  have hg:=h.gd
  have hl:=h.len
  rw [S0 (hg _ (by omega)) (hg _ (by omega))]
  refine decide_eq_false ?_
  obtain ⟨w,rfl,rfl,hw⟩:=h
  have:=OX hw w.length (Nat.le_refl _) i (i+1) (by omega) (by omega) hi
  omega
theorem Rv{D E:List Nat}{e:Nat}(hw:re D E=some (.r0 e))(he:e≠0) :eP D E=some (.r0 0 0 e [] 0 0 0 []):=by
  refine kh (df (a:=e) ?_ (qZ ?_))
  · unfold wk
    rw [ak,ak,hw]
    exact kW (kW (sB rfl))
  · unfold wl
    exact T.at (by simp only [ao,aO,aP,aq,aw,am,cO,cP,decide_eq_true_eq,decide_eq_false_iff_not,beq_iff_eq,beq_eq_false_iff_ne,bne_iff_ne,bne_eq_false_iff_eq,Bool.not_eq_true',Bool.not_eq_false',List.length_set,ne_eq,ge_iff_le,gt_iff_lt,bK,ah,eX];omega) rfl
theorem TS{D E:List Nat}(hD:D.length≤1000000)(h:UW D E=false) :eP D E=some (.r0 0 0 2 [] 0 0 0 []):=by
  refine Rv ?_ (by decide)
  refine kh (qZ ?_)
  unfold vP
  rw [ak,ak,Nx hD,h]
  exact (kW (kW (sB (FV rfl))))
theorem TT{D E:List Nat}(wD:Wd D)(wE:Wd E)(hD:D.length≤1000000)(hE:E.length≤1000000)(h:UW D E=true)(hf:(Df D&&Df E)=false) :eP D E=some (.r0 0 0 10 [] 0 0 0 []):=by
  have:=KR wD wE hD hE h
  rw [hf] at this
  exact Rv this (by decide)
theorem TU{D E:List Nat}(wD:Wd D)(wE:Wd E)(hD:D.length≤1000000)(hE:E.length≤1000000)(h:UW D E=true)(hf:(Df D&&Df E)=true){x:aF}(hx:eN 5 D E=some x) :
    (TR x→eP D E=some (.r0 0 0 7 [] 0 0 0 []))∧∀ n s v z,x=.r0 n s 0 v (n:Int) (n:Int) (n*n) z→eP D E=some (.r0 n s 0 v (n:Int) (n:Int) (n*n) z):=by
  have hw:=KR wD wE hD hE h
  rw [hf] at hw
  have t4:(wk D E).run=some (.inl 0):=by
    unfold wk
    rw [ak,ak,hw]
    exact kW (kW (sB rfl))
  refine ⟨?_,?_⟩
  · rintro ⟨s,e,he,rfl⟩
    refine kh (df t4 (df (a:=(0,s,e,[],0,0,0,[])) ?_ ?_))
    · unfold wl
      rw [ak,ak,hx]
      exact Br (kW (kW (sB rfl)))
    · show (Au _ _ _ _ _ _ _ _).run=_
      unfold Au
      exact T.at (by rw [bne_iff_ne];omega) rfl
  · rintro n s v z rfl
    refine kh (df t4 (df (a:=(n,s,0,v,(n:Int),(n:Int),n*n,z)) ?_ ?_))
    · unfold wl
      rw [ak,ak,hx]
      exact Br (kW (kW (sB rfl)))
    · exact Br rfl
theorem Wy{E:List Nat}(wE:Wd E)(h:Df E=true) :NN E:=fun i hi=>Vz (wE i) (OQ.1 h i hi)
theorem TV{D E:List Nat}(wD:Wd D)(wE:Wd E) :oK D E=some (.r0 true):=by
  have few:yw D E 12=some (.r0 (decide (D.length≤12∧E.length≤12))):=by
    refine kh (df (a:=decide (D.length≤12∧E.length≤12)) ?_ rfl)
    unfold I6
    by_cases h:D.length≤12
    · refine T.at (decide_eq_true (by omega)) ?_
      show some (Sum.inl (decide ((E.length:Int)≤12)))=some (Sum.inl (decide (D.length≤12∧E.length≤12)))
      by_cases q:E.length≤12
      · rw [decide_eq_true (show (E.length:Int)≤12 by omega),decide_eq_true (show D.length≤12∧E.length≤12 from ⟨h,q⟩)]
      · rw [decide_eq_false (show ¬ (E.length:Int)≤12 by omega),decide_eq_false (show ¬ (D.length≤12∧E.length≤12) from fun z=>q z.2)]
    · rw [decide_eq_false (show ¬ (D.length≤12∧E.length≤12) from fun z=>h z.1)]
      exact zE (decide_eq_false (by omega)) rfl
  have t12:(sx D E).run=some (.inl (!(decide (D.length≤12∧E.length≤12)))):=by
    unfold sx
    rw [ak,ak,few]
    exact kW (kW (sB rfl))
  by_cases hs:D.length≤12∧E.length≤12
  case neg =>
    rw [decide_eq_false hs] at t12
    exact kh (df t12 (qZ (FV rfl)))
  rw [decide_eq_true hs] at t12
  obtain ⟨h12,hE12⟩:=hs
  have bad:∀ e,e≠0→eP D E=some (.r0 0 0 e [] 0 0 0 [])→oK D E=some (.r0 true):=by
    intro e he h
    refine kh (df t12 (df (a:=(0,0,e,[],0,0,0,[])) ?_ (qZ ?_)))
    · unfold sy
      rw [ak,ak,h]
      exact Br (kW (kW (sB rfl)))
    · show (kV _ _ _ _ _ _ _).run=_
      unfold kV
      exact T.at (by rw [bne_iff_ne];omega) (FV (FV rfl))
  cases ho:UW D E
  · exact bad 2 (by decide) (TS (by omega) ho)
  cases hf:(Df D&&Df E)
  · exact bad 10 (by decide) (TT wD wE (by omega) (by omega) ho hf)
  obtain ⟨n,hn⟩:∃ n,D.length=n:=⟨_,rfl⟩
  have hEn:E.length=n-1:=by
    have:=of_decide_eq_true ho
    omega
  have hNE:NN E:=Wy wE (Bool.and_eq_true_iff.1 hf).2
  obtain ⟨x,hx,hq⟩:=Kg 5 (by decide) (by decide) hn hEn (by omega) (by omega) hNE
  obtain ⟨s1,s2⟩:=TU wD wE (by omega) (by omega) ho hf hx
  rcases hq with hq | ⟨s,v,⟨z,rfl,hz⟩,hs,hv⟩
  · exact bad 7 (by decide) (s1 hq)
  have hS:=s2 n s v z rfl
  have hNN:n*n≤144:=Nat.mul_le_mul (show n≤12 by omega) (show n≤12 by omega)
  have hl:=hv.len
  have main:∀ y,(bd ((sA D E n).run) fun (v12,m13,f14,l15,i17,i18,a19,l20) =>
      bd ((pN n s v (n:Int) (n:Int) (n*n) z v12 m13 f14 l15 i17 i18 a19 l20).run) fun b21=>(yx b21).run)=some (.inr y)→y=.r0 true→oK D E=some (.r0 true):=by
    intro y hy e
    subst e
    refine kh (df t12 (df (a:=(n,s,0,v,(n:Int),(n:Int),n*n,z)) ?_ (df (a:=false) ?_ (df (a:=()) rfl (df (a:=()) ?_ hy)))))
    · unfold sy
      rw [ak,ak,hS]
      exact Br (kW (kW (sB rfl)))
    · show (kV _ _ _ _ _ _ _).run=_
      unfold kV
      rw [hn]
      refine Br (zE (by simp) (zE (by simp) (zE (by simp) (mO (ao.2 (by omega)) ?_))))
      simp only [T.run,bne_self_eq_false]
    · by_cases hn1:1≤n
      · refine ON (fun j=>j) n 1 hn1 (fun j hj1 hj2=>?_) ?_
        · show (iA _ _ _).run=_
          unfold iA
          have e1:((j:Int)-1).toNat=j-1:=by omega
          have r:=hv.rises (i:=j-1) (by omega)
          rw [show j-1+1=j by omega] at r
          rw [e1,r]
          exact T.at (by simp only [ao,aO,aP,aq,aw,am,cO,cP,decide_eq_true_eq,decide_eq_false_iff_not,beq_iff_eq,beq_eq_false_iff_ne,bne_iff_ne,bne_eq_false_iff_eq,Bool.not_eq_true',Bool.not_eq_false',List.length_set,ne_eq,ge_iff_le,gt_iff_lt,bK,ah,eX];omega) (mO (by simp only [ao,aO,aP,aq,aw,am,cO,cP,decide_eq_true_eq,decide_eq_false_iff_not,beq_iff_eq,beq_eq_false_iff_ne,bne_iff_ne,bne_eq_false_iff_eq,Bool.not_eq_true',Bool.not_eq_false',List.length_set,ne_eq,ge_iff_le,gt_iff_lt,bK,ah,eX];omega) (mO (by simp only [ao,aO,aP,aq,aw,am,cO,cP,decide_eq_true_eq,decide_eq_false_iff_not,beq_iff_eq,beq_eq_false_iff_ne,bne_iff_ne,bne_eq_false_iff_eq,Bool.not_eq_true',Bool.not_eq_false',List.length_set,ne_eq,ge_iff_le,gt_iff_lt,bK,ah,eX];omega) (mO (by simp only [ao,aO,aP,aq,aw,am,cO,cP,decide_eq_true_eq,decide_eq_false_iff_not,beq_iff_eq,beq_eq_false_iff_ne,bne_iff_ne,bne_eq_false_iff_eq,Bool.not_eq_true',Bool.not_eq_false',List.length_set,ne_eq,ge_iff_le,gt_iff_lt,bK,ah,eX];omega) (mO (by simp only [ao,aO,aP,aq,aw,am,cO,cP,decide_eq_true_eq,decide_eq_false_iff_not,beq_iff_eq,beq_eq_false_iff_ne,bne_iff_ne,bne_eq_false_iff_eq,Bool.not_eq_true',Bool.not_eq_false',List.length_set,ne_eq,ge_iff_le,gt_iff_lt,bK,ah,eX];omega) (mO (by simp only [ao,aO,aP,aq,aw,am,cO,cP,decide_eq_true_eq,decide_eq_false_iff_not,beq_iff_eq,beq_eq_false_iff_ne,bne_iff_ne,bne_eq_false_iff_eq,Bool.not_eq_true',Bool.not_eq_false',List.length_set,ne_eq,ge_iff_le,gt_iff_lt,bK,ah,eX];omega) (Br (mO (by simp only [ao,aO,aP,aq,aw,am,cO,cP,decide_eq_true_eq,decide_eq_false_iff_not,beq_iff_eq,beq_eq_false_iff_ne,bne_iff_ne,bne_eq_false_iff_eq,Bool.not_eq_true',Bool.not_eq_false',List.length_set,ne_eq,ge_iff_le,gt_iff_lt,bK,ah,eX];omega) rfl)))))))
        · show (iA _ _ _).run=_
          unfold iA
          exact zE (by simp only [ao,aO,aP,aq,aw,am,cO,cP,decide_eq_true_eq,decide_eq_false_iff_not,beq_iff_eq,beq_eq_false_iff_ne,bne_iff_ne,bne_eq_false_iff_eq,Bool.not_eq_true',Bool.not_eq_false',List.length_set,ne_eq,ge_iff_le,gt_iff_lt,bK,ah,eX];omega) rfl
      · refine wu (fun _=>1) 0 rfl (fun j hj=>absurd hj (by omega)) ?_
        show (iA _ _ _).run=_
        unfold iA
        exact zE (by simp only [ao,aO,aP,aq,aw,am,cO,cP,decide_eq_true_eq,decide_eq_false_iff_not,beq_iff_eq,beq_eq_false_iff_ne,bne_iff_ne,bne_eq_false_iff_eq,Bool.not_eq_true',Bool.not_eq_false',List.length_set,ne_eq,ge_iff_le,gt_iff_lt,bK,ah,eX];omega) rfl
  by_cases h2:n≤2
  · obtain ⟨y,hy,hyq,hR⟩:=leaf hn h2 hEn
    have ey:conv y=.r0 n s 0 v (n:Int) (n:Int) (n*n) z:=by
      have:=hR (eN 4)
      have hx':uT (eN 4) D E=some (.r0 n s 0 v (n:Int) (n:Int) (n*n) z):=hx
      rw [this] at hx'
      injection hx'
    have ey':y=.r0 n s 0 v (n:Int) (n:Int) (n*n) z:=by
      cases y with
      | r0 a b c d e f g h =>
        unfold conv at ey
        injection ey with e1 e2 e3 e4 e5 e6 e7 e8
        subst e1 e2 e3 e4 e5 e6 e7 e8
        rfl
    rw [ey'] at hy
    refine main _ (df (a:=(n,s,0,v,(n:Int),(n:Int),n*n,z)) ?_ (df (a:=true) ?_ rfl)) rfl
    · unfold sA
      rw [Rq (by omega)]
      simp only [ws,cn,fO,fP]
      rw [ak,ak,ff (yy n n),hy]
      exact zE (by simp only [ao,aO,aP,aq,aw,am,cO,cP,decide_eq_true_eq,decide_eq_false_iff_not,beq_iff_eq,beq_eq_false_iff_ne,bne_iff_ne,bne_eq_false_iff_eq,Bool.not_eq_true',Bool.not_eq_false',List.length_set,ne_eq,ge_iff_le,gt_iff_lt,bK,ah,eX];omega) (sB (kW (kW (mO (Ge (yy n n)) (sB rfl)))))
    · show (pN _ _ _ _ _ _ _ _ _ _ _ _ _ _ _).run=_
      have rs:wt (n:Int) (n:Int) z (n:Int) (n:Int) z=some (.r0 true):=by
        refine kh (df (a:=true) ?_ rfl)
        unfold HA
        rw [ak,Je (by omega)]
        exact T.at (by simp) (T.at (by simp) (kW (kW (sB rfl))))
      unfold pN
      rw [ff hl,ff hz,Je (by omega),rs]
      exact FV (T.at (by simp) (mO (Ge hl) (mO (Ge hl) (sB (FV (mO (Ge hz) (mO (Ge hz) (sB (FV rfl)))))))))
  · exact main _ (qZ (T.at (by simp only [ao,aO,aP,aq,aw,am,cO,cP,decide_eq_true_eq,decide_eq_false_iff_not,beq_iff_eq,beq_eq_false_iff_ne,bne_iff_ne,bne_eq_false_iff_eq,Bool.not_eq_true',Bool.not_eq_false',List.length_set,ne_eq,ge_iff_le,gt_iff_lt,bK,ah,eX];omega) rfl)) rfl
end Go.Plb.Seat
