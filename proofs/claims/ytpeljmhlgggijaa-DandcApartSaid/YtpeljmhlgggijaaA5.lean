/-
  Part 5 of what the claim leans on: an evaluator of the model, proved sound; the contracts of the functions.
-/
import Derived.Test.YtpeljmhlgggijaaA4
namespace Go.Plb.Seat
open Go Go.Plb
set_option linter.unusedSimpArgs false
set_option linter.unusedVariables false
theorem VI{N n10 c11 n12 c13 x9:Nat}{d z v w:List Nat}{l g:List Int}{i at_ j k:Int}(hv:v.length=N*N)(hw:w.length=N*N)(hN:N≤12)(hi:0≤i∧i<N)(ha:0≤at_∧at_<N) :
    iU (ai (N:Int) N N N N (N:Int) (N:Int) (N*N) (N*N) x9 n10 c11 n12 c13 d z v l g i j k (N*N) (N*N) w at_) fun x=>∃ w',x=.r0 (N:Int) N N N N (N:Int) (N:Int) (N*N) (N*N) x9 n10 c11 n12 c13 d z v l g i j k (N*N) (N*N) w'∧w'.length=N*N:=by
  have hNN:N*N≤144:=Nat.mul_le_mul hN hN
  refine sR (an (fun _=>True) (aJ ?_) fun _ _=>an (fun (l:List Nat)=>l.length=N*N) (iU.loop (fun (p:Nat×List Nat)=>p.1≤N∧p.2.length=N*N) (fun p=>N-p.1) ⟨Nat.zero_le _,hw⟩ ?_) fun y hy=>aJ ?_)
  · unfold hU;trivial
  · rintro ⟨a,y⟩ ⟨ha',hy⟩
    dsimp only at ha' hy
    unfold cH
    refine aJ ?_
    unfold gN
    have e1:(a:Int)*(N:Int)=((a*N:Nat):Int):=by rw [Int.natCast_mul]
    rw [e1]
    simp only [T.wp,Sum.elim_inl,Sum.elim_inr,decide_eq_true_eq,decide_eq_false_iff_not,ap,aP,aQ,au,ax,am,aB,ah,List.length_set,List.length_replicate,beq_iff_eq,beq_eq_false_iff_ne,bne_iff_ne,bne_eq_false_iff_eq,Bool.not_eq_true',Bool.not_eq_false',ne_eq,ak,Int.toNat_natCast]
    refine ⟨fun h=>?_,fun h=>hy⟩
    have q1:(a+1)*N≤N*N:=Nat.mul_le_mul_right N (by omega)
    rw [Nat.add_mul,Nat.one_mul] at q1
    rw [hv]
    generalize a*N=p1 at *
    generalize N*N=u at *
    omega
  · unfold gO
    exact ⟨_,rfl,hy⟩
theorem Uu{N:Nat}{v t:List Nat}{l:List Int}{r:Int}(hv:v.length=N*N)(hN:N≤12)(hr:0≤r∧r<N)(hl:In N l)(hl2:l.length≤12)(ht:t.length=l.length) :
    ∃ y,gw r (N:Int) v l t=some (.r0 y):=by
  have hNN:N*N≤144:=Nat.mul_le_mul hN hN
  have:iU (gw r (N:Int) v l t) fun x=>∃ y,x=.r0 y:=by
    refine qy (an (fun _=>True) (aJ ?_) fun _ _=>an (fun _=>True) (iU.loop (fun (p:Nat×Nat)=>p.2≤l.length) (fun p=>l.length-p.2) (Nat.zero_le _) ?_) fun y _=>aJ ?_)
    · unfold tH;trivial
    · rintro ⟨s,a⟩ ha
      dsimp only at ha
      unfold jF
      refine aJ ?_
      unfold tJ
      obtain ⟨q,rfl⟩:=Int.eq_ofNat_of_zero_le hr.1
      have e1:(q:Int)*(N:Int)=((q*N:Nat):Int):=by rw [Int.natCast_mul]
      rw [e1]
      simp only [T.wp,Sum.elim_inl,Sum.elim_inr,decide_eq_true_eq,decide_eq_false_iff_not,ap,aP,aQ,au,ax,am,aB,ah,List.length_set,List.length_replicate,beq_iff_eq,beq_eq_false_iff_ne,bne_iff_ne,bne_eq_false_iff_eq,Bool.not_eq_true',Bool.not_eq_false',ne_eq,ak,Int.toNat_natCast]
      refine ⟨fun h=>?_,fun h=>trivial⟩
      have b:=hl.at (i:=a) (by omega)
      have q1:(q+1)*N≤N*N:=Nat.mul_le_mul_right N (by omega)
      rw [Nat.add_mul,Nat.one_mul] at q1
      rw [hv]
      generalize q*N=p1 at *
      generalize N*N=u at *
      omega
    · unfold sK
      exact ⟨_,rfl⟩
  obtain ⟨x,hx,y,rfl⟩:=this
  exact ⟨y,hx⟩
theorem VJ{N n10 c11 n12 c13 x9:Nat}{d z v w t:List Nat}{l g:List Int}{at_ j k:Int}(hd:d.length=N)(hz:z.length=N)(hv:v.length=N*N)(hw:w.length=N*N)(hN:N≤12)(hl:In N l)(hl2:l.length=n10)(hg2:g.length=n12)(hn:n10≤12)(ht:t.length=n10)(ha:0≤at_∧at_<N) :
    iU (aj (N:Int) N N N N (N:Int) (N:Int) (N*N) (N*N) x9 n10 c11 n12 c13 d z v l g n10 n10 t j k (N*N) (N*N) w at_) fun x=>∃ w',x=.r0 (N:Int) N N N N (N:Int) (N:Int) (N*N) (N*N) x9 n10 c11 n12 c13 d z v l g n10 n10 t j k (N*N) (N*N) w'∧w'.length=N*N:=by
  have hNN:N*N≤144:=Nat.mul_le_mul hN hN
  refine sR (an (fun _=>True) (aJ ?_) fun _ _=>an (fun (l:List Nat)=>l.length=N*N) (iU.loop (fun (p:Nat×List Nat)=>p.1≤N∧p.2.length=N*N) (fun p=>N-p.1) ⟨Nat.zero_le _,hw⟩ ?_) fun y hy=>aJ ?_)
  · unfold gQ;trivial
  · rintro ⟨a,y⟩ ⟨ha',hy⟩
    dsimp only at ha' hy
    unfold cI
    dsimp only
    refine an (fun (l:List Nat)=>a<N∧l.length=N*N) (aJ ?_) fun y' hy'=>aJ ?_
    · unfold gR
      have e1:(a:Int)*(N:Int)=((a*N:Nat):Int):=by rw [Int.natCast_mul]
      rw [e1,dX hv,dX hl2,dX ht]
      simp only [T.wp,Sum.elim_inl,Sum.elim_inr,decide_eq_true_eq,decide_eq_false_iff_not,ap,aP,aQ,au,ax,am,aB,ah,List.length_set,List.length_replicate,beq_iff_eq,beq_eq_false_iff_ne,bne_iff_ne,bne_eq_false_iff_eq,Bool.not_eq_true',Bool.not_eq_false',ne_eq,ak,Int.toNat_natCast]
      refine ⟨fun h=>?_,fun h=>hy⟩
      obtain ⟨u,hu⟩:=Uu (t:=t) (r:=(a:Int)) hv hN ⟨by omega,by omega⟩ hl (by omega) (by omega)
      rw [hu]
      have q1:(a+1)*N≤N*N:=Nat.mul_le_mul_right N (by omega)
      rw [Nat.add_mul,Nat.one_mul] at q1
      generalize a*N=p1 at *
      generalize N*N=u at *
      exact ⟨by omega,by omega,by omega,by omega,by omega,by omega,by omega,by omega,rfl,by omega,by omega,by omega,by omega⟩
    · unfold gS
      simp only [T.wp,Sum.elim_inl,Sum.elim_inr,decide_eq_true_eq,decide_eq_false_iff_not,ap,aP,aQ,au,ax,am,aB,ah,List.length_set,List.length_replicate,beq_iff_eq,beq_eq_false_iff_ne,bne_iff_ne,bne_eq_false_iff_eq,Bool.not_eq_true',Bool.not_eq_false',ne_eq,ak,Int.toNat_natCast]
      exact ⟨by omega,⟨by omega,hy'.2⟩,by omega⟩
  · unfold gT
    exact ⟨_,rfl,hy⟩
theorem PF{l:List Nat}{n:Nat}(h:l.length=n)(x:Nat) :(l.take n++List.take 1 [x]).length=n+1:=by
  rw [List.length_append,List.length_take,h,Nat.min_self];rfl
structure Uv (k:Nat) (D Z:List Nat) (l:List Int) (y:List Nat):Prop where
  hD:D.length=k
  hZ:Z.length=k
  hl:l.length=k
  hy:y.length=k
  hi:In k l
  hk:k≤12
  hg:GD Z
theorem VK{k rho a:Nat}{D Z y:List Nat}{l:List Int}{p0:Nat}(h:Uv k D Z l y)(ha:a<k) :iU (cm (iJ rho k k D Z k l y a) (p0,0)) (Sum.elim (fun _=>True) fun _=>False):=by
  obtain ⟨hD,hZ,hl,hy,hi,hk,hg⟩:=h
  refine iU.loop (fun (p:Nat×Nat)=>p.2≤a) (fun p=>a-p.2) (Nat.zero_le _) ?_
  rintro ⟨p,b⟩ hb
  dsimp only at hb
  unfold iJ
  dsimp only
  refine an (fun _=>b<a) (aJ ?_) fun _ hb'=>aJ ?_
  · unfold tU
    rw [dX hD,dX hZ]
    obtain ⟨u,e,hu⟩:=G1 D Z rho k (a:Int) (l.getD b 0) (y.getD b 0) hD hZ (by omega)
    rw [hu]
    simp only [T.wp,Sum.elim_inl,Sum.elim_inr,decide_eq_true_eq,decide_eq_false_iff_not,ap,aP,aQ,au,ax,am,aB,ah,List.length_set,List.length_replicate,beq_iff_eq,beq_eq_false_iff_ne,bne_iff_ne,bne_eq_false_iff_eq,Bool.not_eq_true',Bool.not_eq_false',ne_eq,ak,Int.toNat_natCast]
    exact ⟨fun h=>⟨by omega,by omega,by omega,by omega,by omega,rfl,by omega,by omega,by omega,by omega,by omega⟩,fun _=>trivial⟩
  · unfold tV
    simp only [T.wp,Sum.elim_inl,Sum.elim_inr,decide_eq_true_eq,decide_eq_false_iff_not,ap,aP,aQ,au,ax,am,aB,ah,List.length_set,List.length_replicate,beq_iff_eq,beq_eq_false_iff_ne,bne_iff_ne,bne_eq_false_iff_eq,Bool.not_eq_true',Bool.not_eq_false',ne_eq,ak,Int.toNat_natCast]
    exact ⟨by omega,by omega,by omega⟩
theorem VL{k rho a:Nat}{D Z y:List Nat}{l:List Int}{p0:Nat}(h:Uv k D Z l y)(ha:a<k) :iU (cm (iK k rho k k D Z k l y a) (p0,a)) (Sum.elim (fun _=>True) fun _=>False):=by
  obtain ⟨hD,hZ,hl,hy,hi,hk,hg⟩:=h
  refine iU.loop (fun (p:Nat×Nat)=>p.2≤k-1) (fun p=>k-p.2) (by dsimp only;omega) ?_
  rintro ⟨p,b⟩ hb
  dsimp only at hb
  unfold iK
  dsimp only
  refine an (fun _=>b<k-1) (aJ ?_) fun _ hb'=>aJ ?_
  · unfold tX
    rw [dX hD,dX hZ]
    obtain ⟨u,e,hu⟩:=G1 D Z rho k (a:Int) (l.getD b 0) (y.getD b 0) hD hZ (by omega)
    rw [hu]
    simp only [T.wp,Sum.elim_inl,Sum.elim_inr,decide_eq_true_eq,decide_eq_false_iff_not,ap,aP,aQ,au,ax,am,aB,ah,List.length_set,List.length_replicate,beq_iff_eq,beq_eq_false_iff_ne,bne_iff_ne,bne_eq_false_iff_eq,Bool.not_eq_true',Bool.not_eq_false',ne_eq,ak,Int.toNat_natCast]
    exact ⟨by omega,fun h=>⟨by omega,by omega,by omega,by omega,by omega,rfl,by omega,by omega,by omega,by omega,by omega,by omega⟩,fun _=>trivial⟩
  · unfold tY
    simp only [T.wp,Sum.elim_inl,Sum.elim_inr,decide_eq_true_eq,decide_eq_false_iff_not,ap,aP,aQ,au,ax,am,aB,ah,List.length_set,List.length_replicate,beq_iff_eq,beq_eq_false_iff_ne,bne_iff_ne,bne_eq_false_iff_eq,Bool.not_eq_true',Bool.not_eq_false',ne_eq,ak,Int.toNat_natCast]
    exact ⟨by omega,by omega,by omega⟩
theorem Wt{k rho:Nat}{D Z y w:List Nat}{l:List Int}(h:Uv k D Z l y)(hw:w.length=k)(hk1:1≤k) :iU (cm (iL k rho k k D Z k l y) (0,w)) (Sum.elim (fun w=>w.length=k) fun _=>False):=by
  refine iU.loop (fun (p:Nat×List Nat)=>p.1≤k∧p.2.length=k) (fun p=>k-p.1) ⟨Nat.zero_le _,hw⟩ ?_
  rintro ⟨a,w⟩ ⟨ha,hw⟩
  dsimp only at ha hw
  unfold iL
  dsimp only
  refine an (fun _=>a<k) (aJ ?_) fun _ ha'=>?_
  · unfold tQ
    simp only [T.wp,Sum.elim_inl,Sum.elim_inr,decide_eq_true_eq,decide_eq_false_iff_not,ap,aP,aQ,au,ax,am,aB,ah,List.length_set,List.length_replicate,beq_iff_eq,beq_eq_false_iff_ne,bne_iff_ne,bne_eq_false_iff_eq,Bool.not_eq_true',Bool.not_eq_false',ne_eq,ak,Int.toNat_natCast]
    exact ⟨fun h=>by omega,fun _=>hw⟩
  refine an (fun (w:List Nat)=>w.length=k) (iU.join (an (fun _=>True) (aJ ?_) fun p _=>an (fun _=>True) (aJ ?_) fun _ _=>an (fun _=>True) ((VK h ha').mono ?_) fun q _=>an (fun _=>True) (aJ ?_) fun _ _=>an (fun _=>True) ((VL h ha').mono ?_) fun r _=>aJ ?_)) fun w' hw'=>aJ ?_
  · unfold tS
    rw [dX h.hD,dX h.hZ]
    obtain ⟨u,e,hu⟩:=G1 D Z rho k (a:Int) (l.getD ((k:Int)-1).toNat 0) (y.getD ((k:Int)-1).toNat 0) h.hD h.hZ (by have:=h.hk;omega)
    rw [hu]
    have h1:=h.hD
    have h2:=h.hZ
    have h3:=h.hl
    have h4:=h.hy
    have h5:=h.hk
    simp only [T.wp,Sum.elim_inl,Sum.elim_inr,decide_eq_true_eq,decide_eq_false_iff_not,ap,aP,aQ,au,ax,am,aB,ah,List.length_set,List.length_replicate,beq_iff_eq,beq_eq_false_iff_ne,bne_iff_ne,bne_eq_false_iff_eq,Bool.not_eq_true',Bool.not_eq_false',ne_eq,ak,Int.toNat_natCast]
    exact ⟨by omega,by omega,by omega,by omega,by omega,by omega,rfl,trivial⟩
  · unfold tT;trivial
  · rintro (r | r) hr
    · trivial
    · exact hr.elim
  · unfold tW;trivial
  · rintro (r | r) hr
    · trivial
    · exact hr.elim
  · unfold tZ
    have h2:=h.hZ
    have hz:isNaN (Z.getD a 0)=false:=by
      rw [←wc]
      exact (VD (h.hg a (by omega))).1
    rw [hz]
    simp only [T.wp,Sum.elim_inl,Sum.elim_inr,decide_eq_true_eq,decide_eq_false_iff_not,ap,aP,aQ,au,ax,am,aB,ah,List.length_set,List.length_replicate,beq_iff_eq,beq_eq_false_iff_ne,bne_iff_ne,bne_eq_false_iff_eq,Bool.not_eq_true',Bool.not_eq_false',ne_eq,ak,Int.toNat_natCast]
    exact ⟨by omega,by omega,rfl,by omega,by omega,hw⟩
  · unfold ua
    have h5:=h.hk
    simp only [T.wp,Sum.elim_inl,Sum.elim_inr,decide_eq_true_eq,decide_eq_false_iff_not,ap,aP,aQ,au,ax,am,aB,ah,List.length_set,List.length_replicate,beq_iff_eq,beq_eq_false_iff_ne,bne_iff_ne,bne_eq_false_iff_eq,Bool.not_eq_true',Bool.not_eq_false',ne_eq,ak,Int.toNat_natCast]
    exact ⟨by omega,⟨by omega,hw'⟩,by omega⟩
abbrev MF(N x9 n10 c11 n12 c13:Nat)(d z v:List Nat)(l g:List Int)(t:List Nat)(w:List Nat) :Int×Nat×Nat×Nat×Nat×Int×Int×Nat×Nat×Nat×Nat×Nat×Nat×Nat×List Nat×List Nat×List Nat×List Int×List Int×List Nat×Int×Int×Nat×Nat×List Nat :=
  ((N:Int),N,N,N,N,(N:Int),(N:Int),N*N,N*N,x9,n10,c11,n12,c13,d,z,v,l,g,t,(N:Int),(N:Int),N*N,N*N,w)
theorem VM{N n10 c11 n12 c13 x9:Nat}{d z v w:List Nat}{l g:List Int}(hd:d.length=N)(hv:v.length=N*N)(hw:w.length=N*N)(hN:N≤12)(hg:In N g)(hg2:g.length=n12)(hn:n12≤N) :
    iU (cm (jc n12) (0,0,0,MF N x9 n10 c11 n12 c13 d z v l g [] w)) (Sum.elim (fun p=>∃ t w',p=(n12,n12,MF N x9 n10 c11 n12 c13 d z v l g t w')∧t.length=n12∧w'.length=N*N) fun _=>False):=by
  refine iU.loop (fun p=>∃ a t w',p=(a,a,a,MF N x9 n10 c11 n12 c13 d z v l g t w')∧a≤n12∧t.length=a∧w'.length=N*N) (fun p=>n12-p.2.2.1) ⟨0,[],w,rfl,Nat.zero_le _,rfl,hw⟩ ?_
  rintro _ ⟨a,t,y,rfl,ha,ht,hy⟩
  unfold jc
  dsimp only [MF]
  refine an (fun p=>a<n12∧∃ t w',p=(a+1,MF N x9 n10 c11 n12 c13 d z v l g t w')∧t.length=a+1∧w'.length=N*N) (aJ ?_) ?_
  · unfold vb
    simp only [T.wp,Sum.elim_inl,Sum.elim_inr,decide_eq_true_eq,decide_eq_false_iff_not,ap,aP,aQ,au,ax,am,aB,ah,List.length_set,List.length_replicate,beq_iff_eq,beq_eq_false_iff_ne,bne_iff_ne,bne_eq_false_iff_eq,Bool.not_eq_true',Bool.not_eq_false',ne_eq,ak,Int.toNat_natCast]
    refine ⟨fun h=>?_,fun h=>⟨t,y,?_,by omega,hy⟩⟩
    · have b:=hg.at (i:=a) (by omega)
      obtain ⟨x,hx,w',rfl,hw'⟩:=VI (n10:=n10) (c11:=c11) (n12:=n12) (c13:=c13) (x9:=x9) (d:=d) (z:=z) (l:=l) (g:=g) (i:=g.getD a 0) (j:=(N:Int)) (k:=(N:Int)) (at_:=(a:Int)) hv hy hN b ⟨by omega,by omega⟩
      rw [hx]
      exact ⟨by omega,by omega,by omega,by omega,by omega,by omega,by simp only [List.length_cons,List.length_nil];omega,by omega,rfl,by omega,_,_,rfl,PF ht _,hw'⟩
    · have:a=n12:=by omega
      subst this
      rfl
  · rintro _ ⟨hlt,t',w',rfl,ht',hw'⟩
    refine aJ ?_
    unfold vc
    simp only [T.wp,Sum.elim_inl,Sum.elim_inr,decide_eq_true_eq,decide_eq_false_iff_not,ap,aP,aQ,au,ax,am,aB,ah,List.length_set,List.length_replicate,beq_iff_eq,beq_eq_false_iff_ne,bne_iff_ne,bne_eq_false_iff_eq,Bool.not_eq_true',Bool.not_eq_false',ne_eq,ak,Int.toNat_natCast]
    exact ⟨by omega,⟨a+1,t',w',rfl,by omega,ht',hw'⟩,by omega⟩
theorem Xb{N k:Nat}{d z:List Nat}{l:List Int}(hd:d.length=N)(hz:z.length=N)(hl:In N l)(hl2:l.length=k)(hk:k≤12) :
    iU (cm (iI N N k d z l) (0,0,0,0,0,[],[])) (Sum.elim (fun p=>p.1=k∧p.2.2.1=k∧p.2.2.2.2.1.length=k∧p.2.2.2.2.2.length=k) fun _=>False):=by
  refine iU.loop (fun (p:Nat×Nat×Nat×Nat×Nat×List Nat×List Nat)=>p.1≤k∧p.2.1=p.1∧p.2.2.2.1=p.1∧p.2.2.2.2.2.1.length=p.1∧p.2.2.2.2.2.2.length=p.1) (fun p=>k-p.1) ⟨Nat.zero_le _,rfl,rfl,rfl,rfl⟩ ?_
  rintro ⟨a,b,b',c,c',x,y⟩ ⟨h1,h2,h3,h4,h5⟩
  dsimp only at h1 h2 h3 h4 h5
  replace h2:=h2.symm
  replace h3:=h3.symm
  subst h2 h3
  unfold iI
  refine aJ ?_
  unfold tM
  simp only [T.wp,Sum.elim_inl,Sum.elim_inr,decide_eq_true_eq,decide_eq_false_iff_not,ap,aP,aQ,au,ax,am,aB,ah,List.length_set,List.length_replicate,beq_iff_eq,beq_eq_false_iff_ne,bne_iff_ne,bne_eq_false_iff_eq,Bool.not_eq_true',Bool.not_eq_false',ne_eq,ak,Int.toNat_natCast]
  refine ⟨fun h=>?_,fun h=>⟨by omega,by omega,by omega,by omega⟩⟩
  have q:=hl.at (i:=a) (by omega)
  simp only [List.length_append,List.length_take,List.length_cons,List.length_nil]
  exact ⟨by omega,by omega,by omega,by omega,by omega,by omega,by omega,by omega,by omega,by omega,by omega,by omega,by omega,by omega,by omega,⟨by omega,trivial,trivial,by omega,by omega⟩,by omega⟩
theorem Wu{k rho a:Nat}{D Z y h' w:List Nat}{l:List Int}(h:Uv k D Z l y)(hh:h'.length=k)(hw:w.length=k)(ha:a<k) :iU (cm (iM k rho k k D Z k l y h' a) (0,w)) (Sum.elim (fun w=>w.length=k) fun _=>False):=by
  obtain ⟨hD,hZ,hl,hy,hi,hk,hg⟩:=h
  refine iU.loop (fun (p:Nat×List Nat)=>p.1≤k∧p.2.length=k) (fun p=>k-p.1) ⟨Nat.zero_le _,hw⟩ ?_
  rintro ⟨b,w⟩ ⟨hb,hw⟩
  dsimp only at hb hw
  unfold iM
  dsimp only
  refine an (fun (w:List Nat)=>b<k∧w.length=k) (aJ ?_) fun w' hw'=>aJ ?_
  · unfold ug
    rw [dX hD,dX hZ]
    obtain ⟨u,e,hu⟩:=G1 D Z rho k (b:Int) (l.getD a 0) (y.getD a 0) hD hZ (by omega)
    rw [hu]
    simp only [T.wp,Sum.elim_inl,Sum.elim_inr,decide_eq_true_eq,decide_eq_false_iff_not,ap,aP,aQ,au,ax,am,aB,ah,List.length_set,List.length_replicate,beq_iff_eq,beq_eq_false_iff_ne,bne_iff_ne,bne_eq_false_iff_eq,Bool.not_eq_true',Bool.not_eq_false',ne_eq,ak,Int.toNat_natCast]
    exact ⟨fun h=>⟨by omega,by omega,by omega,by omega,by omega,by omega,by omega,rfl,by omega,by omega,by omega,hw⟩,fun _=>hw⟩
  · unfold uh
    simp only [T.wp,Sum.elim_inl,Sum.elim_inr,decide_eq_true_eq,decide_eq_false_iff_not,ap,aP,aQ,au,ax,am,aB,ah,List.length_set,List.length_replicate,beq_iff_eq,beq_eq_false_iff_ne,bne_iff_ne,bne_eq_false_iff_eq,Bool.not_eq_true',Bool.not_eq_false',ne_eq,ak,Int.toNat_natCast]
    exact ⟨by omega,⟨by omega,hw'.2⟩,by omega⟩
theorem Wv{k lg:Nat}{w:List Nat}(hw:w.length=k)(hk:k≤12) :iU (cm (iN k lg) (0,w)) (Sum.elim (fun w=>w.length=k) fun _=>False):=by
  refine iU.loop (fun (p:Nat×List Nat)=>p.1≤k∧p.2.length=k) (fun p=>k-p.1) ⟨Nat.zero_le _,hw⟩ ?_
  rintro ⟨b,w⟩ ⟨hb,hw⟩
  dsimp only at hb hw
  unfold iN
  refine aJ ?_
  unfold uk
  simp only [T.wp,Sum.elim_inl,Sum.elim_inr,decide_eq_true_eq,decide_eq_false_iff_not,ap,aP,aQ,au,ax,am,aB,ah,List.length_set,List.length_replicate,beq_iff_eq,beq_eq_false_iff_ne,bne_iff_ne,bne_eq_false_iff_eq,Bool.not_eq_true',Bool.not_eq_false',ne_eq,ak,Int.toNat_natCast]
  exact ⟨fun h=>⟨by omega,by omega,by omega,by omega,by omega,⟨by omega,hw⟩,by omega⟩,fun _=>hw⟩
theorem VN{α β X:Type}{m:Option (α⊕(β⊕X))}{Q:α→Prop}{E:β⊕X→Prop}(h:iU m (Sum.elim Q fun _=>False)) :iU m (Sum.elim Q E):=by
  refine h.mono ?_
  rintro (r | r) hr
  · exact hr
  · exact hr.elim
theorem PG{α X:Type}{m:Option (α⊕X)}{Q:α→Prop}{E:X→Prop}(h:iU m (Sum.elim Q fun _=>False)) :iU m (Sum.elim Q E):=by
  refine h.mono ?_
  rintro (r | r) hr
  · exact hr
  · exact hr.elim
theorem VO{N k rho c11 n12 c13 x9:Nat}{d z v w t D Z y h':List Nat}{l g lx:List Int}(h:Uv k D Z lx y)(hh:h'.length=k)(hd:d.length=N)(hz:z.length=N)(hv:v.length=N*N)(hw:w.length=N*N)(hN:N≤12)(hl:In N l)(hl2:l.length=k)(hg2:g.length=n12)(hn:k+n12=N)(ht:t.length=n12) :
    iU (cm (iO k rho k k D Z k lx y h') (n12,n12,0,MF N x9 k c11 n12 c13 d z v l g t w)) (Sum.elim (fun p=>∃ t w',p=(N,N,MF N x9 k c11 n12 c13 d z v l g t w')∧t.length=N∧w'.length=N*N) fun _=>False):=by
  refine iU.loop (fun p=>∃ a t w',p=(n12+a,n12+a,a,MF N x9 k c11 n12 c13 d z v l g t w')∧a≤k∧t.length=n12+a∧w'.length=N*N) (fun p=>k-p.2.2.1) ⟨0,t,w,rfl,Nat.zero_le _,ht,hw⟩ ?_
  rintro _ ⟨a,t,w,rfl,ha,ht,hw⟩
  unfold iO
  dsimp only [MF]
  refine an (fun _=>a<k) (aJ ?_) fun _ ha'=>?_
  · unfold ud
    simp only [T.wp,Sum.elim_inl,Sum.elim_inr,decide_eq_true_eq,decide_eq_false_iff_not,ap,aP,aQ,au,ax,am,aB,ah,List.length_set,List.length_replicate,beq_iff_eq,beq_eq_false_iff_ne,bne_iff_ne,bne_eq_false_iff_eq,Bool.not_eq_true',Bool.not_eq_false',ne_eq,ak,Int.toNat_natCast]
    refine ⟨fun h=>by omega,fun h=>⟨t,w,?_,by omega,hw⟩⟩
    have:a=k:=by omega
    subst this
    rw [show n12+a=N by omega]
  refine an (fun p=>∃ t w',p=(n12+a+1,MF N x9 k c11 n12 c13 d z v l g t w')∧t.length=n12+a+1∧w'.length=N*N) (iU.join (an (fun (p:Int×Nat×List Nat)=>(0≤p.1∧p.1<k)∧p.2.2.length=k) (aJ ?_) ?_)) ?_
  · unfold uf
    obtain ⟨hD,hZ,hl',hy,hi,hk,hg⟩:=h
    have b:=hi.at (i:=a) (by omega)
    simp only [T.wp,Sum.elim_inl,Sum.elim_inr,decide_eq_true_eq,decide_eq_false_iff_not,ap,aP,aQ,au,ax,am,aB,ah,List.length_set,List.length_replicate,beq_iff_eq,beq_eq_false_iff_ne,bne_iff_ne,bne_eq_false_iff_eq,Bool.not_eq_true',Bool.not_eq_false',ne_eq,ak,Int.toNat_natCast]
    exact ⟨by omega,by omega,by omega,by omega,by omega,by omega,by omega,b,trivial⟩
  · rintro ⟨i,x,u⟩ ⟨hi,hu⟩
    dsimp only at hi hu
    refine an (fun (w:List Nat)=>w.length=k) (VN (Wu h hh hu ha')) fun u2 hu2=>an (fun _=>True) (aJ ?_) fun lg _=>an (fun _=>True) (aJ ?_) fun _ _=>an (fun (w:List Nat)=>w.length=k) (VN (Wv hu2 h.hk)) fun u3 hu3=>aJ ?_
    · unfold ui
      have:=h.hk
      rw [dX hu2]
      obtain ⟨e,he⟩:=R4 u2 (by omega)
      rw [he]
      simp only [T.wp,Sum.elim_inl,Sum.elim_inr,decide_eq_true_eq,decide_eq_false_iff_not,ap,aP,aQ,au,ax,am,aB,ah,List.length_set,List.length_replicate,beq_iff_eq,beq_eq_false_iff_ne,bne_iff_ne,bne_eq_false_iff_eq,Bool.not_eq_true',Bool.not_eq_false',ne_eq,ak,Int.toNat_natCast]
      exact ⟨by omega,rfl,trivial⟩
    · unfold uj;trivial
    · unfold ul
      obtain ⟨hD,hZ,hl',hy,hi',hk,hg⟩:=h
      obtain ⟨xx,hx,w',rfl,hw'⟩:=VJ (c11:=c11) (c13:=c13) (x9:=x9) (j:=(N:Int)) (k:=(N:Int)) (at_:=((n12+a:Nat):Int)) hd hz hv hw hN hl hl2 hg2 hk hu3 ⟨by omega,by omega⟩
      rw [hx]
      simp only [T.wp,Sum.elim_inl,Sum.elim_inr,decide_eq_true_eq,decide_eq_false_iff_not,ap,aP,aQ,au,ax,am,aB,ah,List.length_set,List.length_replicate,beq_iff_eq,beq_eq_false_iff_ne,bne_iff_ne,bne_eq_false_iff_eq,Bool.not_eq_true',Bool.not_eq_false',ne_eq,ak,Int.toNat_natCast]
      exact ⟨by omega,by omega,by omega,by omega,by simp only [List.length_cons,List.length_nil];omega,by omega,by omega,rfl,_,_,rfl,PF ht _,hw'⟩
  · rintro _ ⟨t',w',rfl,ht',hw'⟩
    refine aJ ?_
    unfold um
    have:=h.hk
    simp only [T.wp,Sum.elim_inl,Sum.elim_inr,decide_eq_true_eq,decide_eq_false_iff_not,ap,aP,aQ,au,ax,am,aB,ah,List.length_set,List.length_replicate,beq_iff_eq,beq_eq_false_iff_ne,bne_iff_ne,bne_eq_false_iff_eq,Bool.not_eq_true',Bool.not_eq_false',ne_eq,ak,Int.toNat_natCast]
    exact ⟨by omega,⟨a+1,t',w',rfl,by omega,ht',hw'⟩,by omega⟩
set_option maxHeartbeats 2000000 in
theorem Uw {N k c11 n12 c13 x9 : Nat} {d z v : List Nat} {l g : List Int} (hd : d.length = N) (hz : z.length = N) (hv : v.length = N * N) (hN : N ≤ 12) (hl : In N l) (hg : In N g) (hl2 : l.length = k) (hg2 : g.length = n12) (hn : k + n12 = N) :
    iU (ay (N : Int) N N N N (N : Int) (N : Int) (N * N) (N * N) x9 k c11 n12 c13 d z v l g) fun x => x = .r0 (N : Int) N N N N (N : Int) (N : Int) (N * N) (N * N) x9 k c11 n12 c13 d z v l g ∨ ∃ m t w, x = .r1 m (N : Int) N N N N (N : Int) (N : Int) (N * N) (N * N) x9 k c11 n12 c13 d z v l g t w ∧ t.length = N ∧ w.length = N * N ∧ m ≤ 65 * N := by
  have hNN : N * N ≤ 144 := Nat.mul_le_mul hN hN
  have e0 : (N : Int) * (N : Int) = ((N * N : Nat) : Int) := by rw [Int.natCast_mul]
  refine qy (an (fun p => p.1 = N * N ∧ p.2.length = N * N) (aJ ?_) ?_)
  · unfold va
    rw [e0]
    simp only [T.wp, Sum.elim_inl, Sum.elim_inr, decide_eq_true_eq, decide_eq_false_iff_not, ap, aP, aQ, au, ax, am, aB, ah, List.length_set, List.length_replicate, beq_iff_eq, beq_eq_false_iff_ne, bne_iff_ne, bne_eq_false_iff_eq, Bool.not_eq_true', Bool.not_eq_false', ne_eq, ak, Int.toNat_natCast]
    generalize N * N = u at *
    ((repeat' (first | with_reducible assumption | (refine And.intro ?_ ?_) | intro _)) <;> (try (first | omega | with_reducible assumption | exact rfl | exact True.intro)))
  rintro ⟨a1, l2⟩ ⟨h1, h2⟩
  dsimp only at h1 h2
  subst h1
  refine an (fun p => ∃ t w', p = (n12, n12, MF N x9 k c11 n12 c13 d z v l g t w') ∧ t.length = n12 ∧ w'.length = N * N) (PG (VM (z := z) hd hv h2 hN hg hg2 (by omega))) ?_
  rintro _ ⟨t, w, rfl, ht, hw⟩
  dsimp only [MF]
  refine an (fun b => b = decide (k > 0)) (aJ ?_) ?_
  · unfold tK
    show decide _ = decide _
    congr 1
    exact propext ⟨fun h => by omega, fun h => by omega⟩
  rintro b hb
  refine an (fun p => ∃ m t w', p = (N, N, m, MF N x9 k c11 n12 c13 d z v l g t w') ∧ t.length = N ∧ w'.length = N * N ∧ m ≤ 65 * N) ?_ ?_
  · cases b
    · have hk0 : k = 0 := by
        have := of_decide_eq_false hb.symm
        omega
      simp only [cond_false]
      refine aJ ?_
      unfold uo
      refine ⟨0, t, w, ?_, by omega, hw, by omega⟩
      rw [show n12 = N by omega]
    · have hk1 : 1 ≤ k := by
        have := of_decide_eq_true hb.symm
        omega
      simp only [cond_true]
      refine an (fun _ => True) (aJ ?_) fun _ _ => an (fun (p : Nat × Nat × Nat × Nat × List Nat × List Nat) => p.1 = k ∧ p.2.2.1 = k ∧ p.2.2.2.2.1.length = k ∧ p.2.2.2.2.2.length = k) (PG (Xb hd hz hl hl2 (by omega))) ?_
      · unfold tL; trivial
      rintro ⟨a146, a147, a148, a149, D, Z⟩ ⟨q1, q2, q3, q4⟩
      dsimp only at q1 q2 q3 q4
      subst q1 q2
      obtain ⟨x, hx, hxx⟩ := Ws D Z x9 a148 q3 q4 (by omega)
      refine an (fun (p : Nat × Nat × Nat × Nat × Nat × List Int × List Nat) => p.2.1 = 0 → p.1 ≤ 65 * a148 ∧ p.2.2.1 = a148 ∧ Uv a148 D Z p.2.2.2.2.2.1 p.2.2.2.2.2.2) (aJ ?_) ?_
      · unfold tN
        rw [dX q3, dX q4, hx]
        simp only [T.wp, Sum.elim_inl, Sum.elim_inr, decide_eq_true_eq, decide_eq_false_iff_not, ap, aP, aQ, au, ax, am, aB, ah, List.length_set, List.length_replicate, beq_iff_eq, beq_eq_false_iff_ne, bne_iff_ne, bne_eq_false_iff_eq, Bool.not_eq_true', Bool.not_eq_false', ne_eq, ak, Int.toNat_natCast]
        rcases hxx with ⟨e, he, rfl⟩ | ⟨a, b, m, c, lx, y, rfl, g1, g2, g3, g4, g5, g6⟩
        · exact ⟨by omega, by omega, rfl, fun h => absurd h he⟩
        · exact ⟨by omega, by omega, rfl, fun _ => ⟨g5, g1, ⟨q3, q4, g2, g3, g4, by omega, g6⟩⟩⟩
      rintro ⟨many, e, a154, a155, a156, lx, y⟩ hs
      dsimp only at hs
      refine an (fun (w : List Nat) => w.length = a148 ∧ e = 0) (aJ ?_) ?_
      · unfold tO
        simp only [T.wp, Sum.elim_inl, Sum.elim_inr, decide_eq_true_eq, decide_eq_false_iff_not, ap, aP, aQ, au, ax, am, aB, ah, List.length_set, List.length_replicate, beq_iff_eq, beq_eq_false_iff_ne, bne_iff_ne, bne_eq_false_iff_eq, Bool.not_eq_true', Bool.not_eq_false', ne_eq, ak, Int.toNat_natCast]
        exact ⟨fun h => .inl trivial, fun h => ⟨by omega, by omega, by omega, by omega, trivial, by omega⟩⟩
      rintro u ⟨hu, he⟩
      obtain ⟨hm, ha, hS⟩ := hs he
      subst ha
      refine an (fun (w : List Nat) => w.length = a154) (PG (Wt hS hu hk1)) fun h' hh => an (fun _ => True) (aJ ?_) fun _ _ => an (fun p => ∃ t w', p = (N, N, MF N x9 a154 c11 n12 c13 d z v l g t w') ∧ t.length = N ∧ w'.length = N * N) (PG (VO hS hh hd hz hv hw hN hl hl2 hg2 hn ht)) ?_
      · unfold ub; trivial
      rintro _ ⟨t', w', rfl, ht', hw'⟩
      refine aJ ?_
      unfold un
      exact ⟨many, t', w', rfl, ht', hw', by omega⟩
  · rintro _ ⟨m, t', w', rfl, ht', hw', hm⟩
    refine aJ ?_
    unfold uq
    exact .inr ⟨m, t', w', rfl, ht', hw', hm⟩
theorem iW{α:Type}{o k:Nat}{l:List α}(h:o+k≤l.length) :(az o k l).length=k:=by
  have:az o k l=(l.drop o).take k:=DY o k l
  rw [this,List.length_take,List.length_drop]
  omega
theorem R9{D E:List Nat}(h2:2≤D.length)(h5:D.length≤512)(hE:E.length=D.length-1) :
    iU (gC D E) fun x=>∃ D1 D2,x=.r0 (E.getD (D.length/2-1) 0) (D.length/2) (D.length/2-1) (D.length-D.length/2) (D.length-1-D.length/2) D1 (az 0 (D.length/2-1) E) D2 (az (D.length/2) (D.length-1-D.length/2) E)∧D1.length=D.length/2∧D2.length=D.length-D.length/2∧(zI (E.getD (D.length/2-1) 0) 0=false→D1=az 0 (D.length/2) D∧D2=az (D.length/2) (D.length-D.length/2) D):=by
  have ed:Int.tdiv ((D.length:Nat):Int) (2:Int)=((D.length/2:Nat):Int):=rfl
  obtain ⟨m,hm⟩:∃ m,m=D.length/2:=⟨_,rfl⟩
  have hm1:1≤m:=by omega
  have hm2:m<D.length:=by omega
  have e1:((m:Nat):Int)-1=((m-1:Nat):Int):=by omega
  rw [←hm] at ed ⊢
  have c1:(az 0 m D).length=m:=iW (by omega)
  have c2:(az 0 (m-1) E).length=m-1:=iW (by omega)
  have c3:(az m (D.length-m) D).length=D.length-m:=iW (by omega)
  have c4:(az m (D.length-1-m) E).length=D.length-1-m:=iW (by omega)
  have e2:E.length-m=D.length-1-m:=by omega
  refine qy (an (fun p=>p=((m:Int),E.getD (m-1) 0,zI (E.getD (m-1) 0) 0,m,m-1,D.length-m,D.length-1-m,az 0 m D,az 0 (m-1) E,az m (D.length-m) D,az m (D.length-1-m) E)) (aJ ?_) ?_)
  · unfold HW
    simp only [ed,e1,ah,e2,c1,c2,c3,c4,hE]
    simp only [T.wp,Sum.elim_inl,Sum.elim_inr,decide_eq_true_eq,decide_eq_false_iff_not,ap,aP,aQ,au,ax,am,aB,ah,List.length_set,List.length_replicate,beq_iff_eq,beq_eq_false_iff_ne,bne_iff_ne,bne_eq_false_iff_eq,Bool.not_eq_true',Bool.not_eq_false',ne_eq,ak,Int.toNat_natCast]
    simp only [fw,Nat.ble_eq,c1,c2,c3,c4]
    refine ⟨by decide,by omega,by omega,by omega,by omega,by omega,by omega,by omega,by omega,by omega,by omega,by omega,by omega,by omega,by omega,by omega,by omega,by omega,by omega,by omega,by omega,by omega,?_⟩
    trivial
  rintro _ rfl
  refine an (fun p=>p.1.length=m∧p.2.length=D.length-m∧(zI (E.getD (m-1) 0) 0=false→p.1=az 0 m D∧p.2=az m (D.length-m) D)) ?_ ?_
  · cases hr:zI (E.getD (m-1) 0) 0
    · simp only [cond_false]
      refine aJ ?_
      unfold HZ
      exact ⟨c1,c3,fun _=>⟨rfl,rfl⟩⟩
    · simp only [cond_true]
      refine aJ ?_
      unfold HY
      simp only [e1,ah]
      simp only [T.wp,Sum.elim_inl,Sum.elim_inr,decide_eq_true_eq,decide_eq_false_iff_not,ap,aP,aQ,au,ax,am,aB,ah,List.length_set,List.length_replicate,beq_iff_eq,beq_eq_false_iff_ne,bne_iff_ne,bne_eq_false_iff_eq,Bool.not_eq_true',Bool.not_eq_false',ne_eq,ak,Int.toNat_natCast]
      rw [c1,c3]
      exact ⟨by omega,by omega,by omega,by omega,by omega,by omega,by omega,by omega,by omega,rfl,rfl,fun q=>(by cases q)⟩
  · rintro ⟨x,y⟩ ⟨h1,h2,h3⟩
    dsimp only at h1 h2 h3
    refine aJ ?_
    unfold H0
    exact ⟨x,y,rfl,h1,h2,h3⟩
def QS(n:Nat) :Nat→List Nat
  | 0=>List.replicate (n*n) 0
  | i+1=>(QS n i).set (i*n+i) 4607182418800017408
theorem GC(n:Nat) :∀ i,(QS n i).length=n*n
  | 0=>by unfold QS;rw [List.length_replicate]
  | i+1=>by unfold QS;rw [List.length_set,GC n i]
theorem Ux{n:Nat}(hn:n≤12) :bi (n:Int)=some (.r0 (n:Int) (n*n) (QS n n)):=by
  have hNN:n*n≤144:=Nat.mul_le_mul hn hn
  have e0:(n:Int)*(n:Int)=((n*n:Nat):Int):=by rw [Int.natCast_mul]
  refine jP (bN (a:=(n*n,QS n 0)) ?_ (bN (a:=QS n n) (wW (fun j=>(j,QS n j)) n rfl (fun j hj=>?_) ?_) rfl))
  · unfold Jk
    rw [e0]
    exact (qI (by simp only [ap,aP,aQ,au,ax,am,dr,dt,decide_eq_true_eq,decide_eq_false_iff_not,beq_iff_eq,beq_eq_false_iff_ne,bne_iff_ne,bne_eq_false_iff_eq,Bool.not_eq_true',Bool.not_eq_false',List.length_set,ne_eq,ge_iff_le,gt_iff_lt,cu,ah,fw];omega) (qI (by simp only [ap,aP,aQ,au,ax,am,dr,dt,decide_eq_true_eq,decide_eq_false_iff_not,beq_iff_eq,beq_eq_false_iff_ne,bne_iff_ne,bne_eq_false_iff_eq,Bool.not_eq_true',Bool.not_eq_false',List.length_set,ne_eq,ge_iff_le,gt_iff_lt,cu,ah,fw];omega) (qI (by simp only [ap,aP,aQ,au,ax,am,dr,dt,decide_eq_true_eq,decide_eq_false_iff_not,beq_iff_eq,beq_eq_false_iff_ne,bne_iff_ne,bne_eq_false_iff_eq,Bool.not_eq_true',Bool.not_eq_false',List.length_set,ne_eq,ge_iff_le,gt_iff_lt,cu,ah,fw];omega) (qI (by simp only [ap,aP,aQ,au,ax,am,dr,dt,decide_eq_true_eq,decide_eq_false_iff_not,beq_iff_eq,beq_eq_false_iff_ne,bne_iff_ne,bne_eq_false_iff_eq,Bool.not_eq_true',Bool.not_eq_false',List.length_set,ne_eq,ge_iff_le,gt_iff_lt,cu,ah,fw];omega) (qI (by simp only [ap,aP,aQ,au,ax,am,dr,dt,decide_eq_true_eq,decide_eq_false_iff_not,beq_iff_eq,beq_eq_false_iff_ne,bne_iff_ne,bne_eq_false_iff_eq,Bool.not_eq_true',Bool.not_eq_false',List.length_set,ne_eq,ge_iff_le,gt_iff_lt,cu,ah,fw];omega) rfl)))))
  · show (wl _ _ _ _).run=_
    unfold wl
    have e1:(j:Int)*(n:Int)=((j*n:Nat):Int):=by rw [Int.natCast_mul]
    have e2:(((j*n:Nat):Int)+(j:Int)).toNat=j*n+j:=by omega
    rw [e1,e2]
    have q1:(j+1)*n≤n*n:=Nat.mul_le_mul_right n (by omega)
    rw [Nat.add_mul,Nat.one_mul] at q1
    have q2:=GC n j
    refine T.at (by simp only [ap,aP,aQ,au,ax,am,dr,dt,decide_eq_true_eq,decide_eq_false_iff_not,beq_iff_eq,beq_eq_false_iff_ne,bne_iff_ne,bne_eq_false_iff_eq,Bool.not_eq_true',Bool.not_eq_false',List.length_set,ne_eq,ge_iff_le,gt_iff_lt,cu,ah,fw];omega) (qI (ap.2 (by omega)) (qI (ap.2 (by omega)) (qI (aP.2 (by omega)) (qI (au.2 (by omega)) (qI (by simp only [ap,aP,aQ,au,ax,am,dr,dt,decide_eq_true_eq,decide_eq_false_iff_not,beq_iff_eq,beq_eq_false_iff_ne,bne_iff_ne,bne_eq_false_iff_eq,Bool.not_eq_true',Bool.not_eq_false',List.length_set,ne_eq,ge_iff_le,gt_iff_lt,cu,ah,fw];omega) rfl)))))
  · show (wl _ _ _ _).run=_
    unfold wl
    exact AJ (by simp only [ap,aP,aQ,au,ax,am,dr,dt,decide_eq_true_eq,decide_eq_false_iff_not,beq_iff_eq,beq_eq_false_iff_ne,bne_iff_ne,bne_eq_false_iff_eq,Bool.not_eq_true',Bool.not_eq_false',List.length_set,ne_eq,ge_iff_le,gt_iff_lt,cu,ah,fw];omega) rfl
theorem Ww{l:List Nat}{i k:Nat}(hi:i<l.length)(hk:k<l.length){x:Nat}(h:x∈XE l i k) :x∈l:=by
  unfold XE at h
  rcases List.mem_or_eq_of_mem_set h with q | q
  · rcases List.mem_or_eq_of_mem_set q with r | r
    · exact r
    · rw [r];exact GB hk
  · rw [q];exact GB hi
theorem TE{l:List Nat} :∀ {i:Nat},i≤l.length→∀ {x},x∈KQ l i→x∈l
  | 0,_,x,h=>h
  | i+1,hi,x,h=>by
    unfold KQ at h
    have hl:=G0 l i
    have:=GZ (KQ l i) i (l.length-(i+1))
    exact TE (by omega) (Ww (by omega) (by omega) h)
theorem VP{l:List Nat} :GD l↔∀ x,x∈l→gd x=true:=by
  refine ⟨fun h x hx=>?_,fun h i hi=>h _ (GB hi)⟩
  obtain ⟨i,hi,rfl⟩:=List.getElem_of_mem hx
  have:=h i hi
  rw [List.getD_eq_getElem?_getD,List.getElem?_eq_getElem hi] at this
  exact this
theorem Xc{l:List Nat}(h:GD l) :GD (KQ l l.length):=by
  rw [VP] at h ⊢
  exact fun x hx=>h x (TE (Nat.le_refl _) hx)
theorem Xd{a b:List Nat}(h:GD a)(k:GD b) :GD (a++b):=by
  rw [VP] at h k ⊢
  intro x hx
  rcases List.mem_append.1 hx with q | q
  · exact h x q
  · exact k x q
theorem TF{α:Type}{xs ys:List α}{i k:Nat}(h:i+k≤xs.length)(q:k≤ys.length) :(WB xs i k ys).length=xs.length:=by
  unfold WB
  rw [List.length_append,List.length_append,List.length_take,List.length_take,List.length_drop]
  omega
theorem VQ{D w l:List Nat}{n m:Nat}(hD:D.length=n)(hN:n≤20)(hm:m≤n)(hw:w.length=m*m)(hl:l.length=n*n) :
    iU (cm (rp D m (m*m) w (n*n)) (0,l)) (Sum.elim (fun l=>l.length=n*n) fun _=>False):=by
  have hNN:n*n≤400:=Nat.mul_le_mul hN hN
  have hMM:m*m≤400:=Nat.mul_le_mul (show m≤20 by omega) (show m≤20 by omega)
  refine iU.loop (fun (p:Nat×List Nat)=>p.1≤m∧p.2.length=n*n) (fun p=>m-p.1) ⟨Nat.zero_le _,hl⟩ ?_
  rintro ⟨a,l⟩ ⟨ha,hl⟩
  dsimp only at ha hl
  unfold rp
  refine aJ ?_
  unfold ET
  have emin:∀ x y,Nat.min x y=min x y:=fun _ _=>rfl
  simp only [T.wp,Sum.elim_inl,Sum.elim_inr,decide_eq_true_eq,decide_eq_false_iff_not,ap,aP,aQ,au,ax,am,aB,ah,List.length_set,List.length_replicate,beq_iff_eq,beq_eq_false_iff_ne,bne_iff_ne,bne_eq_false_iff_eq,Bool.not_eq_true',Bool.not_eq_false',ne_eq,ak,Int.toNat_natCast]
  simp only [emin,C3,List.length_take,List.length_drop,hD,hw]
  refine ⟨fun h=>?_,fun h=>hl⟩
  have q1:(a+1)*n≤n*n:=Nat.mul_le_mul_right n (by omega)
  have q2:(a+1)*m≤m*m:=Nat.mul_le_mul_right m (by omega)
  rw [Nat.add_mul,Nat.one_mul] at q1 q2
  generalize a*n=p1 at *
  generalize a*m=p2 at *
  rw [hl]
  refine ⟨by omega,by omega,by omega,by omega,by omega,by omega,by omega,by omega,by omega,by omega,by omega,by omega,⟨by omega,?_⟩,by omega⟩
  rw [TF,hl]
  · rw [hl];omega
  · rw [List.length_take,List.length_drop,hw];omega
theorem VS{D w l:List Nat}{n m:Nat}(hD:D.length=n)(hN:n≤20)(hm:m≤n)(hw:w.length=(n-m)*(n-m))(hl:l.length=n*n) :
    iU (cm (rq D m ((n-m)*(n-m)) w (n*n)) (m,l)) (Sum.elim (fun l=>l.length=n*n) fun _=>False):=by
  have hNN:n*n≤400:=Nat.mul_le_mul hN hN
  have hMM:(n-m)*(n-m)≤400:=Nat.mul_le_mul (show n-m≤20 by omega) (show n-m≤20 by omega)
  refine iU.loop (fun (p:Nat×List Nat)=>m≤p.1∧p.1≤n∧p.2.length=n*n) (fun p=>n-p.1) ⟨Nat.le_refl _,hm,hl⟩ ?_
  rintro ⟨a,l⟩ ⟨ha0,ha,hl⟩
  dsimp only at ha0 ha hl
  unfold rq
  dsimp only
  refine an (fun (l:List Nat)=>a<n∧l.length=n*n) (aJ ?_) fun l' hl'=>aJ ?_
  · unfold EW
    have emin:∀ x y,Nat.min x y=min x y:=fun _ _=>rfl
    have e1:((a:Int)-(m:Int))*((n:Int)-(m:Int))=(((a-m)*(n-m):Nat):Int):=by
      rw [show (a:Int)-(m:Int)=((a-m:Nat):Int) by omega,show (n:Int)-(m:Int)=((n-m:Nat):Int) by omega,Int.natCast_mul]
    rw [hD,e1]
    simp only [T.wp,Sum.elim_inl,Sum.elim_inr,decide_eq_true_eq,decide_eq_false_iff_not,ap,aP,aQ,au,ax,am,aB,ah,List.length_set,List.length_replicate,beq_iff_eq,beq_eq_false_iff_ne,bne_iff_ne,bne_eq_false_iff_eq,Bool.not_eq_true',Bool.not_eq_false',ne_eq,ak,Int.toNat_natCast]
    simp only [emin,C3,List.length_take,List.length_drop,hw]
    refine ⟨fun h=>?_,fun h=>hl⟩
    have q1:(a+1)*n≤n*n:=Nat.mul_le_mul_right n (by omega)
    have q2:(a-m+1)*(n-m)≤(n-m)*(n-m):=Nat.mul_le_mul_right (n-m) (by omega)
    rw [Nat.add_mul,Nat.one_mul] at q1 q2 ⊢
    generalize a*n=p1 at *
    generalize (a-m)*(n-m)=p2 at *
    rw [hl]
    refine ⟨by omega,by omega,by omega,by omega,by omega,by omega,by omega,by omega,by omega,by omega,by omega,by omega,by omega,by omega,by omega,?_⟩
    rw [TF,hl]
    · rw [hl];omega
    · rw [List.length_take,List.length_drop,hw];omega
  · unfold EX
    simp only [T.wp,Sum.elim_inl,Sum.elim_inr,decide_eq_true_eq,decide_eq_false_iff_not,ap,aP,aQ,au,ax,am,aB,ah,List.length_set,List.length_replicate,beq_iff_eq,beq_eq_false_iff_ne,bne_iff_ne,bne_eq_false_iff_eq,Bool.not_eq_true',Bool.not_eq_false',ne_eq,ak,Int.toNat_natCast]
    exact ⟨by omega,⟨by omega,by omega,hl'.2⟩,by omega⟩
def Uy(x:aF) :Prop:=∃ s e,e≠0∧x=.r0 0 s e [] 0 0 0 []
def Xi(n s:Nat)(v:List Nat)(x:aF) :Prop:=∃ z,x=.r0 n s 0 v (n:Int) (n:Int) (n*n) z∧z.length=n*n
def VT(n:Nat)(v:List Nat) :Prop:=∃ w,v=KQ w n∧w.length=n∧GD w
def QT(n b:Nat)(x:aF) :Prop:=Uy x∨∃ s v,Xi n s v x∧s≤b∧VT n v
theorem VT.len{n:Nat}{v:List Nat}(h:VT n v) :v.length=n:=by
  obtain ⟨w,rfl,hw,_⟩:=h
  rw [G0,hw]
theorem VT.gd{n:Nat}{v:List Nat}(h:VT n v) :GD v:=by
  obtain ⟨w,rfl,hw,hg⟩:=h
  rw [←hw]
  exact Xc hg
def XX(n n1 n2:Nat)(x1 x2 x:aF) :Prop :=
  (Uy x1∨Uy x2→Uy x)∧∀ s1 v1 s2 v2,Xi n1 s1 v1 x1→Xi n2 s2 v2 x2→Xi n (s1+s2) (KQ (v1++v2) n) x
theorem Ls{x:aF}(h:Uy x){n s v}(k:Xi n s v x) :False:=by
  obtain ⟨s',e,he,rfl⟩:=h
  obtain ⟨z,h,_⟩:=k
  injection h with _ _ h
  exact he h
theorem VU{a b:List Nat}{n m:Nat}(ha:a.length=n)(hb:b.length=m) :List.take n a++List.take m b=a++b:=by
  rw [←ha,←hb,List.take_length,List.take_length]
abbrev XY:=Nat×Int×Nat×Nat×Nat×Nat×Int×Int×Nat×Nat×Nat×Nat×Nat×Nat×Nat×List Nat×List Nat×List Nat×List Int×List Int
def XZ(n:Nat)(p:XY) :Prop:=p.1≤780∧p.2.2.1=n∧p.2.2.2.2.2.2.1=(n:Int)∧p.2.2.2.2.2.2.2.1=(n:Int)∧p.2.2.2.2.2.2.2.2.1=n*n∧p.2.2.2.2.2.2.2.2.2.2.2.2.2.2.2.1.length=n∧p.2.2.2.2.2.2.2.2.2.2.2.2.2.2.2.2.2.1.length=n*n
set_option maxHeartbeats 4000000 in
theorem body {R : List Nat → List Nat → Option aF} {D E : List Nat} {n m b rho : Nat} (hD : D.length = n) (h3 : 3 ≤ n) (hN : n ≤ 20) (hE : E.length = n - 1) (hm : m = n / 2) (hrho : rho = E.getD (m - 1) 0) (hr : isNaN rho = false) (hN' : zI rho 0 = true → n ≤ 12) (hb : b ≤ 1000000000)
    (r1 : ∀ D', D'.length = m → iU (R D' (az 0 (m - 1) E)) (QT m b)) (r2 : ∀ D', D'.length = n - m → iU (R D' (az m (n - 1 - m) E)) (QT (n - m) b)) :
    iU (kY R D E) fun x => QT n (2 * b + 1000) x ∧ (zI rho 0 = false → ∀ x1 x2, R (az 0 m D) (az 0 (m - 1) E) = some x1 → R (az m (n - m) D) (az m (n - 1 - m) E) = some x2 → XX n m (n - m) x1 x2 x) := by
  have hNN : n * n ≤ 400 := Nat.mul_le_mul hN hN
  have cE1 : (az 0 (m - 1) E).length = m - 1 := iW (by omega)
  have cE2 : (az m (n - 1 - m) E).length = n - 1 - m := iW (by omega)
  obtain ⟨xt, hxt, D1, D2, rfl, d1, d2, d3⟩ := R9 (D := D) (E := E) (by omega) (by omega) (by omega)
  rw [hD, ← hm] at d1 d2 d3 hxt
  rw [← hrho] at d3 hxt
  obtain ⟨x1, hx1, o1⟩ := r1 D1 d1
  obtain ⟨x2, hx2, o2⟩ := r2 D2 d2
  refine iU.mono (Q := fun x => QT n (2 * b + 1000) x ∧ (zI rho 0 = false → XX n m (n - m) x1 x2 x)) ?_ ?_
  rotate_left
  · rintro x ⟨q1, q2⟩
    refine ⟨q1, fun h y1 y2 hy1 hy2 => ?_⟩
    obtain ⟨e1, e2⟩ := d3 h
    rw [e1, hy1] at hx1
    rw [e2, hy2] at hx2
    injection hx1 with hx1
    injection hx2 with hx2
    subst hx1 hx2
    exact q2 h
  refine qy (an (fun b => b = false) (aJ ?_) ?_)
  · unfold za
    exact decide_eq_false (by omega)
  rintro _ rfl
  refine an (fun _ => True) ?_ fun _ _ => ?_
  · simp only [cond_false]
    refine aJ ?_
    unfold ER
    trivial
  refine an (fun p => p = (rho, m, m - 1, n - m, n - 1 - m, D1, az 0 (m - 1) E, D2, az m (n - 1 - m) E)) (aJ ?_) ?_
  · unfold vv
    rw [ak, ak, hxt]
    simp only [T.wp, Sum.elim_inl, Sum.elim_inr, decide_eq_true_eq, decide_eq_false_iff_not, ap, aP, aQ, au, ax, am, aB, ah, List.length_set, List.length_replicate, beq_iff_eq, beq_eq_false_iff_ne, bne_iff_ne, bne_eq_false_iff_eq, Bool.not_eq_true', Bool.not_eq_false', ne_eq, ak, Int.toNat_natCast]
    exact ⟨by omega, by omega, rfl, rfl⟩
  rintro _ rfl
  dsimp only
  rcases o1 with ⟨s, e, he, rfl⟩ | ⟨s1, v1, ⟨z1, rfl, hz1⟩, hs1, hv1⟩
  · refine an (fun p => p.1 = e) (aJ ?_) ?_
    · unfold pS
      rw [dX d1, dX cE1, hx1]
      simp only [T.wp, Sum.elim_inl, Sum.elim_inr, decide_eq_true_eq, decide_eq_false_iff_not, ap, aP, aQ, au, ax, am, aB, ah, List.length_set, List.length_replicate, beq_iff_eq, beq_eq_false_iff_ne, bne_iff_ne, bne_eq_false_iff_eq, Bool.not_eq_true', Bool.not_eq_false', ne_eq, ak, Int.toNat_natCast]
      exact ⟨by omega, by omega, rfl, rfl⟩
    · rintro ⟨e', y2, y3, y4, y5, y6, y7, y8⟩ hq
      dsimp only at hq
      subst hq
      refine an (fun _ => False) (aJ ?_) fun _ h => h.elim
      unfold lJ
      simp only [T.wp, Sum.elim_inl, Sum.elim_inr, decide_eq_true_eq, decide_eq_false_iff_not, ap, aP, aQ, au, ax, am, aB, ah, List.length_set, List.length_replicate, beq_iff_eq, beq_eq_false_iff_ne, bne_iff_ne, bne_eq_false_iff_eq, Bool.not_eq_true', Bool.not_eq_false', ne_eq, ak, Int.toNat_natCast]
      refine ⟨fun _ => ⟨.inl ⟨_, _, he, rfl⟩, fun _ => ⟨fun _ => ⟨_, _, he, rfl⟩, fun a c f g k => ?_⟩⟩, fun h => absurd h (by omega)⟩
      exact (Ls ⟨_, _, he, rfl⟩ k).elim
  refine an (fun p => p = (0, m, s1, v1, (m : Int), (m : Int), m * m, z1)) (aJ ?_) ?_
  · unfold pS
    rw [dX d1, dX cE1, hx1]
    simp only [T.wp, Sum.elim_inl, Sum.elim_inr, decide_eq_true_eq, decide_eq_false_iff_not, ap, aP, aQ, au, ax, am, aB, ah, List.length_set, List.length_replicate, beq_iff_eq, beq_eq_false_iff_ne, bne_iff_ne, bne_eq_false_iff_eq, Bool.not_eq_true', Bool.not_eq_false', ne_eq, ak, Int.toNat_natCast]
    exact ⟨by omega, by omega, rfl, rfl⟩
  rintro _ rfl
  dsimp only
  rcases o2 with ⟨s, e, he, rfl⟩ | ⟨s2, v2, ⟨z2, rfl, hz2⟩, hs2, hv2⟩
  · refine an (fun p => p.1 = e) (aJ ?_) ?_
    · unfold lJ
      rw [dX d2, dX cE2, hx2]
      simp only [T.wp, Sum.elim_inl, Sum.elim_inr, decide_eq_true_eq, decide_eq_false_iff_not, ap, aP, aQ, au, ax, am, aB, ah, List.length_set, List.length_replicate, beq_iff_eq, beq_eq_false_iff_ne, bne_iff_ne, bne_eq_false_iff_eq, Bool.not_eq_true', Bool.not_eq_false', ne_eq, ak, Int.toNat_natCast]
      exact ⟨fun h => absurd rfl h, fun _ => ⟨by omega, by omega, rfl, rfl⟩⟩
    · rintro ⟨e', y2, y3, y4, y5, y6, y7, y8⟩ hq
      dsimp only at hq
      subst hq
      refine an (fun _ => False) (aJ ?_) fun _ h => h.elim
      unfold zb
      simp only [T.wp, Sum.elim_inl, Sum.elim_inr, decide_eq_true_eq, decide_eq_false_iff_not, ap, aP, aQ, au, ax, am, aB, ah, List.length_set, List.length_replicate, beq_iff_eq, beq_eq_false_iff_ne, bne_iff_ne, bne_eq_false_iff_eq, Bool.not_eq_true', Bool.not_eq_false', ne_eq, ak, Int.toNat_natCast]
      refine ⟨fun _ => ⟨.inl ⟨_, _, he, rfl⟩, fun _ => ⟨fun _ => ⟨_, _, he, rfl⟩, fun a c f g _ k => ?_⟩⟩, fun h => absurd h (by omega)⟩
      exact (Ls ⟨_, _, he, rfl⟩ k).elim
  refine an (fun p => p = (0, n - m, s2, v2, ((n - m : Nat) : Int), ((n - m : Nat) : Int), (n - m) * (n - m), z2)) (aJ ?_) ?_
  · unfold lJ
    rw [dX d2, dX cE2, hx2]
    simp only [T.wp, Sum.elim_inl, Sum.elim_inr, decide_eq_true_eq, decide_eq_false_iff_not, ap, aP, aQ, au, ax, am, aB, ah, List.length_set, List.length_replicate, beq_iff_eq, beq_eq_false_iff_ne, bne_iff_ne, bne_eq_false_iff_eq, Bool.not_eq_true', Bool.not_eq_false', ne_eq, ak, Int.toNat_natCast]
    exact ⟨fun h => absurd rfl h, fun _ => ⟨by omega, by omega, rfl, rfl⟩⟩
  rintro _ rfl
  dsimp only
  have hl1 := hv1.len
  have hl2 := hv2.len
  refine an (fun p => p.1 = n * n ∧ p.2.length = n * n) (aJ ?_) ?_
  · unfold zb
    simp only [T.wp, Sum.elim_inl, Sum.elim_inr, decide_eq_true_eq, decide_eq_false_iff_not, ap, aP, aQ, au, ax, am, aB, ah, List.length_set, List.length_replicate, beq_iff_eq, beq_eq_false_iff_ne, bne_iff_ne, bne_eq_false_iff_eq, Bool.not_eq_true', Bool.not_eq_false', ne_eq, ak, Int.toNat_natCast]
    rw [hD]
    exact ⟨fun h => absurd rfl h, fun _ => ⟨by omega, by omega, by omega, by omega, by omega, by omega, by omega⟩⟩
  rintro ⟨a36, l37⟩ ⟨g1, g2⟩
  dsimp only at g1 g2
  subst g1
  refine an (fun (l : List Nat) => l.length = n * n) (PG (VQ hD hN (by omega) hz1 g2)) fun l40 g3 => an (fun _ => True) (aJ ?_) fun _ _ => an (fun (l : List Nat) => l.length = n * n) (PG (VS hD hN (by omega) hz2 g3)) fun l45 g4 => ?_
  · unfold EU; trivial
  refine an (fun p => p = (zI rho 0, n, v1 ++ v2)) (aJ ?_) ?_
  · unfold EY
    rw [dX hl1, VU rfl hl2]
    simp only [T.wp, Sum.elim_inl, Sum.elim_inr, decide_eq_true_eq, decide_eq_false_iff_not, ap, aP, aQ, au, ax, am, aB, ah, List.length_set, List.length_replicate, beq_iff_eq, beq_eq_false_iff_ne, bne_iff_ne, bne_eq_false_iff_eq, Bool.not_eq_true', Bool.not_eq_false', ne_eq, ak, Int.toNat_natCast]
    simp only [fw, Nat.ble_eq]
    rw [hl1, show m + (n - m) = n by omega]
    exact ⟨by omega, by omega, by omega, by omega, by omega, by omega, rfl⟩
  rintro _ rfl
  dsimp only
  have hlv : (v1 ++ v2).length = n := by rw [List.length_append, hl1, hl2]; omega
  refine an (fun (p : XY) => XZ n p ∧ (zI rho 0 = false → p.1 = 0 ∧ p.2.2.2.2.2.2.2.2.2.2.2.2.2.2.2.1 = v1 ++ v2)) ?_ ?_
  · cases hf : zI rho 0
    · simp only [cond_false]
      refine aJ ?_
      unfold E5
      rw [hD]
      exact ⟨⟨by omega, rfl, rfl, rfl, rfl, hlv, g4⟩, fun _ => ⟨rfl, rfl⟩⟩
    · simp only [cond_true]
      have hN12 := hN' hf
      obtain ⟨xw, hxw, rr, d', z', v', rfl, k1, k2, k3⟩ := R5 (m := m) (rho := rho) hlv g4 hN12 (by omega) (by omega) hr
      refine an (fun p => p = ((n : Int), n, n * n, rr, d', z', v')) (aJ ?_) ?_
      · unfold E3
        rw [hD, hxw]
        exact ⟨rfl, rfl⟩
      rintro _ rfl
      dsimp only
      obtain ⟨xa, hxa, a80, a81, a82, a83, a84, l85, l86, l87, l88, l89, rfl, hms, hs⟩ := Ut (x9 := rr) k1 k2 k3 hN12
      refine an (fun p => p = ((n : Int), n, n, n, n, (n : Int), (n : Int), n * n, n * n, a80, a81, a82, a83, a84, l85, l86, l87, l88, l89)) (aJ ?_) ?_
      · unfold E4
        rw [hxa]
        exact ⟨rfl, rfl⟩
      rintro _ rfl
      dsimp only
      obtain ⟨xr, hxr, hrr⟩ := Uw (c11 := a82) (c13 := a84) (x9 := a80) hms.d hms.z hms.v hN12 hms.il hms.ig hms.l hms.g hs
      rcases hrr with rfl | ⟨mm, t, w, rfl, w1, w2, w3⟩
      · refine an (fun p => p.2.1 = 7) (aJ ?_) ?_
        · unfold zc
          rw [hxr]
          exact .inl ⟨rfl, rfl⟩
        · rintro ⟨y1, y2, y3, y4, y5, y6, y7, y8, y9, y10, y11, y12, y13, y14, y15, y16, y17, y18, y19, y20, y21⟩ hq
          dsimp only at hq
          subst hq
          refine aJ ?_
          unfold zd
          simp only [T.wp, Sum.elim_inl, Sum.elim_inr, decide_eq_true_eq, decide_eq_false_iff_not, ap, aP, aQ, au, ax, am, aB, ah, List.length_set, List.length_replicate, beq_iff_eq, beq_eq_false_iff_ne, bne_iff_ne, bne_eq_false_iff_eq, Bool.not_eq_true', Bool.not_eq_false', ne_eq, ak, Int.toNat_natCast]
          exact ⟨fun _ => ⟨.inl ⟨_, _, by decide, rfl⟩, fun q => (by cases q)⟩, fun h => absurd h (by decide)⟩
      · refine an (fun p => p.2.1 = 0 ∧ XZ n (p.1, p.2.2)) (aJ ?_) ?_
        · unfold zc
          rw [hxr]
          exact .inr ⟨XQ rfl, .inl ⟨rfl, rfl, by show mm ≤ 780; omega, rfl, rfl, rfl, rfl, w1, w2⟩⟩
        · rintro ⟨y1, y2, y3, y4, y5, y6, y7, y8, y9, y10, y11, y12, y13, y14, y15, y16, y17, y18, y19, y20, y21⟩ ⟨hq, hS⟩
          dsimp only at hq
          subst hq
          refine aJ ?_
          unfold zd
          simp only [T.wp, Sum.elim_inl, Sum.elim_inr, decide_eq_true_eq, decide_eq_false_iff_not, ap, aP, aQ, au, ax, am, aB, ah, List.length_set, List.length_replicate, beq_iff_eq, beq_eq_false_iff_ne, bne_iff_ne, bne_eq_false_iff_eq, Bool.not_eq_true', Bool.not_eq_false', ne_eq, ak, Int.toNat_natCast]
          exact ⟨fun h => absurd rfl h, fun _ => ⟨hS, fun q => (by cases q)⟩⟩
  rintro ⟨st, y3, a98, y5, y6, y7, i102, i103, a104, y11, y12, y13, y14, y15, y16, l111, y18, l113, y20, y21⟩ ⟨⟨c1, c2, c3, c4, c5, c6, c7⟩, hap⟩
  dsimp only at c1 c2 c3 c4 c5 c6 c7 hap
  subst c2 c3 c4 c5
  obtain ⟨xs, hxs, hss⟩ := Oy (w := l111) (z := l113) (R := a98) (by omega) (by omega) (by rw [c6]; exact c7)
  rw [c6] at hxs hss
  refine an (fun (p : Nat × Nat × List Nat × Int × Int × Nat × List Nat) => (p = (0, 10, [], 0, 0, 0, []) ∧ ¬ GD l111) ∨ (GD l111 ∧ ∃ z, p = (a98, 0, KQ l111 a98, (a98 : Int), (a98 : Int), a98 * a98, z) ∧ z.length = a98 * a98)) (aJ ?_) ?_
  · unfold E6
    rw [dX c6, dX c7, hxs]
    simp only [T.wp, Sum.elim_inl, Sum.elim_inr, decide_eq_true_eq, decide_eq_false_iff_not, ap, aP, aQ, au, ax, am, aB, ah, List.length_set, List.length_replicate, beq_iff_eq, beq_eq_false_iff_ne, bne_iff_ne, bne_eq_false_iff_eq, Bool.not_eq_true', Bool.not_eq_false', ne_eq, ak, Int.toNat_natCast]
    rcases hss with ⟨rfl, hn⟩ | ⟨hg, z', rfl, hz'⟩
    · exact ⟨by omega, by omega, rfl, .inl ⟨rfl, hn⟩⟩
    · exact ⟨by omega, by omega, rfl, .inr ⟨hg, z', rfl, hz'⟩⟩
  · rintro p hp
    rcases hp with ⟨rfl, hn⟩ | ⟨hg, z', rfl, hz'⟩
    · refine aJ ?_
      unfold ze
      simp only [T.wp, Sum.elim_inl, Sum.elim_inr, decide_eq_true_eq, decide_eq_false_iff_not, ap, aP, aQ, au, ax, am, aB, ah, List.length_set, List.length_replicate, beq_iff_eq, beq_eq_false_iff_ne, bne_iff_ne, bne_eq_false_iff_eq, Bool.not_eq_true', Bool.not_eq_false', ne_eq, ak, Int.toNat_natCast]
      refine ⟨by omega, by omega, .inl ⟨_, _, by decide, rfl⟩, fun q => ?_⟩
      refine absurd ?_ hn
      rw [(hap q).2]
      exact Xd hv1.gd hv2.gd
    · refine aJ ?_
      unfold ze
      simp only [T.wp, Sum.elim_inl, Sum.elim_inr, decide_eq_true_eq, decide_eq_false_iff_not, ap, aP, aQ, au, ax, am, aB, ah, List.length_set, List.length_replicate, beq_iff_eq, beq_eq_false_iff_ne, bne_iff_ne, bne_eq_false_iff_eq, Bool.not_eq_true', Bool.not_eq_false', ne_eq, ak, Int.toNat_natCast]
      refine ⟨by omega, by omega, .inr ⟨_, _, ⟨z', rfl, hz'⟩, by omega, l111, rfl, c6, hg⟩, fun q => ⟨fun h => ?_, fun t1 u1 t2 u2 k1 k2 => ?_⟩⟩
      · rcases h with ⟨_, _, he, h⟩ | ⟨_, _, he, h⟩
        · injection h with _ _ h
          exact absurd h.symm he
        · injection h with _ _ h
          exact absurd h.symm he
      · obtain ⟨_, k1, _⟩ := k1
        obtain ⟨_, k2, _⟩ := k2
        injection k1 with _ k11 _ k12
        injection k2 with _ k21 _ k22
        subst k11 k12 k21 k22
        obtain ⟨q1, q2⟩ := hap q
        refine ⟨z', ?_, hz'⟩
        rw [q1, q2, Nat.zero_add]
def conv:cT→aF
  | .r0 a b c d e f g h=>.r0 a b c d e f g h
theorem VV{D E:List Nat}{n:Nat}(hD:D.length=n)(hE:E.length=n-1)(hN:n≤512) :QR D E=true:=decide_eq_true ⟨by omega,by omega⟩
theorem leaf{D E:List Nat}{n:Nat}(hD:D.length=n)(h2:n≤2)(hE:E.length=n-1) :
    ∃ y,km D E (n:Int) (n:Int) (QS n n)=some y∧Wr n n y∧∀ R,kY R D E=some (conv y):=by
  obtain ⟨y,hy,hq⟩:=SZ (R:=n) hD (VV hD hE (by omega)) (by omega) (by omega) (GC n n)
  refine ⟨y,hy,hq,fun R=>?_⟩
  refine jP (bN (a:=true) ?_ (ru ?_))
  · unfold za
    show some (Sum.inl (decide _))=_
    rw [decide_eq_true (by omega)]
  · cases y with
    | r0 a b c d e f g h =>
    refine bN (a:=(a,b,c,d,e,f,g,h)) ?_ rfl
    unfold EQ
    have hn:((D.length:Nat):Int)=(n:Int):=by rw [hD]
    rw [hn,Ux (by omega:n≤12)]
    simp only [wm,cn,fL,fM]
    rw [ak,ak,dX (GC n n),hy]
    exact vX (lP (lP (qI (QP (GC n n)) (vX rfl))))
theorem Wr.conv{n:Nat}{y:cT}(h:Wr n n y) :QT n (31*n) (conv y):=by
  rcases h with ⟨s,e,rfl,he⟩ | ⟨s,w,z,rfl,hs,hw,hg,hz⟩
  · exact .inl ⟨s,e,by rcases he with rfl | rfl<;>decide,rfl⟩
  · exact .inr ⟨s,_,⟨z,rfl,hz⟩,hs,w,rfl,hw,hg⟩
def NN(E:List Nat) :Prop:=∀ i,i<E.length→isNaN (E.getD i 0)=false
theorem Xe{l:List Nat} :NN l↔∀ x,x∈l→isNaN x=false:=by
  refine ⟨fun h x hx=>?_,fun h i hi=>h _ (GB hi)⟩
  obtain ⟨i,hi,rfl⟩:=List.getElem_of_mem hx
  have:=h i hi
  rw [List.getD_eq_getElem?_getD,List.getElem?_eq_getElem hi] at this
  exact this
theorem NN.cut{E:List Nat}(h:NN E)(o k:Nat) :NN (az o k E):=by
  rw [Xe] at h ⊢
  intro x hx
  rw [DY] at hx
  exact h x (List.mem_of_mem_drop (List.mem_of_mem_take hx))
theorem QT.mono{n b c:Nat}{x:aF}(h:QT n b x)(k:b≤c) :QT n c x:=by
  rcases h with h | ⟨s,v,h,hs,hv⟩
  · exact .inl h
  · exact .inr ⟨s,v,h,Nat.le_trans hs k,hv⟩
def Bn:Nat→Nat
  | 0=>0
  | j+1=>2*Bn j+1000
theorem WR:∀ {j:Nat},j≤5→Bn j≤31000:=by
  intro j hj
  have:j=0∨j=1∨j=2∨j=3∨j=4∨j=5:=by omega
  rcases this with rfl | rfl | rfl | rfl | rfl | rfl<;>decide
theorem zN:∀ (j:Nat) {D E:List Nat} {n:Nat},1≤j→j≤5→D.length=n→E.length=n-1→n≤2^j→n≤12→NN E→iU (dc j D E) (QT n (Bn j))
  | 0,_,_,_,h,_,_,_,_,_,_=>absurd h (by decide)
  | j + 1, D, E, n, _, h5, hD, hE, hj, hN, hn => by
    by_cases h2:n≤2
    · obtain ⟨y,_,hq,hR⟩:=leaf hD h2 hE
      refine ⟨conv y,hR _,(hq.conv).mono ?_⟩
      unfold Bn
      omega
    · have hj1:1≤j:=by
        rcases j with _ | j
        · rw [Nat.pow_one] at hj;omega
        · omega
      have hp:2^(j+1)=2*2^j:=by rw [Nat.pow_succ,Nat.mul_comm]
      have hB:=WR (show j≤5 by omega)
      refine (body (m:=n/2) (R:=dc j) (b:=Bn j) hD (by omega) (by omega) hE rfl rfl (hn _ (by omega)) (fun _=>hN) (by omega) (fun D' hD'=>?_) fun D' hD'=>?_).mono fun x hx=>hx.1
      · exact zN j hj1 (by omega) hD' (iW (by omega)) (by omega) (by omega) (hn.cut _ _)
      · refine zN j hj1 (by omega) hD' ?_ (by omega) (by omega) (hn.cut _ _)
        rw [iW (by omega)];omega
theorem Uz{α β X:Type}(a:α)(k:α→Option (β⊕X)) :bd (some (.inl a)) k=k a:=rfl
theorem Wx{R R':List Nat→List Nat→Option aF}{D E D1 D2 E1 E2:List Nat}{rho a b c d:Nat}(ht:gC D E=some (.r0 rho a b c d D1 E1 D2 E2))(h1:D1.length=a)(h2:E1.length=b)(h3:D2.length=c)(h4:E2.length=d)(r1:R D1 E1=R' D1 E1)(r2:R D2 E2=R' D2 E2) :
    kY R D E=kY R' D E:=by
  have e32:(vv D E).run=some (.inl (rho,a,b,c,d,D1,E1,D2,E2)):=by
    unfold vv
    rw [ak,ak,ht]
    exact lP (lP (vX rfl))
  have e33:pS R a b D1 E1=pS R' a b D1 E1:=by
    unfold pS
    rw [dX h1,dX h2,r1]
  have e34:∀ e,lJ R c d D2 E2 e=lJ R' c d D2 E2 e:=by
    intro e
    unfold lJ
    rw [dX h3,dX h4,r2]
  unfold kY
  rw [e32]
  simp only [Uz,e33,e34]
theorem JR:∀ (j:Nat) {D E:List Nat} {n:Nat},1≤j→D.length=n→E.length=n-1→n≤2^j→n≤12→dc (j+1) D E=dc j D E
  | 0,_,_,_,h,_,_,_,_=>absurd h (by decide)
  | j + 1, D, E, n, _, hD, hE, hj, hN => by
    show kY _ D E=kY _ D E
    by_cases h2:n≤2
    · obtain ⟨y,_,hq,hR⟩:=leaf hD h2 hE
      rw [hR,hR]
    · have hj1:1≤j:=by
        rcases j with _ | j
        · rw [Nat.pow_one] at hj;omega
        · omega
      have hp:2^(j+1)=2*2^j:=by rw [Nat.pow_succ,Nat.mul_comm]
      obtain ⟨xt,hxt,D1,D2,rfl,d1,d2,_⟩:=R9 (D:=D) (E:=E) (by omega) (by omega) (by omega)
      have c1:(az 0 (D.length/2-1) E).length=D.length/2-1:=iW (by omega)
      have c2:(az (D.length/2) (D.length-1-D.length/2) E).length=D.length-1-D.length/2:=iW (by omega)
      exact Wx hxt d1 c1 d2 c2 (JR j hj1 d1 c1 (by omega) (by omega)) (JR j hj1 d2 (by rw [c2];omega) (by omega) (by omega))
end Go.Plb.Seat
namespace Go.Plb
set_option linter.unusedSimpArgs false
set_option linter.unusedVariables false
set_option linter.unusedSectionVars false
variable [Rom]
end Go.Plb
namespace Go.Plb.Seat
open Go Go.Plb
set_option linter.unusedSimpArgs false
set_option linter.unusedVariables false
def yH(x:Nat) :Int:=fz (x%Sb)
theorem VW{n i:Nat}{l:List Nat}(hn:n≤1000000)(hl:l.length=n)(hi:i<n) :iU (cm (sN 0 n l) (i,i+1)) (Sum.elim (fun k=>k=CY l i (n-(i+1))) fun _=>False):=by
  refine iU.loop (fun p=>i<p.2∧p.2≤n∧p.1=CY l i (p.2-(i+1))) (fun p=>n-p.2) ⟨by dsimp only;omega,by dsimp only;omega,by show i=CY l i (i+1-(i+1));rw [Nat.sub_self];rfl⟩ ?_
  rintro ⟨k,j⟩ ⟨h1,h2,h3⟩
  dsimp only at h1 h2 h3
  unfold sN
  dsimp only
  have hk:=GZ l i (j-(i+1))
  rw [←h3] at hk
  refine an (fun x=>j<n∧x=CY l i (j+1-(i+1))) (aJ ?_) fun x hx=>aJ ?_
  · unfold Gp
    simp only [T.wp,Sum.elim_inl,Sum.elim_inr,decide_eq_true_eq,decide_eq_false_iff_not,ap,aP,aQ,au,ax,am,aB,ah,List.length_set,List.length_replicate,beq_iff_eq,beq_eq_false_iff_ne,bne_iff_ne,bne_eq_false_iff_eq,Bool.not_eq_true',Bool.not_eq_false',ne_eq,ak,Int.toNat_natCast]
    simp only [Nat.zero_add]
    have e:CY l i (j+1-(i+1))=bif flt (l.getD j 0) (l.getD k 0) then j else k:=by
      rw [show j+1-(i+1)=(j-(i+1))+1 by omega]
      unfold CY
      rw [show i+1+(j-(i+1))=j by omega,←h3]
    refine ⟨fun h=>⟨by omega,by omega,by omega,by omega,fun q=>⟨by omega,?_⟩,fun q=>⟨by omega,?_⟩⟩,fun h=>?_⟩
    · rw [e,q];rfl
    · rw [e,q];rfl
    · rw [h3];congr 1;omega
  · unfold Gq
    simp only [T.wp,Sum.elim_inl,Sum.elim_inr,decide_eq_true_eq,decide_eq_false_iff_not,ap,aP,aQ,au,ax,am,aB,ah,List.length_set,List.length_replicate,beq_iff_eq,beq_eq_false_iff_ne,bne_iff_ne,bne_eq_false_iff_eq,Bool.not_eq_true',Bool.not_eq_false',ne_eq,ak,Int.toNat_natCast]
    refine ⟨by omega,⟨by omega,by omega,hx.2⟩,by omega⟩
theorem S3{w:List Nat}(hw:w.length≤512) :tt w 0 w.length 0 []=some (.r0 (KQ w w.length)):=by
  have:iU (tt w 0 w.length 0 []) fun x=>x=.r0 (KQ w w.length):=by
    refine sR (an (fun _=>True) (aJ ?_) fun _ _=>an (fun l=>l=KQ w w.length) (iU.loop (fun p=>p.1≤w.length∧p.2=KQ w p.1) (fun p=>w.length-p.1) ⟨Nat.zero_le _,rfl⟩ ?_) fun l hl=>aJ ?_)
    · unfold Gi;trivial
    · rintro ⟨a,l⟩ ⟨h1,h2⟩
      dsimp only at h1 h2
      have hll:l.length=w.length:=by rw [h2];exact G0 w a
      unfold wU
      dsimp only
      refine an (fun _=>a<w.length) (aJ ?_) fun _ ha=>?_
      · unfold Gk
        simp only [T.wp,Sum.elim_inl,Sum.elim_inr,decide_eq_true_eq,decide_eq_false_iff_not,ap,aP,aQ,au,ax,am,aB,ah,List.length_set,List.length_replicate,beq_iff_eq,beq_eq_false_iff_ne,bne_iff_ne,bne_eq_false_iff_eq,Bool.not_eq_true',Bool.not_eq_false',ne_eq,ak,Int.toNat_natCast]
        refine ⟨fun h=>by omega,fun h=>?_⟩
        have:a=w.length:=by omega
        subst this
        exact h2
      refine an (fun l=>l=KQ w (a+1)) (iU.join (an (fun j=>j=a+1) (aJ ?_) ?_)) fun p hp=>aJ ?_
      · unfold Gm
        simp only [T.wp,Sum.elim_inl,Sum.elim_inr,decide_eq_true_eq,decide_eq_false_iff_not,ap,aP,aQ,au,ax,am,aB,ah,List.length_set,List.length_replicate,beq_iff_eq,beq_eq_false_iff_ne,bne_iff_ne,bne_eq_false_iff_eq,Bool.not_eq_true',Bool.not_eq_false',ne_eq,ak,Int.toNat_natCast]
        exact ⟨by omega,trivial⟩
      · rintro j rfl
        refine an (fun k=>k=CY l a (w.length-(a+1))) (VN (VW (by omega) hll ha)) ?_
        rintro k rfl
        have hk:=GZ l a (w.length-(a+1))
        refine an (fun m=>m=KQ w (a+1)) (aJ ?_) ?_
        · unfold Gr
          simp only [T.wp,Sum.elim_inl,Sum.elim_inr,decide_eq_true_eq,decide_eq_false_iff_not,ap,aP,aQ,au,ax,am,aB,ah,List.length_set,List.length_replicate,beq_iff_eq,beq_eq_false_iff_ne,bne_iff_ne,bne_eq_false_iff_eq,Bool.not_eq_true',Bool.not_eq_false',ne_eq,ak,Int.toNat_natCast]
          simp only [Nat.zero_add]
          refine ⟨by omega,by omega,by omega,by omega,by omega,by omega,by omega,by omega,?_⟩
          subst h2
          rfl
        rintro m rfl
        refine an (fun _=>True) (iU.loop (fun _=>True) (fun _=>0) trivial ?_) fun _ _=>aJ ?_
        · rintro _ _
          unfold wT
          refine aJ ?_
          unfold Gt
          exact ⟨fun h=>absurd h (by decide),fun _=>trivial⟩
        · unfold Gu
          exact rfl
      · unfold Gv
        simp only [T.wp,Sum.elim_inl,Sum.elim_inr,decide_eq_true_eq,decide_eq_false_iff_not,ap,aP,aQ,au,ax,am,aB,ah,List.length_set,List.length_replicate,beq_iff_eq,beq_eq_false_iff_ne,bne_iff_ne,bne_eq_false_iff_eq,Bool.not_eq_true',Bool.not_eq_false',ne_eq,ak,Int.toNat_natCast]
        exact ⟨by omega,⟨by omega,hp⟩,by omega⟩
    · unfold Gw
      show _=_
      rw [hl];rfl
  obtain ⟨x,hx,rfl⟩:=this
  exact hx
theorem KS{D E:List Nat}(wD:Wd D)(wE:Wd E)(hD:D.length≤1000000)(hE:E.length≤1000000)(h:QR D E=true)(hf:(AK D&&AK E)=true){x:aF}(hx:dc 5 D E=some x) :
    (Uy x→cA D E=some (.r0 0 0 7 [] 0 0 0 []))∧∀ n s v z,x=.r0 n s 0 v (n:Int) (n:Int) (n*n) z→cA D E=some (.r0 n s 0 v (n:Int) (n:Int) (n*n) z):=by
  have hw:=R2 wD wE hD hE h
  rw [hf] at hw
  have t4:(AD D E).run=some (.inl 0):=by
    unfold AD
    rw [ak,ak,hw]
    exact lP (lP (vX rfl))
  refine ⟨?_,?_⟩
  · rintro ⟨s,e,he,rfl⟩
    refine jP (bN t4 (bN (a:=(0,s,e,[],0,0,0,[])) ?_ ?_))
    · unfold AF
      rw [ak,ak,hx]
      exact Gz (lP (lP (vX rfl)))
    · show (AG _ _ _ _ _ _ _ _).run=_
      unfold AG
      exact T.at (by rw [bne_iff_ne];omega) rfl
  · rintro n s v z rfl
    refine jP (bN t4 (bN (a:=(n,s,0,v,(n:Int),(n:Int),n*n,z)) ?_ ?_))
    · unfold AF
      rw [ak,ak,hx]
      exact Gz (lP (lP (vX rfl)))
    · exact Gz rfl
theorem VX{E:List Nat}(wE:Wd E)(h:AK E=true) :NN E:=fun i hi=>Wl (wE i) (tx.1 h i hi)
theorem GE(D E:List Nat) :qJ D E=some (.r0 (QR D E)):=by
  by_cases h:D.length≤1000000
  · exact Ul h
  · have:QR D E=false:=decide_eq_false fun q=>h (by omega)
    rw [this]
    refine jP (bN (a:=false) ?_ rfl)
    exact AJ (by rw [decide_eq_false_iff_not];omega) rfl
theorem S4{a b:List Nat}(ha:Wd a)(hb:Wd b) :Wd (a++b):=by
  intro i
  by_cases h:i<a.length
  · rw [List.getD_eq_getElem?_getD,List.getElem?_append_left h,←List.getD_eq_getElem?_getD];exact ha i
  · rw [List.getD_eq_getElem?_getD,List.getElem?_append_right (by omega),←List.getD_eq_getElem?_getD];exact hb _
theorem S5{a b:List Nat}(ha:Fn a)(hb:Fn b) :Fn (a++b):=by
  intro i hi
  rw [List.length_append] at hi
  by_cases h:i<a.length
  · rw [List.getD_eq_getElem?_getD,List.getElem?_append_left h,←List.getD_eq_getElem?_getD];exact ha i h
  · rw [List.getD_eq_getElem?_getD,List.getElem?_append_right (by omega),←List.getD_eq_getElem?_getD];exact hb _ (by omega)
theorem UA:Wd [0]:=by
  intro i
  rcases i with _ | i
  · exact (by decide:(0:Nat)<Sb)
  · exact (by decide:(0:Nat)<Sb)
theorem UB:Fn [0]:=by
  intro i hi
  rcases i with _ | i
  · exact (by decide:Fh 0=true)
  · exact absurd hi (by simp)
theorem Sa{α:Type}{a b:List α}{n:Nat}(h:a.length=n) :az 0 n (a++b)=a:=by
  rw [DY,List.drop_zero,←h,List.take_left']
  rfl
theorem PH{α:Type}{a b:List α}{n m:Nat}(h:a.length=n)(k:b.length=m) :az n m (a++b)=b:=by
  rw [DY,←h,List.drop_left',←k,List.take_length]
  rfl
set_option maxHeartbeats 1000000 in
theorem UC {A1 A3 B1 B3 : List Nat} (w1 : Wd A1) (w3 : Wd A3) (u1 : Wd B1) (u3 : Wd B3) : ra A1 A3 B1 B3 = some (.r0 true) := by
  have bad : (jH A1 A3 B1 B3).run = some (.inl true) → ra A1 A3 B1 B3 = some (.r0 true) := fun h => jP (bN h (ru (JO rfl)))
  cases oA : QR A1 A3
  · refine bad ?_
    unfold jH
    simp only [ak]
    rw [GE, oA]
    exact (lP (lP (vX (JO rfl))))
  cases oB : QR B1 B3
  · refine bad ?_
    unfold jH
    simp only [ak]
    rw [GE, GE, oA, oB]
    exact (lP (lP (vX (Gz (lP (lP (vX (JO rfl))))))))
  obtain ⟨a5, aE⟩ := of_decide_eq_true oA
  obtain ⟨b5, bE⟩ := of_decide_eq_true oB
  have t9 : iU ((jH A1 A3 B1 B3).run) (Sum.elim (fun b => b = false → (AK A1 = true ∧ AK A3 = true ∧ AK B1 = true ∧ AK B3 = true) ∧ 1 ≤ A1.length ∧ A1.length ≤ 6 ∧ (B1.length = A1.length ∨ B1.length = A1.length + 1) ∧ 3 ≤ B1.length + A1.length) fun _ => False) := by
    refine aJ ?_
    unfold jH
    simp only [ak]
    rw [GE, GE, oA, oB, GY w1 (by omega), GY w3 (by omega), GY u1 (by omega), GY u3 (by omega)]
    simp only [sU, sb, jI, js]
    simp only [T.wp, Sum.elim_inl, Sum.elim_inr, decide_eq_true_eq, decide_eq_false_iff_not, ap, aP, aQ, au, ax, am, aB, ah, List.length_set, List.length_replicate, beq_iff_eq, beq_eq_false_iff_ne, bne_iff_ne, bne_eq_false_iff_eq, Bool.not_eq_true', Bool.not_eq_false', ne_eq, ak, Int.toNat_natCast]
    refine ⟨by omega, by omega, trivial, fun h => (by cases h), fun _ => ⟨by omega, by omega, trivial, fun h => (by cases h), fun _ => ⟨by omega, trivial, fun f1 => ⟨by omega, trivial, fun _ q => (by cases q), fun f2 => ⟨by omega, trivial, fun f3 => ⟨by omega, trivial, fun _ q => (by cases q), fun f4 => ⟨fun _ q => (by cases q), fun h1 => ⟨fun _ q => (by cases q), fun h2 => ⟨fun h3 => ⟨by omega, fun _ q => (by cases q), fun h4 => ⟨by omega, fun h5 => ?_⟩⟩, fun h3 => ⟨by omega, fun h5 => ?_⟩⟩⟩⟩⟩, fun _ q => (by cases q)⟩⟩, fun _ q => (by cases q)⟩⟩⟩
    · exact ⟨⟨f1, f2, f3, f4⟩, by omega, by omega, by omega, by omega⟩
    · exact ⟨⟨f1, f2, f3, f4⟩, by omega, by omega, by omega, by omega⟩
  obtain ⟨r, hr, hq⟩ := t9
  rcases r with b | x
  case inr => exact hq.elim
  cases b
  case true => exact bad hr
  obtain ⟨⟨f1, f3, g1, g3⟩, n1, n6, nb, n3⟩ := hq rfl
  obtain ⟨m, hm⟩ : ∃ m, A1.length = m := ⟨_, rfl⟩
  obtain ⟨k, hk⟩ : ∃ k, B1.length = k := ⟨_, rfl⟩
  have hA3 : A3.length = m - 1 := by omega
  have hB3 : B3.length = k - 1 := by omega
  have lC1 : (A1 ++ B1).length = m + k := by rw [List.length_append, hm, hk]
  have lC3' : (A3 ++ [0] ++ B3).length = A3.length + 1 + B3.length := by rw [List.length_append, List.length_append]; rfl
  have lC3 : (A3 ++ [0] ++ B3).length = m + k - 1 := by omega
  have wC1 : Wd (A1 ++ B1) := S4 w1 u1
  have wC3 : Wd (A3 ++ [0] ++ B3) := S4 (S4 w3 UA) u3
  have fC1 : AK (A1 ++ B1) = true := tx.2 (S5 (tx.1 f1) (tx.1 g1))
  have fC3 : AK (A3 ++ [0] ++ B3) = true := tx.2 (S5 (S5 (tx.1 f3) UB) (tx.1 g3))
  have oC : QR (A1 ++ B1) (A3 ++ [0] ++ B3) = true := VV lC1 lC3 (by omega)
  have c1 : az 0 m (A1 ++ B1) = A1 := Sa hm
  have c2 : az m (m + k - m) (A1 ++ B1) = B1 := PH hm (by omega)
  have c3 : az 0 (m - 1) (A3 ++ [0] ++ B3) = A3 := by rw [List.append_assoc]; exact Sa hA3
  have c4 : az m (m + k - 1 - m) (A3 ++ [0] ++ B3) = B3 := PH (by rw [List.length_append, hA3]; show m - 1 + 1 = m; omega) (by omega)
  have hrho : 0 = (A3 ++ [0] ++ B3).getD (m - 1) 0 := by
    rw [List.append_assoc, List.getD_eq_getElem?_getD, List.getElem?_append_right (by omega), hA3, Nat.sub_self]; rfl
  have z0 : isNaN 0 = false := by decide
  have e0 : zI 0 0 = false := by rw [wc]; exact z0
  have NA : NN A3 := VX w3 f3
  have NB : NN B3 := VX u3 g3
  obtain ⟨x1, hx1, o1⟩ := zN 4 (by decide) (by decide) hm hA3 (by omega) (by omega) NA
  obtain ⟨x2, hx2, o2⟩ := zN 4 (by decide) (by decide) hk hB3 (by omega) (by omega) NB
  have hy1 : dc 5 A1 A3 = some x1 := by rw [JR 4 (by decide) hm hA3 (by omega) (by omega)]; exact hx1
  have hy2 : dc 5 B1 B3 = some x2 := by rw [JR 4 (by decide) hk hB3 (by omega) (by omega)]; exact hx2
  have hn3 : 3 ≤ m + k := by omega
  have hn12 : m + k ≤ 20 := by omega
  have hmh : m = (m + k) / 2 := by omega
  obtain ⟨x, hx, hxo, hxc⟩ := body (R := dc 4) (n := m + k) (m := m) (b := Bn 4) (rho := 0) lC1 hn3 hn12 lC3 hmh hrho z0 (fun q => absurd (e0.symm.trans q) (by decide)) (by decide)
    (fun D' hD' => by rw [c3]; exact zN 4 (by decide) (by decide) hD' hA3 (show m ≤ 16 by omega) (show m ≤ 12 by omega) NA)
    (fun D' hD' => by rw [c4]; exact zN 4 (by decide) (by decide) hD' (show B3.length = m + k - m - 1 by omega) (show m + k - m ≤ 16 by omega) (show m + k - m ≤ 12 by omega) NB)
  have hC := hxc e0 x1 x2 (by rw [c1, c3]; exact hx1) (by rw [c2, c4]; exact hx2)
  obtain ⟨hC1, hC2⟩ := hC
  obtain ⟨sC1, sC2⟩ := KS wC1 wC3 (by omega) (by omega) oC (by rw [fC1, fC3]; rfl) (x := x) hx
  obtain ⟨sA1, sA2⟩ := KS w1 w3 (by omega) (by omega) oA (by rw [f1, f3]; rfl) hy1
  obtain ⟨sB1, sB2⟩ := KS u1 u3 (by omega) (by omega) oB (by rw [g1, g3]; rfl) hy2
  have t10 : ∀ {w s e l i j a z}, cA (A1 ++ B1) (A3 ++ [0] ++ B3) = some (.r0 w s e l i j a z) → (qb A1 A3 B1 B3 false).run = some (.inl (w, s, e, l)) := by
    intro w s e l i j a z h
    have hT : iU ((qb A1 A3 B1 B3 false).run) fun x => x = .inl (w, s, e, l) := by
      refine aJ ?_
      unfold qb
      have htk : List.take (A3.length + 1) (A3 ++ [0]) = A3 ++ [0] := List.take_of_length_le (by rw [List.length_append]; exact Nat.le_refl _)
      simp only [List.take_length, XF, htk]
      rw [dX (show (A1 ++ B1).length = A1.length + B1.length by rw [List.length_append]), dX lC3', h]
      simp only [pa, nJ, nK, nL, nM]
      have q1 : (A3 ++ [0]).length = A3.length + 1 := by rw [List.length_append]; rfl
      have q2 : ([0] : List Nat).length = 1 := rfl
      have q3 : (A1 ++ B1).length = A1.length + B1.length := List.length_append
      simp only [T.wp, Sum.elim_inl, Sum.elim_inr, decide_eq_true_eq, decide_eq_false_iff_not, ap, aP, aQ, au, ax, am, aB, ah, List.length_set, List.length_replicate, beq_iff_eq, beq_eq_false_iff_ne, bne_iff_ne, bne_eq_false_iff_eq, Bool.not_eq_true', Bool.not_eq_false', ne_eq, ak, Int.toNat_natCast]
      simp only [q1, q2, q3, lC3']
      exact ⟨fun q => (by cases q), fun _ => (by ((repeat' (first | with_reducible assumption | (refine And.intro ?_ ?_) | intro _)) <;> (try (first | omega | with_reducible assumption | exact rfl | exact True.intro))))⟩
    obtain ⟨y, hy, rfl⟩ := hT
    exact hy
  have t11 : ∀ {w s e l i j a z}, cA A1 A3 = some (.r0 w s e l i j a z) → (sO A1 A3).run = some (.inl (w, s, e, l)) := by
    intro w s e l i j a z h
    unfold sO
    rw [ak, ak, h]
    exact lP (lP (vX rfl))
  have t12 : ∀ {w s e l i j a z}, cA B1 B3 = some (.r0 w s e l i j a z) → (sP B1 B3).run = some (.inl (w, s, e, l)) := by
    intro w s e l i j a z h
    unfold sP
    rw [ak, ak, h]
    exact lP (lP (vX rfl))
  rcases o1 with q1 | ⟨s1, v1, k1, hs1, hv1⟩
  · have eA := t11 (sA1 q1)
    have eC := t10 (sC1 (hC1 (.inl q1)))
    rcases o2 with q2 | ⟨s2, v2, ⟨z2, k2, _⟩, hs2, hv2⟩
    · exact jP (bN hr (bN eC (bN eA (bN (t12 (sB1 q2)) (bN (a := true) rfl (ru rfl))))))
    · exact jP (bN hr (bN eC (bN eA (bN (t12 (sB2 _ _ _ _ k2)) (bN (a := true) rfl (ru rfl))))))
  obtain ⟨z1, k1', hz1⟩ := id k1
  have eA := t11 (sA2 _ _ _ _ k1')
  rcases o2 with q2 | ⟨s2, v2, k2, hs2, hv2⟩
  · have eC := t10 (sC1 (hC1 (.inr q2)))
    exact jP (bN hr (bN eC (bN eA (bN (t12 (sB1 q2)) (bN (a := true) rfl (ru rfl))))))
  obtain ⟨z2, k2', hz2⟩ := id k2
  have eB := t12 (sB2 _ _ _ _ k2')
  have k2'' : Xi (m + k - m) s2 v2 x2 := by rw [show m + k - m = k by omega]; exact k2
  obtain ⟨z, kx, hz⟩ := hC2 s1 v1 s2 v2 k1 k2''
  have eC := t10 (sC2 _ _ _ _ kx)
  have hl1 := hv1.len
  have hl2 := hv2.len
  have hlv : (v1 ++ v2).length = m + k := by rw [List.length_append, hl1, hl2]
  have hsel : (KQ (v1 ++ v2) (m + k)).length = m + k := by rw [G0, hlv]
  have B4 : Bn 4 ≤ 31000 := WR (by decide)
  have srt := S3 (w := v1 ++ v2) (by omega)
  rw [hlv] at srt
  refine jP (bN hr (bN eC (bN eA (bN eB (bN (a := false) rfl (bN (a := (m + k, KQ (v1 ++ v2) (m + k))) ?_ (bN (a := true) ?_ rfl)))))))
  · show (qc _ _ _ _ _ _).run = _
    have hT : iU ((qc 0 m v1 k v2 false).run) fun x => x = .inl (m + k, KQ (v1 ++ v2) (m + k)) := by
      refine aJ ?_
      unfold qc
      have e1 : List.take m (List.take m v1) ++ List.take k v2 = v1 ++ v2 := by
        rw [← hl1, ← hl2, List.take_length, List.take_length, List.take_length]
      rw [e1, srt]
      simp only [vk, vx, List.length_take]
      simp only [T.wp, Sum.elim_inl, Sum.elim_inr, decide_eq_true_eq, decide_eq_false_iff_not, ap, aP, aQ, au, ax, am, aB, ah, List.length_set, List.length_replicate, beq_iff_eq, beq_eq_false_iff_ne, bne_iff_ne, bne_eq_false_iff_eq, Bool.not_eq_true', Bool.not_eq_false', ne_eq, ak, Int.toNat_natCast]
      exact ⟨fun q => (by cases q), fun _ => (by ((repeat' (first | with_reducible assumption | (refine And.intro ?_ ?_) | intro _)) <;> (try (first | omega | with_reducible assumption | exact rfl | exact True.intro))))⟩
    obtain ⟨y, hy, rfl⟩ := hT
    exact hy
  · show (sQ _ _ _ _ _ _ _ _).run = _
    unfold sQ
    rw [dX hsel, QQ (by omega)]
    exact JO (qI (ap.2 (by omega)) (T.at (by simp) (qI (QP hsel) (qI (QP hsel) (vX (JO rfl))))))
end Go.Plb.Seat
