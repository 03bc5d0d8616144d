/-
  Part 4 of what the claim leans on: an evaluator of the model, proved sound; the contracts of the functions.
-/
import Derived.Test.YthikcnkmglbbbaaDoorA3
namespace Go.Plb.Seat
open Go Go.Plb
set_option linter.unusedSimpArgs false
set_option linter.unusedVariables false
theorem VT:∀ z:Fin 64,List.getD aD (2^z.val*285870213051353865%W/2^58) 0=(z.val:Int)∧2^z.val*285870213051353865%W/2^58<64:=by decide +kernel
theorem UR:List.length aD=64:=by decide +kernel
theorem VU{x:Nat}(h0:x≠0)(h:x<W) :cA .and .u64 (x:Int) (IntKind.u64.wrap ((0:Int)-(x:Int)))=((2^tz x:Nat):Int):=by
  rw [TA h0 h,Ad,Nat.mod_eq_of_lt h,Nat.mod_eq_of_lt (Nat.sub_lt (by decide) (Nat.pos_of_ne_zero h0)),UG h0 h]
theorem US(y:Nat) :Int.fdiv (IntKind.u64.wrap ((y:Int)*(285870213051353865:Int))) (2^(min (Int.toNat (58:Int)) IntKind.u64.bits))=((y*285870213051353865%W/2^58:Nat):Int):=by
  have e:(285870213051353865:Int)=((285870213051353865:Nat):Int):=by omega
  rw [e,sm]
  exact te _ (k:=58) (by decide)
theorem VV{z:Nat}(h:z<64) :IntKind.i64.wrap ((z:Nat):Int)=((z:Nat):Int):=by
  have:∀ z:Fin 64,IntKind.i64.wrap ((z.val:Nat):Int)=((z.val:Nat):Int):=by decide
  exact this ⟨z,h⟩
theorem VW{x:Nat}(h0:x≠0)(h:x<W) :∃ y:Nat,Int.fdiv (IntKind.u64.wrap ((cA .and .u64 (x:Int) (IntKind.u64.wrap ((0:Int)-(x:Int))))*(285870213051353865:Int))) (2^(min (Int.toNat (58:Int)) IntKind.u64.bits))=(y:Int)∧List.getD aD y 0=((tz x:Nat):Int)∧y<64:=by
  have hz:=LK (n:=64) h0 h
  obtain ⟨t1,t2⟩:=VT ⟨tz x,hz⟩
  exact ⟨_,by rw [VU h0 h,US],t1,t2⟩
theorem wJ{x:Nat}(h0:x≠0)(h:x<W) :bZ (x:Int)=some (.r0 ((tz x:Nat):Int)):=by
  have hz:=LK (n:=64) h0 h
  obtain ⟨y,e,t1,t2⟩:=VW h0 h
  refine bk ?_
  unfold iB
  have ix:fu (fu 0 (Ef (Int.toNat (y:Int)) 1)) 0=y:=by simp only [gN,sI,Nat.zero_add,Nat.mul_one,Nat.add_zero,cx]
  rw [e,ix,t1,UR,VV hz]
  refine oD (by rw [beq_eq_false_iff_ne];omega) (bT (by decide) (bT ?_ (bT ?_ rfl)))
  · rw [q9];omega
  · rw [jl];exact t2
theorem TX{v:Nat}(h:v≠0) :∃ i,i<nl v∧v%W^i=0∧v/W^i%W≠0∧tz v=64*i+tz (v/W^i%W):=by
  obtain ⟨h1,h2⟩:=tf v h
  have e:2^tz v=2^(tz v%64)*W^(tz v/64):=Im _
  have h3:v%W^(tz v/64)=0:=by
    have d:W^(tz v/64) ∣ v:=Nat.dvd_trans ⟨2^(tz v%64),by rw [Nat.mul_comm];exact e⟩ (Nat.dvd_of_mod_eq_zero h1)
    exact Nat.mod_eq_zero_of_dvd d
  have hb:v=v/W^(tz v/64)*W^(tz v/64):=(Nat.div_mul_cancel (Nat.dvd_of_mod_eq_zero h3)).symm
  have h5:v/W^(tz v/64)≠0:=by intro q;rw [q,Nat.zero_mul] at hb;exact h hb
  have key:tz (v/W^(tz v/64))=tz v%64:=by
    have q:=OT h5 (64*(tz v/64))
    have w:2^(64*(tz v/64))=W^(tz v/64):=by rw [Nat.pow_mul]
    rw [w,←hb] at q
    omega
  obtain ⟨k1,k2⟩:=tf _ h5
  rw [key] at k1 k2
  have hr:tz v%64<64:=Nat.mod_lt _ (by decide)
  have e64:W=2^(tz v%64)*2^(64-tz v%64):=by rw [←Nat.pow_add];show 2^64=_;congr 1;omega
  have l1:(v/W^(tz v/64)%W)%2^(tz v%64)=0:=by
    revert k1;generalize v/W^(tz v/64)=y;intro k1;rw [e64,Nat.mod_mul_right_mod];exact k1
  have l2:(v/W^(tz v/64)%W)/2^(tz v%64)%2=1:=by
    have a:2^(64-tz v%64)=2*2^(63-tz v%64):=by rw [show 64-tz v%64=(63-tz v%64)+1 by omega,Nat.pow_succ,Nat.mul_comm]
    revert k2;generalize v/W^(tz v/64)=y;intro k2;rw [e64,Nat.mod_mul_right_div_self,a,Nat.mod_mul_right_mod];exact k2
  have l3:v/W^(tz v/64)%W≠0:=by intro q;rw [q,Nat.zero_div] at l2;exact absurd l2 (by decide)
  refine ⟨tz v/64,?_,h3,l3,?_⟩
  · rcases Nat.lt_or_ge (tz v/64) (nl v) with q | q
    · exact q
    · exfalso;apply l3
      rw [Nat.div_eq_of_lt (Nat.lt_of_lt_of_le (cC v) (Nat.pow_le_pow_right (by decide) q)),Nat.zero_mod]
  · rw [BD l1 l2];omega
theorem Qq{v n:Nat}(hv:v<W^n)(h0:v≠0)(hn:nl v≤4096)(hn2:n≤1000000) :oN (az v n)=some (.r0 ((tz v:Nat):Int) 0):=by
  have hl:=gu hv
  have hp:=yS h0
  obtain ⟨i,h1,h2,h3,h4⟩:=TX h0
  have hW:v/W^i%W<W:=Nat.mod_lt _ (by decide)
  have hz:=LK (n:=64) h3 hW
  refine bk (ae (a:=(0,az v n,nl v)) ?_ (ae (a:=false) (aO (by show some _=_;congr 2;rw [beq_eq_false_iff_ne];omega)) (ae (a:=()) (aO rfl) (ae (a:=i) (dO (fun j=>j) i rfl (fun j hj=>?_) ?_) (ae (a:=((tz v:Nat):Int)) ?_ rfl)))))
  · unfold x7
    rw [aW,fD hv (by omega)]
    simp only [bz,aA,ao]
    exact cB (au (dk (au (cv (au (aO rfl))))))
  · have z:lm v j=0:=by
      unfold lm
      obtain ⟨d,rfl⟩:∃ d,i=j+1+d:=⟨i-j-1,by omega⟩
      have dv:W^(j+1+d) ∣ v:=Nat.dvd_of_mod_eq_zero h2
      obtain ⟨c,hc⟩:=dv
      have:v=(W^d*c*W)*W^j:=by
        rw [hc,Nat.pow_add,Nat.pow_succ];simp only [Nat.mul_assoc,Nat.mul_comm,Nat.mul_left_comm]
      rw [this,Nat.mul_div_cancel _ (dP j),Nat.mul_mod_left];rfl
    show (kf _ _ _).run=_
    unfold kf
    rw [cq hv,z,ay]
    exact ag (ag (cB (ag rfl)))
  · show (kf _ _ _).run=_
    unfold kf
    rw [cq hv,rI,ay]
    refine ag (ag (oD (by rw [beq_eq_false_iff_ne];omega) rfl))
  · unfold x8
    rw [cq hv,rI,ay,wJ h3 hW]
    simp only [cE,cr]
    have e:(((64*i:Nat):Int)+((tz (v/W^i%W):Nat):Int))=((tz v:Nat):Int):=by rw [h4,Int.natCast_add]
    rw [e]
    exact ag (ag (ag (au (bT (by rw [dp];omega) rfl))))
theorem Qr(k:Nat) :Int.tdiv (k:Int) (64:Int)=((k/64:Nat):Int):=rfl
theorem Qs(k:Nat) :IntKind.u64.wrap (Int.tmod (k:Int) (64:Int))=((k%64:Nat):Int):=by
  rw [show Int.tmod (k:Int) (64:Int)=((k%64:Nat):Int) from rfl,yU (Nat.lt_trans (Nat.mod_lt k (by decide:64>0)) (by decide))]
theorem TY{v n k:Nat}(hv:v<W^n)(h0:n≠0)(hn:n≤1000000)(hk:k≤1000000) :
    dh (az v n) (k:Int)=some (.r0 0 (nl (v*2^k)) (n+k/64+1) (az (v*2^k) (n+k/64+1))):=by
  have hr:k%64<64:=Nat.mod_lt _ (by decide)
  have hq:k/64≤1000000:=by omega
  have hsh:=TD (k:=k) hv
  refine bk (ae (a:=(((k/64:Nat):Int),((k%64:Nat):Int),n+k/64+1,az 0 (n+k/64+1))) ?_ (ae (a:=az (v*2^k) (n+k/64+1)) (dO (fun i=>(i,az (v%W^i*2^(k%64)*W^(k/64)) (n+k/64+1))) n (by simp [Nat.mod_one]) (fun i hi=>?_) ?_) (ae (a:=(0,nl (v*2^k),n+k/64+1,az (v*2^k) (n+k/64+1))) ?_ rfl)))
  · unfold CV
    rw [ay,Qr,Qs]
    have e:(((n:Nat):Int)+((k/64:Nat):Int))+(1:Int)=((n+k/64+1:Nat):Int):=by omega
    rw [e,cx,BC]
    exact cv (ag (ag (au (ag (ag (ag (ag (ag (ag rfl)))))))))
  · show aH (ri _ _ _ _ _ _).run _=_
    refine ae (a:=az (v%W^(i+1)*2^(k%64)*W^(k/64)) (n+k/64+1)) ?_ (ag rfl)
    unfold ri
    have e1:Int.toNat (((i:Nat):Int)+((k/64:Nat):Int))=i+k/64:=rfl
    have e2:Int.toNat ((((i:Nat):Int)+((k/64:Nat):Int))+(1:Int))=i+k/64+1:=rfl
    rw [e1,e2,cq hv,rI,JG _ (by omega),E9 hr,show (1:Int)=((1:Nat):Int) from rfl,te _ (by decide),te _ (by omega),Nat.pow_one,TB hr (by omega),ay]
    simp only [List.length_set,ay]
    exact dF (ag (ag (ag (ag (ag (ag (ag (ag (ag (ag (ag (ag (ag (ag (ag (ag rfl))))))))))))))))
  · show aH (ri _ _ _ _ _ _).run _=_
    refine bN (oD (by rw [ay];exact (by simp only [dp,q9,se,jl,jm,dZ,jM,jN,decide_eq_true_eq,decide_eq_false_iff_not,beq_iff_eq,beq_eq_false_iff_ne,bne_iff_ne,bne_eq_false_iff_eq,Bool.not_eq_true',Bool.not_eq_false',List.length_set,ne_eq,ge_iff_le,gt_iff_lt,eB,cx,mX];omega)) ?_)
    rw [Nat.mod_eq_of_lt hv,Nat.mul_assoc,←Im];rfl
  · unfold CW
    rw [qF hsh (by omega)]
    exact au rfl
theorem Qt{v n:Nat}(h:v<W^n)(hn:n≤100000000)(hb:nl v≤4096) :gJ (az v n)=some (.r0 (az v n) (nl v) 0):=by
  refine bk (ae (a:=(az v n,nl v)) ?_ (cv rfl))
  unfold v6
  rw [aW,fD h (by omega)]
  exact dk (au rfl)
theorem TZ{v n k:Nat}(hv:v<W^n)(h0:v≠0)(hn:n≤1000000)(hk:k<262144)(hl:nl v≤4096)(hb:nl (v*2^k)≤4096) :
    eO (az v n) (k:Int)=some (.r0 (az (v*2^k) (nl (v*2^k))) (nl (v*2^k)) 0):=by
  have hp:=yS h0
  have hln:=gu hv
  refine bk (ae (a:=(0,az v n,nl v)) ?_ (ae (a:=()) ?_ (ae (a:=(az (v*2^k) (nl (v*2^k)),nl (v*2^k),0)) ?_ rfl)))
  · unfold FO
    rw [aW,fD hv (by omega)]
    simp only [bz,aA,ao]
    exact cB (au (dk (au (cv (au (aO rfl))))))
  · exact aO (cv (dF (cv rfl)))
  · have hsl:=TD (k:=k) (cC v)
    have hls:=gu hsl
    show (zf _ _ _).run=_
    unfold zf
    rw [aR hln,TY (cC v) (by omega) (by omega) (by omega)]
    simp only [qu,gC,gD,gE]
    rw [aR hls,Qt (cC _) (by omega) hb]
    exact bT (aI hln) (au (bT (aI hls) (au rfl)))
theorem T1{v n k:Nat}(hv:v<W^n)(hn:n≤1000000)(hk:k≤100000000) :
    ∃ b N,lC (az v n) (k:Int)=some (.r0 0 (nl (v/2^k)) N b (az (v/2^k) N))∧nl (v/2^k)≤N∧N≤n:=by
  have hr:k%64<64:=Nat.mod_lt _ (by decide)
  have hq:k/64≤10000000:=by omega
  rcases Nat.lt_or_ge (k/64) n with hlt | hge
  · have hs:=VI (k:=k) hv (Nat.le_of_lt hlt)
    have hls:=gu hs
    let f0:=((cA .and .u64 (List.getD (az v n) (Int.toNat (Int.tdiv (k:Int) (64:Int))) 0) (IntKind.u64.wrap ((IntKind.u64.wrap ((1:Int)*2^(min (Int.toNat (IntKind.u64.wrap (Int.tmod (k:Int) (64:Int)))) (IntKind.u64.bits))))-(1:Int)))) != (0:Int))
    let f:Nat→Bool:=fun j=>Nat.rec (motive:=fun _=>Bool) f0 (fun j b=>b||(lm v j != (0:Int))) j
    refine ⟨f (k/64),n-k/64,bk (ae (a:=(((k/64:Nat):Int),((k%64:Nat):Int),f0,k/64,k/64)) ?_ (ae (a:=f (k/64)) (dO (fun j=>(f j,j)) (k/64) rfl (fun j hj=>?_) ?_) (ae (a:=(n-k/64,n-k/64,List.replicate (n-k/64) (0:Int))) ?_ (ae (a:=az (v/2^k) (n-k/64)) (dO (fun i=>(i,gk (fun j=>if j<i then lm (v/2^k) j else 0) (n-k/64))) (n-k/64) (by simp only [uw];congr 1) (fun i hi=>?_) ?_) (ae (a:=(0,nl (v/2^k),n-k/64,az (v/2^k) (n-k/64))) ?_ rfl))))),hls,Nat.sub_le _ _⟩
    · unfold v7
      have e:=Qr k
      refine au (bT (by rw [e];exact (by simp only [dp,q9,se,jl,jm,dZ,jM,jN,decide_eq_true_eq,decide_eq_false_iff_not,beq_iff_eq,beq_eq_false_iff_ne,bne_iff_ne,bne_eq_false_iff_eq,Bool.not_eq_true',Bool.not_eq_false',List.length_set,ne_eq,ge_iff_le,gt_iff_lt,eB,cx,mX];omega)) (au (oD (by rw [e,ay];exact (by simp only [dp,q9,se,jl,jm,dZ,jM,jN,decide_eq_true_eq,decide_eq_false_iff_not,beq_iff_eq,beq_eq_false_iff_ne,bne_iff_ne,bne_eq_false_iff_eq,Bool.not_eq_true',Bool.not_eq_false',List.length_set,ne_eq,ge_iff_le,gt_iff_lt,eB,cx,mX];omega)) (bT (by rw [e,ay];exact (by simp only [dp,q9,se,jl,jm,dZ,jM,jN,decide_eq_true_eq,decide_eq_false_iff_not,beq_iff_eq,beq_eq_false_iff_ne,bne_iff_ne,bne_eq_false_iff_eq,Bool.not_eq_true',Bool.not_eq_false',List.length_set,ne_eq,ge_iff_le,gt_iff_lt,eB,cx,mX];omega)) (bT (by rw [e,ay];exact (by simp only [dp,q9,se,jl,jm,dZ,jM,jN,decide_eq_true_eq,decide_eq_false_iff_not,beq_iff_eq,beq_eq_false_iff_ne,bne_iff_ne,bne_eq_false_iff_eq,Bool.not_eq_true',Bool.not_eq_false',List.length_set,ne_eq,ge_iff_le,gt_iff_lt,eB,cx,mX];omega)) (bT (by rw [Qs];exact (by simp only [dp,q9,se,jl,jm,dZ,jM,jN,decide_eq_true_eq,decide_eq_false_iff_not,beq_iff_eq,beq_eq_false_iff_ne,bne_iff_ne,bne_eq_false_iff_eq,Bool.not_eq_true',Bool.not_eq_false',List.length_set,ne_eq,ge_iff_le,gt_iff_lt,eB,cx,mX];omega)) (bT (by rw [e,ay];exact (by simp only [dp,q9,se,jl,jm,dZ,jM,jN,decide_eq_true_eq,decide_eq_false_iff_not,beq_iff_eq,beq_eq_false_iff_ne,bne_iff_ne,bne_eq_false_iff_eq,Bool.not_eq_true',Bool.not_eq_false',List.length_set,ne_eq,ge_iff_le,gt_iff_lt,eB,cx,mX];omega)) (bT (by rw [e];exact (by simp only [dp,q9,se,jl,jm,dZ,jM,jN,decide_eq_true_eq,decide_eq_false_iff_not,beq_iff_eq,beq_eq_false_iff_ne,bne_iff_ne,bne_eq_false_iff_eq,Bool.not_eq_true',Bool.not_eq_false',List.length_set,ne_eq,ge_iff_le,gt_iff_lt,eB,cx,mX];omega)) ?_))))))))
      show some (Sum.inl (_,IntKind.u64.wrap _,f0,_,_))=_
      rw [Qs];rfl
    · show aH (rj _ _ _ _ _).run _=_
      refine ae (a:=f (j+1)) ?_ (ag rfl)
      unfold rj
      rw [cq hv,ay]
      refine dF (ag (ag ?_))
      have hf:f (j+1)=(f j||(lm v j != (0:Int))):=rfl
      rw [hf]
      cases f j
      · exact aO rfl
      · exact cB rfl
    · show aH (rj _ _ _ _ _).run _=_
      exact bN (cv rfl)
    · show (v9 _ _).run=_
      unfold v9
      have e:((n:Nat):Int)-((k/64:Nat):Int)=((n-k/64:Nat):Int):=by omega
      rw [ay,e]
      exact ag (ag (ag (ag (ag rfl))))
    · show aH (rm _ _ _ _ _ _ _).run _=_
      refine ae (a:=gk (fun j=>if j<i+1 then lm (v/2^k) j else 0) (n-k/64)) ?_ (ag rfl)
      have e1:Int.toNat (((i:Nat):Int)+((k/64:Nat):Int))=i+k/64:=rfl
      have e2:Int.toNat ((((i:Nat):Int)+((k/64:Nat):Int))+(1:Int))=i+k/64+1:=rfl
      obtain ⟨w1,w2⟩:=Tz (V:=v/W^(i+k/64)) hr
      have hV:v/W^(i+k/64)/W=v/W^(i+k/64+1):=by rw [Nat.pow_succ,Nat.div_div_eq_div_mul]
      have fin:∀ x:Int,x=lm (v/2^k) i→(gk (fun j=>if j<i then lm (v/2^k) j else 0) (n-k/64)).set i x=gk (fun j=>if j<i+1 then lm (v/2^k) j else 0) (n-k/64):=by
        intro x hx
        rw [lA hi]
        refine bV fun j hj=>?_
        by_cases e:j=i
        · subst e;rw [if_pos rfl,if_pos (Nat.lt_succ_self _),hx]
        · rw [if_neg e]
          by_cases e':j<i
          · rw [if_pos e',if_pos (by omega)]
          · rw [if_neg e',if_neg (by omega)]
      unfold rm
      rw [e1,e2,cq hv,cq hv,rI,rI,te _ (by omega),E9 hr,show (1:Int)=((1:Nat):Int) from rfl,JG _ (by decide),JG _ (by omega),Nat.pow_one]
      simp only [List.length_set,ay,de,List.set_set]
      by_cases hlast:i+k/64+1<n
      · refine dF (ag (ag (ag (ag (ag (ag (ag (ag (dF (ag (ag (ag (ag (ag (ag (au (ag (ag (ag ?_)))))))))))))))))))
        show some (Sum.inl _)=_
        congr 2
        refine fin _ ?_
        rw [List.getD_eq_getElem?_getD,List.getElem?_set_self (by rw [de];exact hi)]
        show cA .or .u64 _ _=_
        have m1:v/W^(i+k/64)%W/2^(k%64)%W=v/W^(i+k/64)%W/2^(k%64):=Nat.mod_eq_of_lt (Nat.lt_of_le_of_lt (Nat.div_le_self _ _) (Nat.mod_lt _ (by decide)))
        show cA .or .u64 ((v/W^(i+k/64)%W/2^(k%64):Nat):Int) _=_
        rw [JF,m1,Nat.mod_mod,←hV,w2,←w1,TC]
      · refine dF (ag (ag (ag (ag (ag (ag (ag (ag (cv ?_)))))))))
        show some (Sum.inl _)=_
        congr 2
        refine fin _ ?_
        have z:v/W^(i+k/64)/W=0:=by
          rw [hV];exact Nat.div_eq_of_lt (Nat.lt_of_lt_of_le hv (Nat.pow_le_pow_right (by decide) (by omega)))
        rw [z] at w1
        rw [TC,w1]
        simp
    · show aH (rm _ _ _ _ _ _ _).run _=_
      refine bN (cv ?_)
      show some (Sum.inr (Sum.inl _))=_
      congr 3
      exact bV fun j hj=>if_pos hj
    · unfold CZ
      rw [qF hs (by omega)]
      exact au rfl
  · have hz:=TE hv hge
    refine ⟨decide (((n:Nat):Int)>(0:Int)),0,?_,by rw [hz,gh];exact Nat.le_refl 0,Nat.zero_le _⟩
    refine bk (bN ?_)
    unfold v7
    rw [Qr,ay,hz,gh]
    exact au (ag (au (dF rfl)))
theorem T3{v n k:Nat}(hv:v<W^n)(hn:n≤1000000)(hl:nl v≤4096)(hk:k≤100000000) :
    ∃ b N,nJ (az v n) (k:Int)=some (.r0 (az (v/2^k) N) 0 (nl (v/2^k)) b 0)∧nl (v/2^k)≤N∧N≤4096:=by
  have hln:=gu hv
  obtain ⟨b,N,h1,h2,h3⟩:=T1 (k:=k) (cC v) (by omega) hk
  refine ⟨b,N,bk (ae (a:=(0,az v n,nl v)) ?_ (ae (a:=false) ?_ (ae (a:=(az (v/2^k) N,0,nl (v/2^k),b)) ?_ rfl))),h2,by omega⟩
  · unfold FS
    rw [aW,fD hv (by omega)]
    simp only [bz,aA,ao]
    exact cB (au (dk (au (cv (au (aO rfl))))))
  · refine aO ?_
    show some (Sum.inl (decide (((k:Nat):Int)<0)))=_
    rw [decide_eq_false (by omega)]
  · show (zi _ _ _ _).run=_
    unfold zi
    rw [aR hln,h1]
    exact aO (bT (aI hln) (au rfl))
theorem lq(s:Bool){v n:Nat}(hv:v<W^n)(hn:n≤1000000)(hl:nl v≤4096){e:Int}(he : -1000000≤e∧e≤1000000) :
    ∃ N,ah s (az v n) e=some (.r0 (nS (sg s v)) (az (nM (sg s v)) N) 0 (nl (nM (sg s v))) (nE (sg s v) e))∧nl (nM (sg s v))≤N∧N≤4096:=by
  have t5:(tS (az v n)).run=some (.inl (az v (nl v),nl v,false)):=by
    unfold tS
    rw [aW,IS hv (by omega),if_neg (by omega)]
    exact dk (au rfl)
  by_cases h0:v=0
  · have z:sg s v=0:=xh.2 h0
    rw [z,gv,JK]
    rw [jO,gh]
    refine ⟨0,bk (ae t5 (bN ?_)),Nat.le_refl _,Nat.zero_le _⟩
    rw [h0,gh]
    exact cB rfl
  · have z:sg s v≠0:=fun q=>h0 (xh.1 q)
    have hp:=yS h0
    have ht:=TF (v:=v)
    obtain ⟨b,N,h1,h2,h3⟩:=T3 (k:=tz v) (cC v) (by omega) hl (by omega)
    have eM:nM (sg s v)=v/2^tz v:=by unfold nM;rw [tg]
    have eE:nE (sg s v) e=e+((tz v:Nat):Int):=by rw [iW z,tg]
    rw [Ws h0,eM,eE]
    refine ⟨N,bk (ae t5 (ae (a:=((tz v:Nat):Int)) ?_ (ae (a:=(az (v/2^tz v) N,0,nl (v/2^tz v))) ?_ ?_))),h2,h3⟩
    · show (tT _ _).run=_
      unfold tT
      rw [ez ay,Qq (cC v) h0 hl (by omega)]
      exact cv (jY (au rfl))
    · show (tU _ _ _).run=_
      unfold tU
      rw [ez ay,h1]
      exact jY (au rfl)
    · exact bT (by rw [dp];omega) rfl
theorem NT{v n:Nat}(hv:v<W^n)(hn:n≤1000000)(hl:nl v≤4096){e:Int}(he : -262144≤e∧e≤262144) :ct (az v n) e=some (.r0 true):=by
  refine bk (ae (a:=0) ?_ (ae (a:=true) ?_ rfl))
  · unfold C7
    rw [aW,IS hv (by omega),if_neg (by omega)]
    exact dk (au rfl)
  · refine cB (dF ?_)
    show some (Sum.inl (decide (e≤262144)))=_
    rw [decide_eq_true he.2]
theorem um{z e:Int}{s:Bool}(hs:z≠0→s=nS z)(h:Sm z e) :∃ N,ah s (az (nM z) (nl (nM z))) (nE z e)=some (.r0 (nS z) (az (nM z) N) 0 (nl (nM z)) (nE z e))∧nl (nM z)≤N∧N≤4096:=by
  have hm:=h.m
  have hb:=h.b
  obtain ⟨N,h1,h2,h3⟩:=lq s (cC (nM z)) (by omega) (by omega:nl (nM z)≤4096) (e:=nE z e) (by omega)
  obtain ⟨a,b,c⟩:=LL (e:=e) hs
  rw [a,b,c] at h1
  rw [b] at h2
  exact ⟨N,h1,h2,h3⟩
theorem zt{z e:Int}(h:Sm z e) :ct (az (nM z) (nl (nM z))) (nE z e)=some (.r0 true):=by
  have hm:=h.m
  have hb:=h.b
  exact NT (cC (nM z)) (by omega) (by omega) (by omega)
theorem zu(s:Bool){v n:Nat}(hv:v<W^n)(hn:n≤1000000)(hl:nl v≤1000){e:Int}(he : -150000≤e∧e≤150000) :
    ∃ N,bA s (az v n) e=some (.r0 0 (nS (sg s v)) (az (nM (sg s v)) N) 0 (nl (nM (sg s v))) (nE (sg s v) e))∧nl (nM (sg s v))≤N∧N≤4096:=by
  obtain ⟨N,h1,h2,h3⟩:=lq s hv hn (by omega) (e:=e) (by omega)
  have ht:=TF (v:=v)
  have hE' : -262144≤nE (sg s v) e∧nE (sg s v) e≤262144:=by
    unfold nE;rw [tg];split<;>omega
  obtain ⟨hE',hE⟩:=hE'
  refine ⟨N,bk (ae (a:=(nS (sg s v),az (nM (sg s v)) N,0,nl (nM (sg s v)),nE (sg s v) e,false)) ?_ (ae (a:=false) ?_ rfl)),h2,h3⟩
  · unfold Ay
    rw [aW,h1]
    exact dk (au rfl)
  · show (tW _ _ _ _).run=_
    unfold tW
    rw [aR h2,NT (cC _) (by omega) (by omega) ⟨hE',hE⟩]
    exact bT (aI h2) (au rfl)
theorem AY{z:Int}{m:Nat}(h:m≤tz z.natAbs) :nM z*2^(tz z.natAbs-m)=z.natAbs/2^m∧z.natAbs/2^m*2^m=z.natAbs:=by
  have b:=Re z
  have e:tz z.natAbs=(tz z.natAbs-m)+m:=by omega
  have d:z.natAbs/2^m*2^m=z.natAbs:=by
    refine Nat.div_mul_cancel ⟨nM z*2^(tz z.natAbs-m),?_⟩
    rw [e,Nat.pow_add,←Nat.mul_assoc] at b
    rw [Nat.mul_comm (2^m)];exact b.symm
  refine ⟨?_,d⟩
  rw [e,Nat.pow_add,←Nat.mul_assoc] at b
  exact (Nat.div_eq_of_eq_mul_left (jn m) b.symm).symm
theorem xv{z e:Int}{m:Nat}(h:Sm z e)(h0:z≠0)(hm:m≤tz z.natAbs){k:Int}(hk:k=((tz z.natAbs-m:Nat):Int)) :
    eO (az (nM z) (nl (nM z))) k=some (.r0 (az (z.natAbs/2^m) (nl (z.natAbs/2^m))) (nl (z.natAbs/2^m)) 0):=by
  obtain ⟨e1,e2⟩:=AY hm
  have ht:=h.t
  have hM:=h.m
  have hN:nl (z.natAbs/2^m)≤300:=Nat.le_trans (pD (Nat.div_le_self _ _)) h.l
  rw [hk,TZ (cC _) (Fa h0) (by omega) (by omega) (by omega) (by rw [e1];omega),e1]
theorem UT{a b:Int}(h:a≤b) :qJ a b=a:=by unfold qJ;rw [if_neg (by omega)]
theorem Rm{a b:Int}(h:b≤a) :qJ a b=b:=by
  unfold qJ
  by_cases q:b<a
  · rw [if_pos q]
  · rw [if_neg q];omega
theorem Rn{a b:Int}(h:a≤b) :ry a b=b:=by
  unfold ry
  by_cases q:b>a
  · rw [if_pos q]
  · rw [if_neg q];omega
theorem UU{a b:Int}(h:b≤a) :ry a b=a:=by unfold ry;rw [if_neg (by omega)]
structure WP (x y e:Int) (m:Nat) (ep:Int):Prop where
  x2:x.natAbs/2^m*2^m=x.natAbs
  y2:y.natAbs/2^m*2^m=y.natAbs
  at':(x=0∧y=0∧ep=0)∨ep=e+m
  b : -50000≤ep∧ep≤94800
theorem WP.sum{x y e ep:Int}{m:Nat}(h:WP x y e m ep){z z':Int}(hz:z=z'*((2^m:Nat):Int))(h0:x=0→y=0→z'=0) :nS z=nS z'∧nM z=nM z'∧nE z e=nE z' ep:=by
  obtain ⟨a,b,c⟩:=vM hz e
  refine ⟨a,b,?_⟩
  rcases h.at' with ⟨h1,h2,h3⟩ | h1
  · have:=h0 h1 h2
    subst this
    rw [Int.zero_mul] at hz
    rw [hz,gv,gv]
  · rw [c,h1]
theorem GD{x y e:Int}(hx:Sm x e)(hy:Sm y e) :∃ m ep,bW (az (nM x) (nl (nM x))) (nE x e) (az (nM y) (nl (nM y))) (nE y e) =
    some (.r0 0 ep (az (x.natAbs/2^m) (nl (x.natAbs/2^m))) (nl (x.natAbs/2^m)) (az (y.natAbs/2^m) (nl (y.natAbs/2^m))) (nl (y.natAbs/2^m)))∧WP x y e m ep:=by
  have hxt:=hx.t
  have hyt:=hy.t
  obtain ⟨_,e1,e2⟩:=hx
  have zn:∀ m,((0:Int).natAbs/2^m)=0:=fun m=>by rw [Int.natAbs_zero,Nat.zero_div]
  by_cases h1:x=0
  · subst h1
    have l0:nl (nM 0)=0:=by rw [jO,gh]
    by_cases h2:y=0
    · subst h2
      refine ⟨0,0,bk (ae (a:=0) ?_ (ae (a:=([],0,[],0)) ?_ ?_)),⟨by simp,by simp,.inl ⟨rfl,rfl,rfl⟩,by omega⟩⟩
      · unfold kg;rw [ay,l0,gv];exact cB rfl
      · unfold fP;rw [ay,l0];exact cB (cB rfl)
      · rw [zn,gh];rfl
    · have ly:nl (nM y)≠0:=fun q=>Fa h2 (k9.1 q)
      obtain ⟨_,d⟩:=AY (z:=y) (Nat.le_refl _)
      refine ⟨tz y.natAbs,nE y e,bk (ae (a:=nE y e) ?_ (ae (a:=([],0,az (y.natAbs/2^tz y.natAbs) (nl (y.natAbs/2^tz y.natAbs)),nl (y.natAbs/2^tz y.natAbs))) ?_ ?_)),⟨by simp,d,.inr (iW h2),by rw [iW h2];omega⟩⟩
      · unfold kg;rw [ay,l0];exact cB rfl
      · show (fP _ _ _ _ _).run=_
        unfold fP
        rw [ay,ay,l0,ez ay,xv hy h2 (Nat.le_refl _) (k:=nE y e-nE y e) (by omega)]
        exact cB (cv (bT (by rw [dp];omega) (jY (au rfl))))
      · rw [zn,gh];rfl
  · have lx:nl (nM x)≠0:=fun q=>Fa h1 (k9.1 q)
    by_cases h2:y=0
    · subst h2
      have l0:nl (nM 0)=0:=by rw [jO,gh]
      obtain ⟨_,d⟩:=AY (z:=x) (Nat.le_refl _)
      have hx:Sm x e:=⟨by assumption,e1,e2⟩
      refine ⟨tz x.natAbs,nE x e,bk (ae (a:=nE x e) ?_ (ae (a:=(az (x.natAbs/2^tz x.natAbs) (nl (x.natAbs/2^tz x.natAbs)),nl (x.natAbs/2^tz x.natAbs),[],0)) ?_ ?_)),⟨d,by simp,.inr (iW h1),by rw [iW h1];omega⟩⟩
      · unfold kg;rw [ay,ay,l0];exact cv (cB rfl)
      · show (fP _ _ _ _ _).run=_
        unfold fP
        rw [ay,ay,l0,ez (l:=az (nM x) (nl (nM x))) ay,xv hx h1 (Nat.le_refl _) (k:=nE x e-nE x e) (by omega)]
        exact cv (bT (by rw [dp];omega) (jY (au (cB rfl))))
      · rw [zn,gh];rfl
    · have ly:nl (nM y)≠0:=fun q=>Fa h2 (k9.1 q)
      have hx:Sm x e:=⟨by assumption,e1,e2⟩
      have ex:=iW (e:=e) h1
      have ey:=iW (e:=e) h2
      have emin:qJ (nE x e) (nE y e)=e+((min (tz x.natAbs) (tz y.natAbs):Nat):Int):=by
        rw [ex,ey]
        rcases Nat.le_total (tz x.natAbs) (tz y.natAbs) with q | q
        · rw [UT (by omega),Nat.min_eq_left q]
        · rw [Rm (by omega),Nat.min_eq_right q]
      have emax:ry (nE x e) (nE y e)=e+((max (tz x.natAbs) (tz y.natAbs):Nat):Int):=by
        rw [ex,ey]
        rcases Nat.le_total (tz x.natAbs) (tz y.natAbs) with q | q
        · rw [Rn (by omega),Nat.max_eq_right q]
        · rw [UU (by omega),Nat.max_eq_left q]
      have mx:min (tz x.natAbs) (tz y.natAbs)≤tz x.natAbs:=Nat.min_le_left _ _
      have my:min (tz x.natAbs) (tz y.natAbs)≤tz y.natAbs:=Nat.min_le_right _ _
      have gx:max (tz x.natAbs) (tz y.natAbs)≤44800:=by omega
      have gl:min (tz x.natAbs) (tz y.natAbs)≤max (tz x.natAbs) (tz y.natAbs):=by omega
      revert emin emax mx my gx gl
      generalize min (tz x.natAbs) (tz y.natAbs)=m
      generalize max (tz x.natAbs) (tz y.natAbs)=g
      intro emin emax mx my gx gl
      obtain ⟨_,dx⟩:=AY mx
      obtain ⟨_,dy⟩:=AY my
      refine ⟨m,e+m,bk (ae (a:=e+(m:Int)) ?_ (ae (a:=(az (x.natAbs/2^m) (nl (x.natAbs/2^m)),nl (x.natAbs/2^m),az (y.natAbs/2^m) (nl (y.natAbs/2^m)),nl (y.natAbs/2^m))) ?_ rfl)),⟨dx,dy,.inr rfl,by omega⟩⟩
      · unfold kg
        rw [ay,ay,emin,emax]
        exact cv (cv (bT (by rw [dp];omega) (oD (by rw [decide_eq_false_iff_not];omega) rfl)))
      · show (fP _ _ _ _ _).run=_
        unfold fP
        rw [ay,ay,ez (l:=az (nM x) (nl (nM x))) ay,ez (l:=az (nM y) (nl (nM y))) ay,xv hx h1 mx (k:=nE x e-(e+(m:Int))) (by omega),xv hy h2 my (k:=nE y e-(e+(m:Int))) (by omega)]
        exact cv (bT (by rw [dp];omega) (jY (au (cv (bT (by rw [dp];omega) (jY (au rfl)))))))
theorem Cj(s:Bool){v n:Nat}(hv:v<W^n)(hn:n≤1000000)(hl:nl v≤1000){e:Int}(he : -150000≤e∧e≤150000) :
    ∃ N,bu s (az v n) 0 e=some (.r0 0 (nS (sg s v)) (az (nM (sg s v)) N) 0 (nl (nM (sg s v))) (nE (sg s v) e))∧nl (nM (sg s v))≤N∧N≤4096:=by
  obtain ⟨N,h1,h2,h3⟩:=zu s hv hn hl he
  refine ⟨N,bk (ae (a:=(0,nS (sg s v),az (nM (sg s v)) N,0,nl (nM (sg s v)),nE (sg s v) e)) ?_ rfl),h2,h3⟩
  unfold ya
  rw [aW,h1]
  exact aO (dk (au rfl))
theorem IU{x y e:Int}{s t:Bool}(hs:x≠0→s=nS x)(ht:y≠0→t=nS y)(hx:Sm x e)(hy:Sm y e) :
    ∃ N,bK s (az (nM x) (nl (nM x))) (nE x e) t (az (nM y) (nl (nM y))) (nE y e)=some (.r0 0 (nS (x+y)) (az (nM (x+y)) N) 0 (nl (nM (x+y))) (nE (x+y) e))∧nl (nM (x+y))≤N∧N≤4096:=by
  obtain ⟨Nx,x1,x2,x3⟩:=um hs hx
  obtain ⟨Ny,y1,y2,y3⟩:=um ht hy
  obtain ⟨m,ep,l1,l2⟩:=GD hx hy
  have xl:=hx.l
  have yl:=hy.l
  have hX:nl (x.natAbs/2^m)≤300:=Nat.le_trans (pD (Nat.div_le_self _ _)) xl
  have hY:nl (y.natAbs/2^m)≤300:=Nat.le_trans (pD (Nat.div_le_self _ _)) yl
  have ox:=Vm l2.x2
  have oy:=Vm l2.y2
  have z0:∀ {z:Int},z=0→z.natAbs/2^m=0:=fun h=>by rw [h,Int.natAbs_zero,Nat.zero_div]
  have zx:x=0→x.natAbs/2^m=0:=z0
  have zy:y=0→y.natAbs/2^m=0:=z0
  have hb:=l2.b
  have t9:(wi s (az (nM x) (nl (nM x))) (nE x e) t (az (nM y) (nl (nM y))) (nE y e)).run=some (.inl (0,nS x,az (nM x) Nx,0,nl (nM x),nE x e,nS y,az (nM y) Ny,0,nl (nM y),nE y e,false)):=by
    unfold wi
    rw [aW,aW,zt hx,zt hy,x1,y1]
    exact cB (au (dk (au (aO (dk (au (au (cB (au (dk (au (aO (dk (au (au (aO rfl))))))))))))))))
  have t10:(tY 0 (az (nM x) Nx) 0 (nl (nM x)) (nE x e) (az (nM y) Ny) 0 (nl (nM y)) (nE y e)).run=some (.inl (0,ep,az (x.natAbs/2^m) (nl (x.natAbs/2^m)),nl (x.natAbs/2^m),az (y.natAbs/2^m) (nl (y.natAbs/2^m)),nl (y.natAbs/2^m))):=by
    unfold tY
    rw [aR x2,aR y2,l1]
    exact aO (bT (aI x2) (bT (aI y2) (au rfl)))
  clear l1 x1 y1
  have sum:=fun {z z':Int} (a:z=z'*((2^m:Nat):Int)) (b:x=0→y=0→z'=0)=>l2.sum a b
  revert t10 hX hY ox oy zx zy
  generalize x.natAbs/2^m=X
  generalize y.natAbs/2^m=Y
  intro hX hY ox oy zx zy t10
  have hXY:=OW hX hY
  by_cases hsg:nS x=nS y
  · have hz:x+y=sg (nS x) (X+Y)*((2^m:Nat):Int):=by
      rw [←VL,Int.add_mul,←ox]
      rw [hsg,←oy]
    obtain ⟨a,b,c⟩:=sum hz (fun p q=>by rw [zx p,zy q];cases nS x<;>rfl)
    obtain ⟨N,h1,h2,h3⟩:=Cj (nS x) (v:=X+Y) (cC _) (by omega) (by omega) (e:=ep) (by omega)
    rw [a,b,c]
    refine ⟨N,bk (ae t9 (ae t10 (bN ?_))),h2,h3⟩
    show (mf _ _ _ _ _ _ _ _).run=_
    unfold mf
    have hc:nl (X+Y)≤max (nl X) (nl Y)+1:=OW (Nat.le_max_left _ _) (Nat.le_max_right _ _)
    rw [ez ay,ez ay,TU (cC X) (cC Y) (by omega) (by omega) (by omega) (by omega) (by omega)]
    simp only [qn,ed,ee,fc,eg]
    rw [aR hc,show (((0:Nat):Int))=0 from rfl,h1]
    exact aO (E3 (by rw [hsg];cases nS y<;>rfl) (jY (jY (au (bT (aI hc) (jY (jY (au rfl))))))))
  · have hn:nS y = !(nS x):=by revert hsg;cases nS x<;>cases nS y<;>simp
    have t11:(mf (nS x) (nS y) 0 ep (az X (nl X)) (nl X) (az Y (nl Y)) (nl Y)).run=some (.inl ()):=by
      unfold mf
      exact aO (oD (by rw [hn];cases nS x<;>rfl) rfl)
    have t12:(tZ (az X (nl X)) (nl X) (az Y (nl Y)) (nl Y)).run=some (.inl (qK X Y)):=by
      unfold tZ
      rw [ez ay,ez ay,NR (cC X) (cC Y) (by omega) (by omega) (by omega) (by omega)]
      exact jY (jY (au rfl))
    have hxy:x+y=(sg (nS x) X-sg (nS x) Y)*((2^m:Nat):Int):=by
      rw [Int.sub_mul,←ox]
      have:y = -(sg (nS x) Y)*((2^m:Nat):Int):=by rw [←OX,←hn];exact oy
      rw [Int.neg_mul] at this
      omega
    by_cases hlt:X<Y
    · have hz:x+y=sg (nS y) (Y-X)*((2^m:Nat):Int):=by
        rw [hxy,←TH (Nat.le_of_lt hlt),hn,OX,OX];congr 1;omega
      obtain ⟨a,b,c⟩:=sum hz (fun p q=>by rw [zx p,zy q];cases nS y<;>rfl)
      have hd:nl (Y-X)≤nl Y:=pD (Nat.sub_le _ _)
      obtain ⟨N,h1,h2,h3⟩:=Cj (nS y) (v:=Y-X) (cC _) (by omega) (by omega) (e:=ep) (by omega)
      rw [a,b,c]
      refine ⟨N,bk (ae t9 (ae t10 (ae t11 (ae t12 (bN ?_))))),h2,h3⟩
      show (t6 _ _ _ _ _ _ _).run=_
      unfold t6
      have hc:qK X Y = -1:=if_pos hlt
      rw [hc,ez ay,ez ay,NQ (cC Y) (cC X) (by omega) (by omega) (by omega) (by omega) (Nat.le_of_lt hlt)]
      simp only [nC,dz,dA,dB,eh]
      rw [aR hd,show (((0:Nat):Int))=0 from rfl,h1]
      exact cB (jY (jY (au (bT (aI hd) (jY (jY (au rfl)))))))
    · have hz:x+y=sg (nS x) (X-Y)*((2^m:Nat):Int):=by
        rw [hxy,←TH (by omega)]
      obtain ⟨a,b,c⟩:=sum hz (fun p q=>by rw [zx p,zy q];cases nS x<;>rfl)
      have hd:nl (X-Y)≤nl X:=pD (Nat.sub_le _ _)
      obtain ⟨N,h1,h2,h3⟩:=Cj (nS x) (v:=X-Y) (cC _) (by omega) (by omega) (e:=ep) (by omega)
      rw [a,b,c]
      have hc:decide (qK X Y<0)=false:=by
        rw [decide_eq_false_iff_not];unfold qK;rw [if_neg hlt];split<;>omega
      refine ⟨N,bk (ae t9 (ae t10 (ae t11 (ae t12 (ae (a:=()) (oD hc rfl) (ae (a:=(0,az (X-Y) (nl X),0,nl (X-Y))) ?_ (ae (a:=(0,nS (sg (nS x) (X-Y)),az (nM (sg (nS x) (X-Y))) N,0,nl (nM (sg (nS x) (X-Y))),nE (sg (nS x) (X-Y)) ep)) ?_ rfl))))))),h2,h3⟩
      · show (ua _ _ _ _).run=_
        unfold ua
        rw [ez ay,ez ay,NQ (cC X) (cC Y) (by omega) (by omega) (by omega) (by omega) (by omega)]
        exact jY (jY (au rfl))
      · show (ub _ _ _ _ _ _ _ _ _ _).run=_
        unfold ub
        rw [aR hd,show (((0:Nat):Int))=0 from rfl,h1]
        exact bT (aI hd) (jY (jY (au rfl)))
theorem Sf{x y e:Int}(hx:Sm x e)(hy:Sm y e) :
    ∃ N,bK (nS x) (az (nM x) (nl (nM x))) (nE x e) (nS y) (az (nM y) (nl (nM y))) (nE y e)=some (.r0 0 (nS (x+y)) (az (nM (x+y)) N) 0 (nl (nM (x+y))) (nE (x+y) e))∧nl (nM (x+y))≤N∧N≤4096 :=
  IU (fun _=>rfl) (fun _=>rfl) hx hy
theorem IV{x y e:Int}(hx:Sm x e)(hy:Sm y e) :
    ∃ N,bY (nS x) (az (nM x) (nl (nM x))) (nE x e) (nS y) (az (nM y) (nl (nM y))) (nE y e)=some (.r0 0 (nS (x-y)) (az (nM (x-y)) N) 0 (nl (nM (x-y))) (nE (x-y) e))∧nl (nM (x-y))≤N∧N≤4096:=by
  obtain ⟨N,h1,h2,h3⟩:=IU (x:=x) (y:=-y) (e:=e) (s:=nS x) (t:=!(nS y)) (fun _=>rfl) (fun h=>by
    unfold nS;rw [←decide_not];congr 1;exact propext (by omega)) hx hy.n
  rw [VJ,VK,←Int.sub_eq_add_neg] at h1
  rw [←Int.sub_eq_add_neg] at h2
  refine ⟨N,bk (ae (a:=(0,nS (x-y),az (nM (x-y)) N,0,nl (nM (x-y)),nE (x-y) e)) ?_ rfl),h2,h3⟩
  unfold Dg
  rw [aW,aW,h1]
  exact dk (dk (au rfl))
theorem pX{x y e f:Int}(hx:Sm x e)(hy:Sm y f) :
    ∃ N,ac (nS x) (az (nM x) (nl (nM x))) (nE x e) (nS y) (az (nM y) (nl (nM y))) (nE y f)=some (.r0 0 (nS (x*y)) (az (nM (x*y)) N) 0 (nl (nM (x*y))) (nE (x*y) (e+f)))∧nl (nM (x*y))≤N∧N≤4096:=by
  obtain ⟨Nx,x1,x2,x3⟩:=um (s:=nS x) (fun _=>rfl) hx
  obtain ⟨Ny,y1,y2,y3⟩:=um (s:=nS y) (fun _=>rfl) hy
  have xm:=hx.m
  have ym:=hy.m
  have xb:=hx.b
  have yb:=hy.b
  have hm:=TG (a:=nM x) (b:=nM y)
  obtain ⟨N,h1,h2,h3⟩:=zu (nS x != nS y) (v:=nM x*nM y) (cC _) (by omega) (by omega) (e:=nE x e+nE y f) (by omega)
  have key:nS (x*y)=nS (sg (nS x != nS y) (nM x*nM y))∧nM (x*y)=nM (sg (nS x != nS y) (nM x*nM y))∧nE (x*y) (e+f)=nE (sg (nS x != nS y) (nM x*nM y)) (nE x e+nE y f):=by
    have hz:x*y=sg (nS x != nS y) (nM x*nM y)*((2^(tz x.natAbs+tz y.natAbs):Nat):Int):=by
      have a:=JL x
      have b:=JL y
      rw [←R4,Nat.pow_add,Int.natCast_mul]
      conv=>lhs;rw [←a,←b]
      simp only [Int.mul_assoc,Int.mul_comm,Int.mul_left_comm]
    obtain ⟨a,b,c⟩:=vM hz (e+f)
    refine ⟨a,b,?_⟩
    rw [c]
    by_cases p:x=0
    · subst p;rw [jO,Nat.zero_mul]
      have:sg (nS 0 != nS y) 0=0:=xh.2 rfl
      rw [this,gv,gv]
    · by_cases q:y=0
      · subst q;rw [jO,Nat.mul_zero]
        have:sg (nS x != nS 0) 0=0:=xh.2 rfl
        rw [this,gv,gv]
      · rw [iW p,iW q];congr 1;omega
  obtain ⟨a,b,c⟩:=key
  rw [a,b,c]
  refine ⟨N,bk (ae (a:=(0,nS x,az (nM x) Nx,0,nl (nM x),nE x e,nS y,az (nM y) Ny,0,nl (nM y),nE y f,false)) ?_ (ae (a:=(az (nM x*nM y) (nl (nM x)+nl (nM y)),0,nl (nM x*nM y),0)) ?_ (ae (a:=(0,nS (sg (nS x != nS y) (nM x*nM y)),az (nM (sg (nS x != nS y) (nM x*nM y))) N,0,nl (nM (sg (nS x != nS y) (nM x*nM y))),nE (sg (nS x != nS y) (nM x*nM y)) (nE x e+nE y f))) ?_ rfl))),h2,h3⟩
  · unfold Db
    rw [aW,aW,zt hx,zt hy,x1,y1]
    exact cB (au (dk (au (aO (dk (au (au (cB (au (dk (au (aO (dk (au (au (aO rfl))))))))))))))))
  · show (wl _ _ _ _ _ _ _).run=_
    unfold wl
    rw [aR x2,aR y2,TW (cC (nM x)) (cC (nM y)) (by omega) (by omega) (by omega)]
    have e1:nl (nM x)=nl (nM x):=rfl
    exact aO (bT (aI x2) (bT (aI y2) (au rfl)))
  · show (wm _ _ _ _ _ _ _ _).run=_
    unfold wm
    rw [aR hm]
    have h1':bA (!(nS x==nS y)) (az (nM x*nM y) (nl (nM x*nM y))) (nE x e+nE y f)=_:=h1
    rw [h1']
    exact aO (bT (by rw [dp];omega) (bT (aI hm) (au rfl)))
def yr(z:Int) :Int:=if z<0 then -1 else if 0<z then 1 else 0
theorem pY(z:Int) :dR (nS z) (az (nM z) (nl (nM z)))=some (.r0 (yr z)):=by
  refine bk ?_
  unfold AC
  rw [ay]
  unfold yr nS
  by_cases h0:z=0
  · subst h0;rw [jO,gh];exact cB rfl
  · have:nl (nM z)≠0:=fun q=>Fa h0 (k9.1 q)
    by_cases h:z<0
    · rw [if_pos h];exact cv (E3 (decide_eq_true h) rfl)
    · rw [if_neg h,if_pos (by omega)];exact cv (oD (decide_eq_false h) rfl)
theorem UV{X Y p:Nat}(hp:0<p) :qK X Y=sgn ((X:Int)*p) ((Y:Int)*p):=by
  unfold qK sgn
  have h:∀ {a b:Nat},a<b↔(a:Int)*p<(b:Int)*p:=fun {a b}=>by
    rw [←Int.natCast_mul,←Int.natCast_mul,Int.ofNat_lt]
    exact ⟨fun q=>Nat.mul_lt_mul_of_pos_right q hp,fun q=>Nat.lt_of_mul_lt_mul_right q⟩
  simp only [h]
theorem UW{a b:Int} :(0:Int)-sgn a b=sgn (-a) (-b):=by unfold sgn;split<;>split<;>(try split)<;>omega
theorem IW{x y e:Int}(hx:Sm x e)(hy:Sm y e) :
    io (nS x) (az (nM x) (nl (nM x))) (nE x e) (nS y) (az (nM y) (nl (nM y))) (nE y e)=some (.r0 (sgn x y) 0):=by
  obtain ⟨Nx,x1,x2,x3⟩:=um (s:=nS x) (fun _=>rfl) hx
  obtain ⟨Ny,y1,y2,y3⟩:=um (s:=nS y) (fun _=>rfl) hy
  obtain ⟨m,ep,l1,l2⟩:=GD hx hy
  have xl:=hx.l
  have yl:=hy.l
  have hX:nl (x.natAbs/2^m)≤300:=Nat.le_trans (pD (Nat.div_le_self _ _)) xl
  have hY:nl (y.natAbs/2^m)≤300:=Nat.le_trans (pD (Nat.div_le_self _ _)) yl
  have hc:qK (x.natAbs/2^m) (y.natAbs/2^m)=sgn (x.natAbs:Int) (y.natAbs:Int):=by
    rw [UV (jn m),←Int.natCast_mul,←Int.natCast_mul,l2.x2,l2.y2]
  have t8:(wt 0 (az (x.natAbs/2^m) (nl (x.natAbs/2^m))) (nl (x.natAbs/2^m)) (az (y.natAbs/2^m) (nl (y.natAbs/2^m))) (nl (y.natAbs/2^m))).run=some (.inl (sgn (x.natAbs:Int) (y.natAbs:Int))):=by
    unfold wt
    rw [ez ay,ez ay,NR (cC _) (cC _) (by omega) (by omega) (by omega) (by omega),←hc]
    exact aO (jY (jY (au rfl)))
  have t7:(ws 0 (az (nM x) Nx) 0 (nl (nM x)) (nE x e) (az (nM y) Ny) 0 (nl (nM y)) (nE y e)).run=some (.inl (0,ep,az (x.natAbs/2^m) (nl (x.natAbs/2^m)),nl (x.natAbs/2^m),az (y.natAbs/2^m) (nl (y.natAbs/2^m)),nl (y.natAbs/2^m))):=by
    unfold ws
    rw [aR x2,aR y2,l1]
    exact aO (bT (aI x2) (bT (aI y2) (au rfl)))
  refine bk (ae (a:=(0,nS x,az (nM x) Nx,0,nl (nM x),nE x e,nS y,az (nM y) Ny,0,nl (nM y),nE y e)) ?_ (ae t7 (ae t8 ?_)))
  · unfold De
    rw [aW,aW,zt hx,zt hy,x1,y1]
    exact cB (au (dk (au (aO (dk (au (au (cB (au (dk (au (aO (dk (au (au (aO rfl))))))))))))))))
  · have h9:∀ n18,lD (nS x) (az (nM x) Nx) 0 (nl (nM x)) (nS y) (az (nM y) Ny) 0 (nl (nM y)) n18=lD (nS x) (az (nM x) Nx) 0 (nl (nM x)) (nS y) (az (nM y) Ny) 0 (nl (nM y)) n18:=fun _=>rfl
    by_cases hs:yr x=yr y
    · by_cases hn:x<0
      · have e1:nS x=true:=decide_eq_true hn
        have hy0:y<0:=by unfold yr at hs;rw [if_pos hn] at hs;revert hs;split<;>(try split)<;>omega
        have ev:(0:Int)-sgn (x.natAbs:Int) (y.natAbs:Int)=sgn x y:=by
          rw [UW];congr 1<;>omega
        refine bN ?_
        unfold lD
        rw [aR x2,aR y2,pY,pY]
        simp only [ff,cZ]
        refine bT (aI x2) (au (bT (aI y2) (au (oD (by rw [hs,bne_self_eq_false]) (E3 e1 (bT ?_ ?_))))))
        · rw [ev,dp];unfold sgn;split<;>(try split)<;>omega
        · rw [ev];rfl
      · have e1:nS x=false:=decide_eq_false hn
        have hy0 : ¬ y<0:=by unfold yr at hs;rw [if_neg hn] at hs;revert hs;split<;>(try split)<;>(try split)<;>omega
        have ev:sgn (x.natAbs:Int) (y.natAbs:Int)=sgn x y:=by congr 1<;>omega
        refine ae (a:=()) ?_ (by rw [ev];rfl)
        unfold lD
        rw [aR x2,aR y2,pY,pY]
        simp only [ff,cZ]
        exact bT (aI x2) (au (bT (aI y2) (au (oD (by rw [hs,bne_self_eq_false]) (oD e1 rfl)))))
    · have ev:ry (-1) (qJ 1 (yr x-yr y))=sgn x y:=by
        unfold ry qJ sgn;unfold yr at hs ⊢
        revert hs
        repeat' split
        all_goals omega
      refine bN ?_
      unfold lD
      rw [aR x2,aR y2,pY,pY]
      simp only [ff,cZ]
      rw [ev]
      refine bT (aI x2) (au (bT (aI y2) (au (E3 (bne_iff_ne.2 hs) (bT (aI x2) (au (bT (aI y2) (au (bT ?_ rfl)))))))))
      rw [dp];unfold yr;split<;>(try split)<;>(try split)<;>(try split)<;>omega
theorem NU{x e k:Int}(hx:Sm x e)(hk : -30000≤k∧k≤30000) :
    ∃ N,fg (nS x) (az (nM x) (nl (nM x))) (nE x e) k=some (.r0 0 (nS x) (az (nM x) N) 0 (nl (nM x)) (nE x (e+k)))∧nl (nM x)≤N∧N≤4096:=by
  obtain ⟨Nx,x1,x2,x3⟩:=um (s:=nS x) (fun _=>rfl) hx
  have xm:=hx.m
  have xb:=hx.b
  have t5:(rR (nS x) (az (nM x) (nl (nM x))) (nE x e)).run=some (.inl (0,nS x,az (nM x) Nx,0,nl (nM x),nE x e,false)):=by
    unfold rR
    rw [aW,zt hx,x1]
    exact cB (au (dk (au (aO (dk (au (au (aO rfl))))))))
  by_cases h0:x=0
  · subst h0
    rw [jO,gh] at t5
    rw [jO,gh,gv,JK]
    refine ⟨0,bk (ae (by rw [gv,JK] at t5;exact t5) (ae (a:=true) (aO rfl) (bN (cB rfl)))),Nat.le_refl _,Nat.zero_le _⟩
  · have hl:nl (nM x)≠0:=fun q=>Fa h0 (k9.1 q)
    have ek:ry (-1048576) (qJ 1048576 k)=k:=by rw [Rm (by omega),Rn (by omega)]
    obtain ⟨N,h1,h2,h3⟩:=zu (nS x) (v:=nM x) (cC _) (by omega) (by omega) (e:=nE x e+k) (by omega)
    obtain ⟨a,b,c⟩:=LL (z:=x) (e:=e) (s:=nS x) (fun _=>rfl)
    have c':nE (sg (nS x) (nM x)) (nE x e+k)=nE x (e+k):=by
      have q:sg (nS x) (nM x)≠0:=fun w=>Fa h0 (xh.1 w)
      rw [iW q,iW h0] at c
      rw [iW q,iW h0,iW h0];omega
    rw [a,b,c'] at h1
    rw [b] at h2
    refine ⟨N,bk (ae t5 (ae (a:=false) (aO (by show some (Sum.inl _)=_;rw [beq_eq_false_iff_ne.2 (by omega)])) (ae (a:=(0,nS x,az (nM x) N,0,nl (nM x),nE x (e+k))) ?_ rfl))),h2,h3⟩
    show (rS _ _ _ _ _ _ _ _).run=_
    unfold rS
    rw [aR x2,ek,h1]
    exact aO (bT (by rw [dp];omega) (bT (aI x2) (au rfl)))
theorem Dh{n:Nat}(h:n<9223372036854775808) :
    ∃ N,aw (n:Int)=some (.r0 (nS (n:Int)) (az (nM (n:Int)) N) 0 (nl (nM (n:Int))) (nE (n:Int) 0))∧nl (nM (n:Int))≤N∧N≤4096:=by
  have hW:n<W:=Nat.lt_trans h (by decide)
  have hn:nl n≤1:=gu (by rw [Nat.pow_one];exact hW)
  obtain ⟨N,h1,h2,h3⟩:=lq false (v:=n) (cC _) (by omega) (by omega) (e:=0) (by omega)
  have e:sg false n=(n:Int):=rfl
  rw [e] at h1 h2
  refine ⟨N,bk (ae (a:=((n:Int),false)) ?_ (ae (a:=(nS (n:Int),az (nM (n:Int)) N,0,nl (nM (n:Int)),nE (n:Int) 0)) ?_ rfl)),h2,h3⟩
  · unfold ye
    rw [yU hW]
    exact oD (by rw [decide_eq_false_iff_not];omega) rfl
  · show (rT _ _).run=_
    unfold rT
    have d:decide ((n:Int)<0)=false:=by rw [decide_eq_false_iff_not];omega
    rw [Rl hW,d]
    simp only [nr,cd,cg,ch]
    rw [aR hn,h1]
    exact au (bT (aI hn) (au rfl))
theorem AZ{x:Nat}(hx:x<pE) :cA .and .u64 (Int.fdiv (x:Int) (2^(min (Int.toNat (52:Int)) IntKind.u64.bits))) 2047=((Fb x:Nat):Int):=by
  have e:(52:Int)=((52:Nat):Int):=by omega
  have e':(2047:Int)=((2047:Nat):Int):=by omega
  rw [e,te _ (by decide),e',Ad]
  have h1:x/2^52<W:=Nat.lt_of_le_of_lt (Nat.div_le_self _ _) hx
  rw [Nat.mod_eq_of_lt h1,Nat.mod_eq_of_lt (show 2047<W by decide)]
  congr 1
  exact Nat.and_two_pow_sub_one_eq_mod _ 11
theorem xw{x:Nat}(hx:x<pE) :cA .and .u64 (x:Int) 4503599627370495=((x%4503599627370496:Nat):Int):=by
  have e':(4503599627370495:Int)=((4503599627370495:Nat):Int):=by omega
  rw [e',Ad,Nat.mod_eq_of_lt hx,Nat.mod_eq_of_lt (show 4503599627370495<W by decide)]
  congr 1
  exact Nat.and_two_pow_sub_one_eq_mod _ 52
theorem Sh{x:Nat}(hx:x<pE) :Int.fdiv (x:Int) (2^(min (Int.toNat (63:Int)) IntKind.u64.bits))=((x/9223372036854775808:Nat):Int):=by
  have e:(63:Int)=((63:Nat):Int):=by omega
  rw [e,te _ (by decide)]
theorem T4{y:Nat}(h:y<4503599627370496) :cA .or .u64 (y:Int) 4503599627370496=((y+4503599627370496:Nat):Int):=by
  have e':(4503599627370496:Int)=((4503599627370496:Nat):Int):=by omega
  have hy:y<W:=Nat.lt_trans h (by decide)
  rw [e',JF,Nat.mod_eq_of_lt hy,Nat.mod_eq_of_lt (show 4503599627370496<W by decide)]
  congr 1
  have:=OU (h:=y) (x:=1) (r:=52) h
  rw [Nat.one_mul] at this
  exact this
def Ro(x:Nat) :Nat:=if Fb x≠0 then 3 else if x%4503599627370496≠0 then 2 else 1
theorem Qu{x:Nat}(hx:x<pE)(h:fin x=true) :mg (x:Int)=some (.r0 (Ro x)):=by
  have h':Fb x≠2047:=by unfold fin at h;exact bne_iff_ne.1 h
  unfold Ro
  by_cases h1:Fb x=0
  · by_cases h2:x%4503599627370496=0
    · rw [if_neg (by omega),if_neg (by omega)]
      refine bk (ae (a:=()) ?_ rfl)
      unfold oo
      rw [AZ hx,xw hx,h1,h2]
      exact au (aO (aO (aO (aO rfl))))
    · rw [if_neg (by omega),if_pos h2]
      refine bk (bN ?_)
      unfold oo
      rw [AZ hx,xw hx,h1]
      exact au (aO (aO (aO (dF rfl))))
  · rw [if_pos h1]
    refine bk (bN ?_)
    unfold oo
    rw [AZ hx,xw hx]
    exact au (cv (cv (dF rfl)))
def fm(x:Nat) :Nat:=if Fb x≠0 then x%4503599627370496+4503599627370496 else x%4503599627370496
def fe(x:Nat) :Int:=if Fb x≠0 then -1074+((Fb x:Int)-1) else if x%4503599627370496≠0 then -1074 else 0
theorem Si{z:Nat}(h:z<4096) :IntKind.i64.wrap ((z:Nat):Int)=((z:Nat):Int):=by
  simp only [IntKind.wrap,IntKind.signed,IntKind.bits]
  simp
  omega
theorem Qv(x:Nat) :Fb x<2048:=Nat.mod_lt _ (by decide)
theorem Qw{x:Nat}(hx:x<pE)(h:fin x=true) :dj (x:Int)=some (.r0 0 (x/9223372036854775808==1) ((fm x:Nat):Int) (fe x)):=by
  have hl:=Qv x
  have hs:(((x/9223372036854775808:Nat):Int)==(1:Int))=(x/9223372036854775808==1):=by
    rw [Bool.eq_iff_iff,beq_iff_eq,beq_iff_eq];omega
  refine bk (ae (a:=(Ro x,false,(x/9223372036854775808==1),((x%4503599627370496:Nat):Int))) ?_ ?_)
  · unfold yf
    rw [Qu hx h,xw hx,Sh hx,hs]
    exact au (au rfl)
  · show (rU _ _ _ _).run=_
    unfold rU Ro fm fe
    rw [AZ hx,Si (by omega),T4 (Nat.mod_lt _ (by decide))]
    by_cases h1:Fb x=0
    · by_cases h2:x%4503599627370496=0
      · rw [if_neg (by omega),if_neg (by omega),if_neg (by omega),if_neg (by omega),if_neg (by omega)]
        exact aO (aO (cB rfl))
      · rw [if_neg (by omega),if_pos h2,if_neg (by omega),if_neg (by omega),if_pos h2]
        exact aO (cB rfl)
    · rw [if_pos h1,if_pos h1,if_pos h1]
      exact cB (au (bT (by rw [dp];omega) (bT (by rw [dp];omega) rfl)))
theorem WD(x:Nat) :fm x<W:=by
  have:=Nat.mod_lt x (show 4503599627370496>0 by decide)
  have w:(9007199254740992:Nat)<W:=by decide
  unfold fm;split<;>omega
theorem T5{x:Nat}(hx:x<pE)(h:fin x=true) :nS (sg (x/9223372036854775808==1) (fm x))=nS (fz x)∧nM (sg (x/9223372036854775808==1) (fm x))=nM (fz x)∧nE (sg (x/9223372036854775808==1) (fm x)) (fe x)=nE (fz x) (-1074):=by
  have hx':x<18446744073709551616:=hx
  have hl:=Qv x
  unfold fz fm fe
  have hmod:x%4503599627370496=x%9223372036854775808%4503599627370496:=by omega
  by_cases h1:Fb x=0
  · have h3:x%9223372036854775808<4503599627370496:=by unfold Fb at h1;omega
    have h4:dG (x%9223372036854775808)=0:=by unfold dG;omega
    have h5:cN (x%9223372036854775808)=x%4503599627370496:=by unfold cN;rw [if_pos h3];omega
    rw [h4,h5,Nat.pow_zero,Nat.mul_one,if_neg (by omega),if_neg (by omega)]
    by_cases h2:x%4503599627370496=0
    · rw [h2,if_neg (by omega)]
      have z:sg (x/9223372036854775808==1) 0=0:=xh.2 rfl
      rw [z,gv,gv];exact ⟨rfl,rfl,rfl⟩
    · rw [if_pos h2];exact ⟨rfl,rfl,rfl⟩
  · have h3 : ¬ x%9223372036854775808<4503599627370496:=by unfold Fb at h1;omega
    have h4:dG (x%9223372036854775808)=Fb x-1:=by unfold dG Fb;omega
    have h5:cN (x%9223372036854775808)=x%4503599627370496+4503599627370496:=by unfold cN;rw [if_neg h3];omega
    rw [h4,h5,if_pos h1,if_pos h1]
    obtain ⟨a,b,c⟩:=vM (z:=sg (x/9223372036854775808==1) ((x%4503599627370496+4503599627370496)*2^(Fb x-1))) (z':=sg (x/9223372036854775808==1) (x%4503599627370496+4503599627370496)) (m:=Fb x-1) JJ (-1074)
    refine ⟨a.symm,b.symm,?_⟩
    rw [c];congr 1;omega
theorem T6{x:Nat}(hx:x<pE)(h:fin x=true) :
    ∃ N,fU x=some (.r0 0 (nS (fz x)) (az (nM (fz x)) N) 0 (nl (nM (fz x))) (nE (fz x) (-1074)))∧nl (nM (fz x))≤N∧N≤4096:=by
  have hm:=WD x
  have hn:nl (fm x)≤1:=gu (by rw [Nat.pow_one];exact hm)
  have hl:=Qv x
  have he : -1000000≤fe x∧fe x≤1000000:=by unfold fe;split<;>(try split)<;>omega
  obtain ⟨N,h1,h2,h3⟩:=lq (x/9223372036854775808==1) (v:=fm x) (cC _) (by omega) (by omega) he
  obtain ⟨a,b,c⟩:=T5 hx h
  rw [a,b,c] at h1
  rw [b] at h2
  refine ⟨N,bk (ae (a:=(0,false,(x/9223372036854775808==1),((fm x:Nat):Int),fe x)) ?_ (ae (a:=(nS (fz x),az (nM (fz x)) N,0,nl (nM (fz x)),nE (fz x) (-1074))) ?_ rfl)),h2,h3⟩
  · unfold Gb
    rw [Qw hx h]
    exact oD (UH hx h) (VF (bT (by rw [Rf hx h];rfl) (au rfl)))
  · show (zo _ _ _ _).run=_
    unfold zo
    rw [Rl hm]
    simp only [nr,cd,cg,ch]
    rw [aR hn,h1]
    exact aO (au (bT (aI hn) (au rfl)))
end Go.Plb.Seat
namespace Go.Plb
set_option linter.unusedSimpArgs false
set_option linter.unusedVariables false
set_option linter.unusedSectionVars false
variable [Rom]
abbrev H:Nat:=4294967296
end Go.Plb
namespace Go.Plb.Seat
open Go Go.Plb
set_option linter.unusedSimpArgs false
set_option linter.unusedVariables false
theorem IX{v n m:Nat}(h:m≤n) :List.take m (az v n)=az v m:=by
  have:=aR (v:=v) h
  rwa [qX,List.drop_zero] at this
theorem GE{g h:Nat→Int}{e f:Int}{n k:Nat}(hg:∀ i,i<n→Sm (g i) e)(hh:∀ i,i<n→Sm (h i) f)(hk:∀ i,i<n→nl (g i*h i).natAbs≤k)(hk2:k≤200)(hn:n≤1000000)(he : -30000≤e+f∧e+f≤30000) :
    ∃ N,bL n (pF g n) (pG g n) (pH g e n) n (pF h n) (pG h n) (pH h f n)=some (.r0 0 (nS (fj (fun i=>g i*h i) n)) (az (nM (fj (fun i=>g i*h i) n)) N) 0 (nl (nM (fj (fun i=>g i*h i) n))) (nE (fj (fun i=>g i*h i) n) (e+f)))∧nl (nM (fj (fun i=>g i*h i) n))≤N∧N≤4096:=by
  have hS:∀ j,j≤n→Sm (fj (fun i=>g i*h i) j) (e+f):=fun j hj=>Sm.of (JM (fun i hi=>hk i (by omega)) (by omega)) (by omega) he
  have hp:∀ j,j<n→Sm (g j*h j) (e+f):=fun j hj=>Sm.of (hk j hj) (by omega) he
  have loop:∃ y,dN (pS n (pF g n) (pG g n) (pH g e n) n (pF h n) (pG h n) (pH h f n)) (0,0,false,([]:List Int),0,0,(0:Int))=some y ∧
      ∃ N,y=.inl (0,nS (fj (fun i=>g i*h i) n),az (nM (fj (fun i=>g i*h i) n)) N,0,nl (nM (fj (fun i=>g i*h i) n)),nE (fj (fun i=>g i*h i) n) (e+f))∧nl (nM (fj (fun i=>g i*h i) n))≤N∧N≤4096:=by
    refine OZ (fun j s=>∃ N,s=(0,j,nS (fj (fun i=>g i*h i) j),az (nM (fj (fun i=>g i*h i) j)) N,0,nl (nM (fj (fun i=>g i*h i) j)),nE (fj (fun i=>g i*h i) j) (e+f))∧nl (nM (fj (fun i=>g i*h i) j))≤N∧N≤4096) n ?_ (fun j s hj hs=>?_) (fun s hs=>?_)
    · refine ⟨0,?_,?_,by omega⟩
      · show _=(0,0,nS 0,az (nM 0) 0,0,nl (nM 0),nE 0 (e+f))
        rw [jO,gh,gv];rfl
      · show nl (nM 0)≤0
        rw [jO,gh];exact Nat.le_refl _
    · obtain ⟨N,rfl,hN1,hN2⟩:=hs
      obtain ⟨M,m1,m2,m3⟩:=pX (hg j hj) (hh j hj)
      obtain ⟨A,a1,a2,a3⟩:=Sf (hS j (by omega)) (hp j hj)
      refine ⟨_,?_,A,rfl,a2,a3⟩
      show aH (uk _ _ _ _ _ _ _ _ _ _ _ _ _ _ _).run _=_
      refine ae (a:=(0,nS (fj (fun i=>g i*h i) j+g j*h j),az (nM (fj (fun i=>g i*h i) j+g j*h j)) A,0,nl (nM (fj (fun i=>g i*h i) j+g j*h j)),nE (fj (fun i=>g i*h i) j+g j*h j) (e+f))) ?_ (ag rfl)
      unfold uk
      have m1':ac (nS (g j)) (G5 (g j)) (nE (g j) e) (nS (h j)) (G5 (h j)) (nE (h j) f)=_:=m1
      rw [oF,oG,oH,oF,oG,oH,xj hj,xk hj,xn hj,xj hj,xk hj,xn hj,aW,aW,m1']
      simp only [fQ,dY,bm,bc,bf,bg,bo]
      rw [aR hN1,aR m2,a1]
      exact dF (ag (ag (ag (ag (ag (ag (ag (ag (dk (dk (au (aO (bT (aI hN1) (bT (aI m2) (au (aO rfl))))))))))))))))
    · obtain ⟨N,rfl,hN1,hN2⟩:=hs
      exact ⟨_,bN (cv rfl),N,rfl,hN1,hN2⟩
  obtain ⟨y,l1,N,rfl,l2,l3⟩:=loop
  exact ⟨N,bk (ae (a:=false) rfl (ae (a:=false) (oD (by simp) rfl) (ae l1 (aO rfl)))),l2,l3⟩
end Go.Plb.Seat
namespace Go.Plb
set_option linter.unusedSimpArgs false
set_option linter.unusedVariables false
set_option linter.unusedSectionVars false
variable [Rom]
theorem xx(s:Bool)(m a b:Nat) :Ieee.signed s m (a+b)=Ieee.signed s m a*((2^b:Nat):Int):=by
  unfold Ieee.signed
  rw [Nat.shiftLeft_eq,Nat.shiftLeft_eq,Nat.pow_add,←Nat.mul_assoc,Int.natCast_mul (m*2^a) (2^b)]
  cases s
  · rfl
  · rw [if_pos rfl,if_pos rfl,Int.neg_mul]
theorem Ck(s:Bool)(m a:Nat) :Ieee.signed s m a=sg s (m*2^a):=by
  unfold Ieee.signed sg
  rw [Nat.shiftLeft_eq]
theorem A0{x:Nat}(hx:x<pE) :(x/9223372036854775808%2==1)=(x/9223372036854775808==1):=by
  have hx:x<18446744073709551616:=hx
  have:x/9223372036854775808%2=x/9223372036854775808:=by omega
  rw [this]
theorem VX{x y:Nat}(hx:x<pE)(hy:y<pE)(fx:fin x=true)(fy:fin y=true) :flt x y=decide (fz x<fz y):=by
  unfold flt qI Ieee.Format.order
  rw [dt hx fx,dt hy fy,A0 hx,A0 hy]
  unfold fz
  generalize (x/9223372036854775808==1)=s
  generalize (y/9223372036854775808==1)=t
  generalize cN (x%9223372036854775808)=m
  generalize cN (y%9223372036854775808)=n
  generalize dG (x%9223372036854775808)=i
  generalize dG (y%9223372036854775808)=j
  simp only [Ieee.Datum.order]
  have e1:((-1074+(i:Int))-min (-1074+(i:Int)) (-1074+(j:Int))).toNat=i-min i j:=by omega
  have e2:((-1074+(j:Int))-min (-1074+(i:Int)) (-1074+(j:Int))).toNat=j-min i j:=by omega
  rw [e1,e2,←Ck,←Ck]
  have h1:Ieee.signed s m i=Ieee.signed s m (i-min i j)*((2^(min i j):Nat):Int):=by rw [←xx];congr 1;omega
  have h2:Ieee.signed t n j=Ieee.signed t n (j-min i j)*((2^(min i j):Nat):Int):=by rw [←xx];congr 1;omega
  rw [h1,h2]
  have hp:(0:Int)<((2^(min i j):Nat):Int):=by have:=Nat.pow_pos (n:=min i j) (show 0<2 by decide);omega
  generalize Ieee.signed s m (i-min i j)=a
  generalize Ieee.signed t n (j-min i j)=b
  generalize ((2^(min i j):Nat):Int)=p at hp
  have e:(a*p<b*p)↔a<b:=⟨fun h=>Int.lt_of_mul_lt_mul_right h (Int.le_of_lt hp),fun h=>Int.mul_lt_mul_of_pos_right h hp⟩
  have e3:(some (compare a b)==some Ordering.lt)=decide (a<b):=by
    rw [Bool.eq_iff_iff,decide_eq_true_eq,beq_iff_eq,Option.some.injEq]
    exact Int.compare_eq_lt
  rw [e3,Bool.eq_iff_iff,decide_eq_true_eq,decide_eq_true_eq]
  exact e.symm
def WX(x:Nat) :Prop:=2805742567851819008≤x%9223372036854775808∧x%9223372036854775808≤6408622269748215808
theorem Sj{n g:Nat}(hg:0<g)(more:Bool)(h1:more=true→g≤2*(n%g))(h2:more=false→2*(n%g)≤g) :
    2*((n/g+more.toNat)*g)≤2*n+g∧2*n≤2*((n/g+more.toNat)*g)+g:=by
  have e:=Nat.div_add_mod n g
  have l:=Nat.mod_lt n hg
  have e2:(n/g+more.toNat)*g=g*(n/g)+more.toNat*g:=by rw [Nat.add_mul,Nat.mul_comm]
  rw [e2]
  generalize g*(n/g)=a at e
  cases more with
  | true =>
    have:=h1 rfl
    show 2*(a+1*g)≤_∧_≤2*(a+1*g)+g
    omega
  | false =>
    have:=h2 rfl
    show 2*(a+0*g)≤_∧_≤2*(a+0*g)+g
    omega
theorem A1(neg:Bool)(n drop:Nat) :2*(Ieee.Toward.even.cut neg n drop*2^drop)≤2*n+2^drop∧2*n≤2*(Ieee.Toward.even.cut neg n drop*2^drop)+2^drop:=by
  unfold Ieee.Toward.cut
  simp only [Nat.one_shiftLeft]
  rcases Nat.le_total drop (n.log2+2) with h | h
  · rw [Nat.min_eq_left h]
    have hg:0<2^drop:=Nat.pow_pos (by decide)
    generalize 2^drop=g at hg
    refine Sj hg _ (fun q=>?_) (fun q=>?_)
    · simp only [Bool.or_eq_true,Bool.and_eq_true,decide_eq_true_eq,beq_iff_eq] at q
      omega
    · simp only [Bool.or_eq_false_iff,decide_eq_false_iff_not] at q
      omega
  · rw [Nat.min_eq_right h]
    have hn:2*n<2^(n.log2+2):=by
      have:=Nat.lt_log2_self (n:=n)
      rw [Nat.pow_succ]
      omega
    have hle:2^(n.log2+2)≤2^drop:=Nat.pow_le_pow_right (by decide) h
    generalize 2^(n.log2+2)=g at hn hle
    have e1:n/g=0:=Nat.div_eq_of_lt (by omega)
    have e2:n%g=n:=Nat.mod_eq_of_lt (by omega)
    rw [e1,e2]
    have m:(decide (g<2*n)||(g==2*n&&(0%2==1)))=false:=by
      rw [Bool.or_eq_false_iff]
      exact ⟨decide_eq_false (by omega),by rw [show (0%2==1)=false from rfl,Bool.and_false]⟩
    rw [m]
    show 2*((0+0)*2^drop)≤_∧_≤2*((0+0)*2^drop)+_
    omega
theorem A2{L k:Nat}(hk:k≤9007199254740992)(h:L=0∨4503599627370496≤k) :cN (L*4503599627370496+k)*2^dG (L*4503599627370496+k)=k*2^L:=by
  rcases Nat.eq_or_lt_of_le hk with e | hk
  · subst e
    have e1:cN (L*4503599627370496+9007199254740992)=4503599627370496:=by unfold cN;rw [if_neg (by omega)];omega
    have e2:dG (L*4503599627370496+9007199254740992)=L+1:=by unfold dG;omega
    rw [e1,e2,Nat.pow_succ,←Nat.mul_assoc,Nat.mul_comm,←Nat.mul_assoc]
  · rcases Nat.lt_or_ge k 4503599627370496 with q | q
    · have hL:L=0:=by omega
      subst hL
      have e1:cN (0*4503599627370496+k)=k:=by unfold cN;rw [if_pos (by omega)];omega
      have e2:dG (0*4503599627370496+k)=0:=by unfold dG;omega
      rw [e1,e2]
    · have e1:cN (L*4503599627370496+k)=k:=by unfold cN;rw [if_neg (by omega)];omega
      have e2:dG (L*4503599627370496+k)=L:=by unfold dG;omega
      rw [e1,e2]
structure Sk (T M:Nat):Prop where
  up:9007199254740992*M≤9007199254740993*T
  down:9007199254740991*T≤9007199254740992*M
theorem IY{neg:Bool}{mag:Nat}{place:Int}{P:Nat}(hm:mag≠0)(hp:place = -1074+(P:Int)){B:Nat}(hB:B≤2000)(hb:mag*2^P<2^B) :
    ∃ R,Ieee.double.nearest neg mag place=Ieee.double.word neg R∧R<9218868437227405312∧Sk (mag*2^P) (cN R*2^dG R):=by
  have e2:Ieee.double.binade=4503599627370496:=by decide
  have e3:Ieee.double.infRung=9218868437227405312:=by decide
  have e4:Ieee.double.leastPlace = -1074:=by decide
  have e5:Ieee.double.fractionBits=52:=rfl
  have hl1:=Nat.log2_self_le hm
  have hl2:=Nat.lt_log2_self (n:=mag)
  have hlog:mag.log2+P<2000:=by
    rcases Nat.lt_or_ge (mag.log2+P) B with q | q
    · omega
    · have h1:2^B≤2^(mag.log2+P):=BE q
      rw [Nat.pow_add] at h1
      have h2:=Nat.mul_le_mul_right (2^P) hl1
      omega
  unfold Ieee.Format.nearest
  rw [if_neg hm]
  simp only [e2,e3,e4,e5]
  subst hp
  generalize hlg:mag.log2=g at *
  by_cases hx:52≤g
  ·
    have hlast:max (-1074+(P:Int)+(g:Int)-52) (-1074) = -1074+((P+(g-52):Nat):Int):=by omega
    have c1:(-1074+(P:Int)-(-1074+((P+(g-52):Nat):Int))).toNat=0:=by omega
    have c2:(-1074+((P+(g-52):Nat):Int)-(-1074+(P:Int))).toNat=g-52:=by omega
    have c3:(-1074+((P+(g-52):Nat):Int) - -1074).toNat=P+(g-52):=by omega
    show ∃ R,Ieee.double.word neg (min ((max (-1074+(P:Int)+(g:Int)-52) (-1074) - -1074).toNat*4503599627370496+Ieee.Toward.even.cut neg (mag <<< (-1074+(P:Int)-max (-1074+(P:Int)+(g:Int)-52) (-1074)).toNat) (max (-1074+(P:Int)+(g:Int)-52) (-1074)-(-1074+(P:Int))).toNat) 9218868437227405312)=_∧_
    rw [hlast,c1,c2,c3,Nat.shiftLeft_zero]
    obtain ⟨k1,k2⟩:=A1 neg mag (g-52)
    generalize hk:Ieee.Toward.even.cut neg mag (g-52)=k at k1 k2
    have hs:2^g=4503599627370496*2^(g-52):=by
      rw [show (4503599627370496:Nat)=2^52 from rfl,←Nat.pow_add];congr 1;omega
    have hs1:2^(g+1)=9007199254740992*2^(g-52):=by rw [Nat.pow_succ,hs];omega
    have hd:0<2^(g-52):=Nat.pow_pos (by decide)
    rw [hs] at hl1
    rw [hs1] at hl2
    have kle:k≤9007199254740992:=by
      rcases Nat.lt_or_ge 9007199254740992 k with q | q
      · have:=Nat.mul_le_mul_right (2^(g-52)) (show 9007199254740993≤k by omega)
        omega
      · exact q
    have kge:4503599627370496≤k:=by
      rcases Nat.lt_or_ge k 4503599627370496 with q | q
      · have:=Nat.mul_le_mul_right (2^(g-52)) (show k≤4503599627370495 by omega)
        omega
      · exact q
    refine ⟨(P+(g-52))*4503599627370496+k,by rw [Nat.min_eq_left (by omega)],by omega,?_⟩
    rw [A2 kle (.inr kge),Nat.add_comm P,Nat.pow_add,←Nat.mul_assoc]
    have hP:0<2^P:=Nat.pow_pos (by decide)
    have u1:9007199254740992*(k*2^(g-52))≤9007199254740993*mag:=by omega
    have u2:9007199254740991*mag≤9007199254740992*(k*2^(g-52)):=by omega
    refine ⟨?_,?_⟩
    · have:=Nat.mul_le_mul_right (2^P) u1
      simpa only [Nat.mul_assoc] using this
    · have:=Nat.mul_le_mul_right (2^P) u2
      simpa only [Nat.mul_assoc] using this
  ·
    obtain ⟨L,Q,hL,hQ⟩:∃ L Q:Nat,max (-1074+(P:Int)+(g:Int)-52) (-1074) = -1074+(L:Int)∧P=L+Q:=by
      refine ⟨P+g-52,P-(P+g-52),by omega,by omega⟩
    have hQ2:Q+g≤52:=by omega
    have hLQ:L=0∨Q+g=52:=by omega
    have c1:(-1074+(P:Int)-(-1074+(L:Int))).toNat=Q:=by omega
    have c2:(-1074+(L:Int)-(-1074+(P:Int))).toNat=0:=by omega
    have c3:(-1074+(L:Int) - -1074).toNat=L:=by omega
    show ∃ R,Ieee.double.word neg (min ((max (-1074+(P:Int)+(g:Int)-52) (-1074) - -1074).toNat*4503599627370496+Ieee.Toward.even.cut neg (mag <<< (-1074+(P:Int)-max (-1074+(P:Int)+(g:Int)-52) (-1074)).toNat) (max (-1074+(P:Int)+(g:Int)-52) (-1074)-(-1074+(P:Int))).toNat) 9218868437227405312)=_∧_
    rw [hL,c1,c2,c3,Nat.shiftLeft_eq]
    obtain ⟨k1,k2⟩:=A1 neg (mag*2^Q) 0
    have hk:Ieee.Toward.even.cut neg (mag*2^Q) 0=mag*2^Q:=by
      rw [Nat.pow_zero] at k1 k2;omega
    rw [hk]
    have hlt:mag*2^Q<2^(g+1+Q):=by
      rw [Nat.pow_add]
      exact Nat.mul_lt_mul_of_pos_right hl2 (Nat.pow_pos (by decide))
    have hle:2^(g+Q)≤mag*2^Q:=by
      rw [Nat.pow_add]
      exact Nat.mul_le_mul_right _ hl1
    have h53:2^(g+1+Q)≤2^53:=BE (by omega)
    have kle:mag*2^Q≤9007199254740992:=Nat.le_trans (Nat.le_of_lt hlt) h53
    have kge:L=0∨4503599627370496≤mag*2^Q:=by
      rcases hLQ with q | q
      · exact .inl q
      · refine .inr (Nat.le_trans ?_ hle)
        have:2^52≤2^(g+Q):=BE (by omega)
        exact this
    refine ⟨L*4503599627370496+mag*2^Q,by rw [Nat.min_eq_left (by omega)],by omega,?_⟩
    rw [A2 kle kge]
    have e:mag*2^P=mag*2^Q*2^L:=by rw [hQ,Nat.mul_assoc,←Nat.pow_add,Nat.add_comm]
    rw [e]
    exact ⟨by omega,by omega⟩
theorem A3{x:Nat}(h:x%9223372036854775808<9218868437227405312) :fin x=true:=by
  unfold fin Fb
  rw [bne_iff_ne]
  omega
theorem D7{neg:Bool}{R:Nat}(hR:R<9218868437227405312) :Ieee.double.word neg R<pE∧fin (Ieee.double.word neg R)=true∧fz (Ieee.double.word neg R)=sg neg (cN R*2^dG R):=by
  have e1:Ieee.double.signWeight=9223372036854775808:=by decide
  unfold Ieee.Format.word
  rw [e1]
  cases neg
  · have h1:R/9223372036854775808=0:=by omega
    have h2:R%9223372036854775808=R:=by omega
    refine ⟨?_,?_,?_⟩
    · show R<18446744073709551616;omega
    · refine A3 ?_
      show R%9223372036854775808<_
      omega
    · show fz R=_
      unfold fz
      rw [h1,h2];rfl
  · have h1:(9223372036854775808+R)/9223372036854775808=1:=by omega
    have h2:(9223372036854775808+R)%9223372036854775808=R:=by omega
    refine ⟨?_,?_,?_⟩
    · show 9223372036854775808+R<18446744073709551616;omega
    · refine A3 ?_
      show (9223372036854775808+R)%9223372036854775808<_
      omega
    · show fz (9223372036854775808+R)=_
      unfold fz
      rw [h1,h2];rfl
structure SC (D:Int) (r:Nat):Prop where
  lt:r<pE
  fin:fin r=true
  near:9007199254740992*(fz r-D).natAbs≤D.natAbs
theorem T7{T M:Nat}(h:Sk T M)(s:Bool) :9007199254740992*(sg s M-sg s T).natAbs≤(sg s T).natAbs:=by
  have h1:=h.up
  have h2:=h.down
  rw [tg]
  have e:(sg s M-sg s T).natAbs=((M:Int)-(T:Int)).natAbs:=by cases s<;>simp only [sg]<;>simp<;>omega
  rw [e]
  omega
theorem IZ{neg:Bool}{mag:Nat}{place:Int}{P B:Nat}(hp:place = -1074+(P:Int))(hB:B≤2000)(hb:mag*2^P<2^B) :SC (sg neg (mag*2^P)) (Ieee.double.write (.number neg mag place)):=by
  by_cases hm:mag=0
  · subst hm
    have e:Ieee.double.write (.number neg 0 place)=Ieee.double.word neg 0:=by
      show Ieee.double.nearest neg 0 place=_
      unfold Ieee.Format.nearest
      rw [if_pos rfl]
    obtain ⟨a,b,c⟩:=D7 (neg:=neg) (R:=0) (by decide)
    have z:cN 0*2^dG 0=0:=by rw [show cN 0=0 from rfl,Nat.zero_mul]
    rw [e]
    refine ⟨a,b,?_⟩
    rw [c,z,Nat.zero_mul]
    cases neg<;>simp [sg]
  · obtain ⟨R,r1,r2,r3⟩:=IY (neg:=neg) hm hp hB hb
    obtain ⟨a,b,c⟩:=D7 (neg:=neg) r2
    have e:Ieee.double.write (.number neg mag place)=Ieee.double.word neg R:=r1
    rw [e]
    exact ⟨a,b,by rw [c];exact T7 r3 neg⟩
theorem Qx(s:Bool)(m k:Nat) :Ieee.signed (!s) m k = -Ieee.signed s m k:=by
  have:=OY s m k
  omega
theorem Rp{s t:Bool}{m n i j B:Nat}(hB:B≤2000)(hb:(Ieee.signed s m i+Ieee.signed t n j).natAbs<2^B) :
    ∃ d,Ieee.Datum.sum (.number s m (-1074+(i:Int))) (.number t n (-1074+(j:Int)))=some d∧SC (Ieee.signed s m i+Ieee.signed t n j) (Ieee.double.write d):=by
  have e0:min (-1074+(i:Int)) (-1074+(j:Int)) = -1074+((min i j:Nat):Int):=by omega
  have e1:((-1074+(i:Int))-(-1074+((min i j:Nat):Int))).toNat=i-min i j:=by omega
  have e2:((-1074+(j:Int))-(-1074+((min i j:Nat):Int))).toNat=j-min i j:=by omega
  have h1:Ieee.signed s m i=Ieee.signed s m (i-min i j)*((2^(min i j):Nat):Int):=by rw [←xx];congr 1;omega
  have h2:Ieee.signed t n j=Ieee.signed t n (j-min i j)*((2^(min i j):Nat):Int):=by rw [←xx];congr 1;omega
  refine ⟨_,rfl,?_⟩
  show SC _ (Ieee.double.write (.number (if Ieee.signed s m ((-1074+(i:Int))-min (-1074+(i:Int)) (-1074+(j:Int))).toNat+Ieee.signed t n ((-1074+(j:Int))-min (-1074+(i:Int)) (-1074+(j:Int))).toNat=0 then s&&t else decide (Ieee.signed s m ((-1074+(i:Int))-min (-1074+(i:Int)) (-1074+(j:Int))).toNat+Ieee.signed t n ((-1074+(j:Int))-min (-1074+(i:Int)) (-1074+(j:Int))).toNat<0)) (Ieee.signed s m ((-1074+(i:Int))-min (-1074+(i:Int)) (-1074+(j:Int))).toNat+Ieee.signed t n ((-1074+(j:Int))-min (-1074+(i:Int)) (-1074+(j:Int))).toNat).natAbs (min (-1074+(i:Int)) (-1074+(j:Int)))))
  rw [e0,e1,e2]
  rw [h1,h2,←Int.add_mul] at hb ⊢
  generalize Ieee.signed s m (i-min i j)+Ieee.signed t n (j-min i j)=D at hb ⊢
  generalize min i j=P at hb ⊢
  have ha:(D*((2^P:Nat):Int)).natAbs=D.natAbs*2^P:=by rw [Int.natAbs_mul,Int.natAbs_natCast]
  rw [ha] at hb
  by_cases h0:D=0
  · subst h0
    rw [if_pos rfl,Int.zero_mul]
    have h:=IZ (neg:=s&&t) (mag:=0) (place:=-1074+(P:Int)) (P:=P) rfl hB (by rw [Nat.zero_mul];exact Nat.pow_pos (by decide))
    rw [Nat.zero_mul] at h
    have z:sg (s&&t) 0=0:=by cases (s&&t)<;>rfl
    rw [z] at h
    exact h
  · rw [if_neg h0]
    have h:=IZ (neg:=decide (D<0)) (mag:=D.natAbs) (place:=-1074+(P:Int)) (P:=P) rfl hB hb
    have e:sg (decide (D<0)) (D.natAbs*2^P)=D*((2^P:Nat):Int):=by
      rw [JJ]
      have:=JI D
      unfold nS at this
      rw [this]
    rw [e] at h
    exact h
theorem xy{x:Nat}(hx:x<pE) :fz x=Ieee.signed (x/9223372036854775808%2==1) (cN (x%9223372036854775808)) (dG (x%9223372036854775808)):=by
  unfold fz
  rw [Ck,A0 hx]
theorem T8{x y B:Nat}(hx:x<pE)(hy:y<pE)(fx:fin x=true)(fy:fin y=true)(hB:B≤2000)(hb:(fz x+fz y).natAbs<2^B) :SC (fz x+fz y) (js x y):=by
  rw [xy hx,xy hy] at hb ⊢
  obtain ⟨d,h1,h2⟩:=Rp hB hb
  unfold js Ieee.Format.add
  rw [dt hx fx,dt hy fy,h1]
  exact h2
theorem T9{x y B:Nat}(hx:x<pE)(hy:y<pE)(fx:fin x=true)(fy:fin y=true)(hB:B≤2000)(hb:(fz x-fz y).natAbs<2^B) :SC (fz x-fz y) (fR x y):=by
  rw [xy hx,xy hy,Int.sub_eq_add_neg,←Qx] at hb ⊢
  obtain ⟨d,h1,h2⟩:=Rp hB hb
  unfold fR Ieee.Format.sub
  rw [dt hx fx,dt hy fy]
  show SC _ (Option.getD (Option.map _ (Ieee.Datum.sum _ (.number _ _ _))) _)
  rw [h1]
  exact h2
theorem I0{neg:Bool}{mag:Nat}{place:Int}{Q:Nat}(hp:place = -1074-(Q:Int))(hn:52+Q≤mag.log2)(hb:mag.log2≤2000+Q) :
    ∃ R,Ieee.double.nearest neg mag place=Ieee.double.word neg R∧R<9218868437227405312∧4503599627370496≤R∧Sk mag (cN R*2^dG R*2^Q):=by
  have e2:Ieee.double.binade=4503599627370496:=by decide
  have e3:Ieee.double.infRung=9218868437227405312:=by decide
  have e4:Ieee.double.leastPlace = -1074:=by decide
  have e5:Ieee.double.fractionBits=52:=rfl
  have hm:mag≠0:=by intro q;subst q;rw [Nat.log2_zero] at hn;omega
  have hl1:=Nat.log2_self_le hm
  have hl2:=Nat.lt_log2_self (n:=mag)
  unfold Ieee.Format.nearest
  rw [if_neg hm]
  simp only [e2,e3,e4,e5]
  subst hp
  generalize hlg:mag.log2=g at *
  obtain ⟨L,hL⟩:∃ L:Nat,g=L+52+Q:=⟨g-52-Q,by omega⟩
  have hlast:max (-1074-(Q:Int)+(g:Int)-52) (-1074) = -1074+(L:Int):=by omega
  have c1:(-1074-(Q:Int)-(-1074+(L:Int))).toNat=0:=by omega
  have c2:(-1074+(L:Int)-(-1074-(Q:Int))).toNat=g-52:=by omega
  have c3:(-1074+(L:Int) - -1074).toNat=L:=by omega
  show ∃ R,Ieee.double.word neg (min ((max (-1074-(Q:Int)+(g:Int)-52) (-1074) - -1074).toNat*4503599627370496+Ieee.Toward.even.cut neg (mag <<< (-1074-(Q:Int)-max (-1074-(Q:Int)+(g:Int)-52) (-1074)).toNat) (max (-1074-(Q:Int)+(g:Int)-52) (-1074)-(-1074-(Q:Int))).toNat) 9218868437227405312)=_∧_
  rw [hlast,c1,c2,c3,Nat.shiftLeft_zero]
  obtain ⟨k1,k2⟩:=A1 neg mag (g-52)
  generalize hk:Ieee.Toward.even.cut neg mag (g-52)=k at k1 k2
  have hs:2^g=4503599627370496*2^(g-52):=by
    rw [show (4503599627370496:Nat)=2^52 from rfl,←Nat.pow_add];congr 1;omega
  have hs1:2^(g+1)=9007199254740992*2^(g-52):=by rw [Nat.pow_succ,hs];omega
  have hd:0<2^(g-52):=Nat.pow_pos (by decide)
  rw [hs] at hl1
  rw [hs1] at hl2
  have kle:k≤9007199254740992:=by
    rcases Nat.lt_or_ge 9007199254740992 k with q | q
    · have:=Nat.mul_le_mul_right (2^(g-52)) (show 9007199254740993≤k by omega)
      omega
    · exact q
  have kge:4503599627370496≤k:=by
    rcases Nat.lt_or_ge k 4503599627370496 with q | q
    · have:=Nat.mul_le_mul_right (2^(g-52)) (show k≤4503599627370495 by omega)
      omega
    · exact q
  refine ⟨L*4503599627370496+k,by rw [Nat.min_eq_left (by omega)],by omega,by omega,?_⟩
  rw [A2 kle (.inr kge),Nat.mul_assoc,←Nat.pow_add,show L+Q=g-52 by omega]
  exact ⟨by omega,by omega⟩
theorem Sl{neg:Bool}{mag:Nat}{place:Int}{Q:Nat}(hm:mag≠0)(hp:place = -1074-(Q:Int))(hn:mag.log2<52+Q) :
    ∃ R,Ieee.double.nearest neg mag place=Ieee.double.word neg R∧R<9218868437227405312∧R≤4503599627370496∧2*(cN R*2^dG R*2^Q)≤2*mag+2^Q∧2*mag≤2*(cN R*2^dG R*2^Q)+2^Q:=by
  have e2:Ieee.double.binade=4503599627370496:=by decide
  have e3:Ieee.double.infRung=9218868437227405312:=by decide
  have e4:Ieee.double.leastPlace = -1074:=by decide
  have e5:Ieee.double.fractionBits=52:=rfl
  have hl2:=Nat.lt_log2_self (n:=mag)
  unfold Ieee.Format.nearest
  rw [if_neg hm]
  simp only [e2,e3,e4,e5]
  subst hp
  generalize hlg:mag.log2=g at *
  have hlast:max (-1074-(Q:Int)+(g:Int)-52) (-1074) = -1074:=by omega
  have c1:(-1074-(Q:Int) - -1074).toNat=0:=by omega
  have c2:(-1074-(-1074-(Q:Int))).toNat=Q:=by omega
  have c3:((-1074:Int) - -1074).toNat=0:=by omega
  show ∃ R,Ieee.double.word neg (min ((max (-1074-(Q:Int)+(g:Int)-52) (-1074) - -1074).toNat*4503599627370496+Ieee.Toward.even.cut neg (mag <<< (-1074-(Q:Int)-max (-1074-(Q:Int)+(g:Int)-52) (-1074)).toNat) (max (-1074-(Q:Int)+(g:Int)-52) (-1074)-(-1074-(Q:Int))).toNat) 9218868437227405312)=_∧_
  rw [hlast,c1,c2,c3,Nat.shiftLeft_zero,Nat.zero_mul,Nat.zero_add]
  obtain ⟨k1,k2⟩:=A1 neg mag Q
  generalize hk:Ieee.Toward.even.cut neg mag Q=k at k1 k2
  have hd:0<2^Q:=Nat.pow_pos (by decide)
  have hlt:mag<4503599627370496*2^Q:=by
    refine Nat.lt_of_lt_of_le hl2 ?_
    have:2^(g+1)≤2^(52+Q):=BE (by omega)
    rw [Nat.pow_add 2 52 Q] at this
    exact this
  have kle:k≤4503599627370496:=by
    rcases Nat.lt_or_ge 4503599627370496 k with q | q
    · have:=Nat.mul_le_mul_right (2^Q) (show 4503599627370497≤k by omega)
      omega
    · exact q
  refine ⟨k,by rw [Nat.min_eq_left (by omega)],by omega,kle,?_⟩
  have h:=A2 (L:=0) (k:=k) (by omega) (.inl rfl)
  rw [Nat.zero_mul,Nat.zero_add,Nat.pow_zero,Nat.mul_one] at h
  rw [h]
  exact ⟨k1,k2⟩
structure Ap (n X Y:Nat):Prop where
  up:9223372036854775808*X≤(9223372036854775808+n)*Y
  down:9223372036854775808*Y≤9223372036854775808*X+n*Y
theorem Sk.ap{T M:Nat}(h:Sk T M) :Ap 1024 M T:=by
  obtain ⟨a,b⟩:=h
  exact ⟨by omega,by omega⟩
theorem Ap.mono{n m X Y:Nat}(h:Ap n X Y)(hm:n≤m) :Ap m X Y:=by
  obtain ⟨a,b⟩:=h
  have:=Nat.mul_le_mul_right Y hm
  refine ⟨?_,by omega⟩
  rw [Nat.add_mul] at a ⊢
  omega
theorem Ap.refl(n X:Nat) :Ap n X X:=⟨by rw [Nat.add_mul];omega,by omega⟩
theorem Ap.mul{n X Y:Nat}(h:Ap n X Y)(Z:Nat) :Ap n (X*Z) (Y*Z):=by
  obtain ⟨a,b⟩:=h
  have a':=Nat.mul_le_mul_right Z a
  have b':=Nat.mul_le_mul_right Z b
  rw [Nat.mul_assoc,Nat.mul_assoc] at a'
  rw [Nat.add_mul,Nat.mul_assoc,Nat.mul_assoc,Nat.mul_assoc] at b'
  exact ⟨a',b'⟩
theorem Ap.div{n X Y Z:Nat}(hZ:0<Z)(h:Ap n (X*Z) (Y*Z)) :Ap n X Y:=by
  obtain ⟨a,b⟩:=h
  rw [←Nat.mul_assoc,←Nat.mul_assoc] at a
  rw [←Nat.mul_assoc,←Nat.mul_assoc,←Nat.mul_assoc,←Nat.add_mul] at b
  exact ⟨Nat.le_of_mul_le_mul_right a hZ,Nat.le_of_mul_le_mul_right b hZ⟩
theorem Ap.add{n X Y X' Y':Nat}(h:Ap n X Y)(h':Ap n X' Y') :Ap n (X+X') (Y+Y'):=by
  obtain ⟨a,b⟩:=h
  obtain ⟨a',b'⟩:=h'
  refine ⟨?_,?_⟩
  · rw [Nat.mul_add,Nat.mul_add];omega
  · rw [Nat.mul_add,Nat.mul_add,Nat.mul_add];omega
theorem Ap.trans{n m X Y Z:Nat}(h:Ap n X Y)(h':Ap m Y Z)(hn:n≤1000000)(hm:m≤1000000) :Ap (n+m+1) X Z:=by
  obtain ⟨a,b⟩:=h
  obtain ⟨a',b'⟩:=h'
  have nm:n*m≤9223372036854775808:=Nat.le_trans (Nat.mul_le_mul hn hm) (by decide)
  refine ⟨?_,?_⟩
  ·
    have s1:=Nat.mul_le_mul_left 9223372036854775808 a
    have s2:=Nat.mul_le_mul_left (9223372036854775808+n) a'
    have e1:9223372036854775808*((9223372036854775808+n)*Y)=(9223372036854775808+n)*(9223372036854775808*Y):=by ac_rfl
    have e2:(9223372036854775808+n)*((9223372036854775808+m)*Z)=9223372036854775808*((9223372036854775808+n+m)*Z)+n*m*Z:=by
      have:(9223372036854775808+n)*(9223372036854775808+m)=9223372036854775808*(9223372036854775808+n+m)+n*m:=by
        rw [Nat.add_mul,Nat.mul_add,Nat.mul_add,Nat.mul_add,Nat.mul_add,Nat.mul_comm n 9223372036854775808];omega
      rw [←Nat.mul_assoc,this,Nat.add_mul,Nat.mul_assoc]
    have s3:=Nat.mul_le_mul_right Z nm
    have e3:9223372036854775808*((9223372036854775808+(n+m+1))*Z)=9223372036854775808*((9223372036854775808+n+m)*Z)+9223372036854775808*Z:=by
      rw [←Nat.mul_add];congr 1
      rw [show 9223372036854775808+(n+m+1)=(9223372036854775808+n+m)+1 by omega,Nat.add_mul,Nat.one_mul]
    have:9223372036854775808*(9223372036854775808*X)≤9223372036854775808*((9223372036854775808+(n+m+1))*Z):=by omega
    exact Nat.le_of_mul_le_mul_left this (by decide)
  ·
    have s1:n*(9223372036854775808*Y)≤n*((9223372036854775808+m)*Z):=Nat.mul_le_mul_left n a'
    have s3:=Nat.mul_le_mul_right Z nm
    have e1:n*(9223372036854775808*Y)=9223372036854775808*(n*Y):=by ac_rfl
    have e2:n*((9223372036854775808+m)*Z)=9223372036854775808*(n*Z)+n*m*Z:=by
      rw [Nat.add_mul,Nat.mul_add,Nat.mul_assoc]
      congr 1
      ac_rfl
    have e3:(n+m+1)*Z=n*Z+m*Z+Z:=by rw [Nat.add_mul,Nat.add_mul,Nat.one_mul]
    rw [e3]
    omega
theorem Ap.symm{n X Y:Nat}(h:Ap n X Y)(hn:n≤1000000) :Ap (n+1) Y X:=by
  obtain ⟨a,b⟩:=h
  refine ⟨?_,?_⟩
  ·
    have s1:=Nat.mul_le_mul_left n b
    have e1:n*(9223372036854775808*Y)=9223372036854775808*(n*Y):=by ac_rfl
    have e2:n*(9223372036854775808*X+n*Y)=9223372036854775808*(n*X)+n*n*Y:=by
      rw [Nat.mul_add];congr 1<;>ac_rfl
    have nn:n*n*2≤9223372036854775808:=Nat.le_trans (Nat.mul_le_mul_right 2 (Nat.mul_le_mul hn hn)) (by decide)
    have y2:Y≤2*X:=by
      have:=Nat.mul_le_mul_right Y hn
      omega
    have s3:=Nat.mul_le_mul (Nat.le_refl (n*n)) y2
    have s4:=Nat.mul_le_mul_right X nn
    have e4:n*n*(2*X)=n*n*2*X:=by ac_rfl
    have e5:(9223372036854775808+(n+1))*X=9223372036854775808*X+n*X+X:=by
      rw [Nat.add_mul,Nat.add_mul,Nat.one_mul];omega
    rw [e5]
    omega
  · have s1:=a
    rw [Nat.add_mul] at s1
    have y2:n*Y≤n*X+X:=by
      have s2:=Nat.mul_le_mul_left n b
      have e1:n*(9223372036854775808*Y)=9223372036854775808*(n*Y):=by ac_rfl
      have e2:n*(9223372036854775808*X+n*Y)=9223372036854775808*(n*X)+n*n*Y:=by
        rw [Nat.mul_add];congr 1<;>ac_rfl
      have nn:n*n*2≤9223372036854775808:=Nat.le_trans (Nat.mul_le_mul_right 2 (Nat.mul_le_mul hn hn)) (by decide)
      have y2:Y≤2*X:=by
        have:=Nat.mul_le_mul_right Y hn
        omega
      have s3:=Nat.mul_le_mul (Nat.le_refl (n*n)) y2
      have s4:=Nat.mul_le_mul_right X nn
      have e4:n*n*(2*X)=n*n*2*X:=by ac_rfl
      omega
    have e5:(n+1)*X=n*X+X:=by rw [Nat.add_mul,Nat.one_mul]
    rw [e5]
    omega
theorem Ap.prod{n m X Y X' Y':Nat}(h:Ap n X Y)(h':Ap m X' Y')(hn:n≤1000000)(hm:m≤1000000) :Ap (n+m+1) (X*X') (Y*Y'):=by
  have a:=h.mul X'
  have b:=h'.mul Y
  rw [Nat.mul_comm X' Y,Nat.mul_comm Y' Y] at b
  exact a.trans b hn hm
def E2(k:Nat) :Nat:=2^k
theorem bi(a b:Nat) :E2 (a+b)=E2 a*E2 b:=Nat.pow_add 2 a b
theorem iq(a:Nat) :0<E2 a:=Nat.pow_pos (by decide)
theorem ru{a b:Nat}(h:a≤b) :E2 a≤E2 b:=Nat.pow_le_pow_right (by decide) h
theorem A4{a b:Nat}(h:E2 a<E2 b) :a<b:=by
  rcases Nat.lt_or_ge a b with q | q
  · exact q
  · exact absurd (ru q) (by omega)
theorem zw{neg:Bool}{mag:Nat}{place:Int}{P B:Nat}(hm:mag≠0)(hp:place = -1074+(P:Int))(hB:B≤2000)(hb:mag*E2 P<E2 B) :
    ∃ R,Ieee.double.nearest neg mag place=Ieee.double.word neg R∧R<9218868437227405312∧Sk (mag*E2 P) (cN R*E2 (dG R)):=IY hm hp hB hb
def vl(x:Nat) :Nat:=(fz x).natAbs
def sb(x:Nat) :Bool:=x/9223372036854775808%2==1
theorem qG(x:Nat) :vl x=cN (x%9223372036854775808)*E2 (dG (x%9223372036854775808)):=by unfold vl fz;rw [tg];rfl
theorem Vp{x:Nat}(hx:x<pE) :fz x=sg (sb x) (vl x):=by
  unfold sb vl fz
  rw [A0 hx,tg]
structure Rq (neg:Bool) (w:Nat):Prop where
  lt:w<pE
  fin:fin w=true
  sgn:fz w=sg neg (vl w)
theorem un{neg:Bool}{R:Nat}(h:R<9218868437227405312) :Rq neg (Ieee.double.word neg R)∧vl (Ieee.double.word neg R)=cN R*E2 (dG R):=by
  obtain ⟨a,b,c⟩:=D7 (neg:=neg) h
  have v:vl (Ieee.double.word neg R)=cN R*E2 (dG R):=by unfold vl;rw [c,tg];rfl
  exact ⟨⟨a,b,by rw [c,v];rfl⟩,v⟩
def Mr(A w:Nat) :Prop:=Ap 1024 (vl w*E2 1074) A∨(2*(vl w*E2 1074)≤2*A+E2 1074∧2*A≤2*(vl w*E2 1074)+E2 1074∧A<E2 1126)
theorem UX{neg:Bool}{mag:Nat}{place:Int}{s:Nat}(hp:place = -2148+(s:Int))(hb:mag*E2 s<E2 3000) :
    Rq neg (Ieee.double.write (.number neg mag place))∧Mr (mag*E2 s) (Ieee.double.write (.number neg mag place)):=by
  show Rq neg (Ieee.double.nearest neg mag place)∧Mr _ (Ieee.double.nearest neg mag place)
  by_cases hm:mag=0
  · subst hm
    have e:Ieee.double.nearest neg 0 place=Ieee.double.word neg 0:=by unfold Ieee.Format.nearest;rw [if_pos rfl]
    rw [e]
    obtain ⟨a,b⟩:=un (neg:=neg) (R:=0) (by decide)
    refine ⟨a,.inl ?_⟩
    rw [b,show cN 0=0 from rfl,Nat.zero_mul,Nat.zero_mul,Nat.zero_mul]
    exact Ap.refl _ _
  have hl1:=Nat.log2_self_le hm
  have hlog:mag.log2+s<3000:=by
    refine A4 (Nat.lt_of_le_of_lt ?_ hb)
    rw [bi]
    exact Nat.mul_le_mul_right _ hl1
  rcases Nat.lt_or_ge s 1074 with q | q
  · obtain ⟨Q,hQ⟩:∃ Q,1074=s+Q:=⟨1074-s,by omega⟩
    have e1074:E2 1074=E2 Q*E2 s:=by rw [hQ,Nat.add_comm,bi]
    by_cases hn:52+Q≤mag.log2
    · obtain ⟨R,r1,r2,r3,r4⟩:=I0 (neg:=neg) (mag:=mag) (place:=place) (Q:=Q) (by omega) hn (by omega)
      rw [r1]
      obtain ⟨a,b⟩:=un (neg:=neg) r2
      refine ⟨a,.inl ?_⟩
      have h:Ap 1024 (cN R*E2 (dG R)*E2 Q) mag:=r4.ap
      rw [b,e1074,←Nat.mul_assoc]
      exact h.mul _
    · obtain ⟨R,r1,r2,r3,r4,r5⟩:=Sl (neg:=neg) (mag:=mag) (place:=place) (Q:=Q) hm (by omega) (by omega)
      rw [r1]
      obtain ⟨a,b⟩:=un (neg:=neg) r2
      refine ⟨a,.inr ?_⟩
      have r4':2*(cN R*E2 (dG R)*E2 Q)≤2*mag+E2 Q:=r4
      have r5':2*mag≤2*(cN R*E2 (dG R)*E2 Q)+E2 Q:=r5
      have m4:=Nat.mul_le_mul_right (E2 s) r4'
      have m5:=Nat.mul_le_mul_right (E2 s) r5'
      rw [b,e1074]
      refine ⟨by simpa only [Nat.add_mul,Nat.mul_assoc] using m4,by simpa only [Nat.add_mul,Nat.mul_assoc] using m5,?_⟩
      have hl2:=Nat.lt_log2_self (n:=mag)
      have h1:mag*E2 s<E2 (mag.log2+1)*E2 s:=Nat.mul_lt_mul_of_pos_right hl2 (iq s)
      rw [←bi] at h1
      exact Nat.lt_of_lt_of_le h1 (ru (by omega))
  · obtain ⟨P,hP⟩:∃ P,s=P+1074:=⟨s-1074,by omega⟩
    have hB:mag*E2 P<E2 1926:=by
      have hb':mag*E2 P*E2 1074<E2 1926*E2 1074:=by
        rw [Nat.mul_assoc,←bi,←hP,←bi]
        exact hb
      exact Nat.lt_of_mul_lt_mul_right hb'
    obtain ⟨R,r1,r2,r3⟩:=zw (neg:=neg) (mag:=mag) (place:=place) (P:=P) (B:=1926) hm (by omega) (by omega) hB
    rw [r1]
    obtain ⟨a,b⟩:=un (neg:=neg) r2
    refine ⟨a,.inl ?_⟩
    have h:Ap 1024 (cN R*E2 (dG R)) (mag*E2 P):=r3.ap
    rw [b,hP,bi,←Nat.mul_assoc]
    exact h.mul _
theorem UY{x y:Nat}(hx:x<pE)(hy:y<pE)(fx:fin x=true)(fy:fin y=true)(hb:vl x*vl y<E2 3000) :Rq (sb x ^^ sb y) (bC x y)∧Mr (vl x*vl y) (bC x y):=by
  have e:vl x*vl y=cN (x%9223372036854775808)*cN (y%9223372036854775808)*E2 (dG (x%9223372036854775808)+dG (y%9223372036854775808)):=by
    rw [qG,qG,bi];ac_rfl
  rw [e] at hb ⊢
  have h:=UX (neg:=sb x ^^ sb y) (place:=-1074+((dG (x%9223372036854775808):Nat):Int)+(-1074+((dG (y%9223372036854775808):Nat):Int))) (by omega) hb
  have ef:bC x y=Ieee.double.write (.number (sb x ^^ sb y) (cN (x%9223372036854775808)*cN (y%9223372036854775808)) (-1074+((dG (x%9223372036854775808):Nat):Int)+(-1074+((dG (y%9223372036854775808):Nat):Int)))):=by
    unfold bC Ieee.Format.mul
    rw [dt hx fx,dt hy fy]
    rfl
  rw [ef]
  exact h
theorem Ua{D n:Nat}(hn:0<n)(hD:9007199254740992*n≤D) :Ap 512 ((2*(D/n)+(D%n != 0).toNat)*n) (2*D):=by
  have e:=Nat.div_add_mod D n
  have l:=Nat.mod_lt D hn
  have e2:(2*(D/n)+(D%n != 0).toNat)*n=2*(n*(D/n))+(D%n != 0).toNat*n:=by rw [Nat.add_mul,Nat.mul_assoc,Nat.mul_comm (D/n) n]
  rw [e2]
  generalize n*(D/n)=a at e
  by_cases h:D%n=0
  · have:(D%n != 0).toNat=0:=by rw [h];rfl
    rw [this]
    exact ⟨by omega,by omega⟩
  · have:(D%n != 0).toNat=1:=by rw [bne_iff_ne.2 h];rfl
    rw [this]
    exact ⟨by omega,by omega⟩
theorem UZ{x y:Nat}(hx:x<pE)(hy:y<pE)(fx:fin x=true)(fy:fin y=true)(x0:vl x≠0)(y0:vl y≠0)(hlo:vl y≤vl x*E2 1000)(hhi:vl x≤vl y*E2 900) :
    Rq (sb x ^^ sb y) (fdiv x y)∧Ap 1540 (vl (fdiv x y)*vl y) (vl x*E2 1074):=by
  have ef:fdiv x y=Ieee.double.write (.number (sb x ^^ sb y) (2*((cN (x%9223372036854775808) <<< (54+(cN (y%9223372036854775808)).log2-(cN (x%9223372036854775808)).log2))/cN (y%9223372036854775808))+((cN (x%9223372036854775808) <<< (54+(cN (y%9223372036854775808)).log2-(cN (x%9223372036854775808)).log2))%cN (y%9223372036854775808) != 0).toNat)
      (-1074+((dG (x%9223372036854775808):Nat):Int)-(-1074+((dG (y%9223372036854775808):Nat):Int))-((54+(cN (y%9223372036854775808)).log2-(cN (x%9223372036854775808)).log2:Nat):Int)-1)):=by
    have n0:cN (y%9223372036854775808)≠0:=by intro q;apply y0;rw [qG,q,Nat.zero_mul]
    unfold fdiv Ieee.Format.div
    rw [dt hx fx,dt hy fy]
    simp only [Ieee.Datum.quotient,if_neg n0]
    rfl
  have mlt:=D4 (x%9223372036854775808)
  have nlt:=D4 (y%9223372036854775808)
  rw [ef]
  rw [qG x] at x0 hlo hhi
  rw [qG y] at y0 hlo hhi
  rw [qG x,qG y]
  generalize cN (x%9223372036854775808)=m at *
  generalize cN (y%9223372036854775808)=n at *
  generalize dG (x%9223372036854775808)=i at *
  generalize dG (y%9223372036854775808)=j at *
  clear ef
  have m0:m≠0:=by intro q;apply x0;rw [q,Nat.zero_mul]
  have n0:n≠0:=by intro q;apply y0;rw [q,Nat.zero_mul]
  have ml1:=Nat.log2_self_le m0
  have ml2:=Nat.lt_log2_self (n:=m)
  have nl1:=Nat.log2_self_le n0
  have nl2:=Nat.lt_log2_self (n:=n)
  have mlog:m.log2<53:=by
    have:E2 m.log2<E2 53:=Nat.lt_of_le_of_lt ml1 mlt
    exact A4 this
  have nlog:n.log2<53:=by
    have:E2 n.log2<E2 53:=Nat.lt_of_le_of_lt nl1 nlt
    exact A4 this
  obtain ⟨k,hk⟩:∃ k,54+n.log2-m.log2=k:=⟨_,rfl⟩
  rw [hk,Nat.shiftLeft_eq]
  have hkm:k+m.log2=54+n.log2:=by omega
  have D1:9007199254740992*n≤m*2^k:=by
    have a:E2 (m.log2+k)≤m*E2 k:=by rw [bi];exact Nat.mul_le_mul_right _ ml1
    have b:n≤E2 (n.log2+1):=Nat.le_of_lt nl2
    have c:9007199254740992*E2 (n.log2+1)=E2 (m.log2+k):=by
      rw [show (9007199254740992:Nat)=E2 53 from rfl,←bi];congr 1;omega
    have:=Nat.mul_le_mul_left 9007199254740992 b
    rw [c] at this
    exact Nat.le_trans this a
  have q1:=Ua (Nat.pos_of_ne_zero n0) D1
  have glo:18014398509481984≤2*(m*2^k/n)+(m*2^k%n != 0).toNat:=by
    have:=(Nat.le_div_iff_mul_le (Nat.pos_of_ne_zero n0)).2 D1
    omega
  have ghi:2*(m*2^k/n)+(m*2^k%n != 0).toNat<E2 56:=by
    have a:m*2^k<E2 55*n:=by
      have a1:m*E2 k<E2 (m.log2+1)*E2 k:=Nat.mul_lt_mul_of_pos_right ml2 (iq k)
      have a2:E2 (m.log2+1)*E2 k=E2 55*E2 n.log2:=by rw [←bi,←bi];congr 1;omega
      rw [a2] at a1
      exact Nat.lt_of_lt_of_le a1 (Nat.mul_le_mul_left _ nl1)
    have b:=(Nat.div_lt_iff_lt_mul (Nat.pos_of_ne_zero n0)).2 a
    have c:E2 56=2*E2 55:=by rw [show 56=55+1 from rfl,bi,Nat.mul_comm];rfl
    have d:(m*2^k%n != 0).toNat≤1:=Bool.toNat_le _
    omega
  generalize 2*(m*2^k/n)+(m*2^k%n != 0).toNat=g at q1 glo ghi ⊢
  have g0:g≠0:=by omega
  have gl1:=Nat.log2_self_le g0
  have gl2:=Nat.lt_log2_self (n:=g)
  have glog1:54≤g.log2:=by
    have:E2 54<E2 (g.log2+1):=Nat.lt_of_le_of_lt glo gl2
    have:=A4 this
    omega
  have glog2:g.log2<56:=A4 (Nat.lt_of_le_of_lt gl1 ghi)

  have r1:j<i+1053:=by
    have a:E2 j≤n*E2 j:=Nat.le_mul_of_pos_left _ (Nat.pos_of_ne_zero n0)
    have b:m*E2 i*E2 1000<E2 53*E2 i*E2 1000:=Nat.mul_lt_mul_of_pos_right (Nat.mul_lt_mul_of_pos_right mlt (iq _)) (iq _)
    have c:=Nat.lt_of_le_of_lt (Nat.le_trans a hlo) b
    rw [←bi,←bi] at c
    have:=A4 c
    omega
  have r2:m.log2+i<n.log2+j+901:=by
    have a:E2 (m.log2+i)≤m*E2 i:=by rw [bi];exact Nat.mul_le_mul_right _ ml1
    have b:n*E2 j*E2 900<E2 (n.log2+1)*E2 j*E2 900:=Nat.mul_lt_mul_of_pos_right (Nat.mul_lt_mul_of_pos_right nl2 (iq _)) (iq _)
    have c:=Nat.lt_of_le_of_lt (Nat.le_trans a hhi) b
    rw [←bi,←bi] at c
    have:=A4 c
    omega

  have r3:j+n.log2<i+m.log2+1001:=by
    have a:E2 (n.log2+j)≤n*E2 j:=by rw [bi];exact Nat.mul_le_mul_right _ nl1
    have b:m*E2 i*E2 1000<E2 (m.log2+1)*E2 i*E2 1000:=Nat.mul_lt_mul_of_pos_right (Nat.mul_lt_mul_of_pos_right ml2 (iq _)) (iq _)
    have c:=Nat.lt_of_le_of_lt (Nat.le_trans a hlo) b
    rw [←bi,←bi] at c
    have:=A4 c
    omega
  have q2:Ap 512 (g*n) (m*E2 (k+1)):=by
    have e:2*(m*2^k)=m*E2 (k+1):=by
      rw [bi]
      show 2*(m*2^k)=m*(2^k*2)
      ac_rfl
    rw [←e];exact q1
  rcases Nat.lt_or_ge (1073+i) (j+k) with q | q
  · obtain ⟨Q,hQ⟩:∃ Q,1073+i+Q=j+k:=⟨j+k-(1073+i),by omega⟩
    obtain ⟨R,s1,s2,s3,s4⟩:=I0 (neg:=sb x ^^ sb y) (mag:=g) (place:=-1074+(i:Int)-(-1074+(j:Int))-(k:Int)-1) (Q:=Q) (by omega) (by omega) (by omega)
    show Rq _ (Ieee.double.nearest _ _ _)∧Ap 1540 (vl (Ieee.double.nearest _ _ _)*_) _
    rw [s1]
    obtain ⟨a,b⟩:=un (neg:=sb x ^^ sb y) s2
    refine ⟨a,?_⟩
    rw [b]
    have h:Ap 1024 (cN R*E2 (dG R)*E2 Q) g:=s4.ap
    have h2:=((h.mul n).trans q2 (by omega) (by omega)).mul (E2 j)
    refine Ap.div (iq Q) ?_
    have e1:cN R*E2 (dG R)*(n*E2 j)*E2 Q=cN R*E2 (dG R)*E2 Q*n*E2 j:=by ac_rfl
    have e2:m*E2 i*E2 1074*E2 Q=m*E2 (k+1)*E2 j:=by
      rw [Nat.mul_assoc,Nat.mul_assoc,Nat.mul_assoc,←bi,←bi,←bi]
      congr 2
      omega
    rw [e1,e2]
    exact h2.mono (by omega)
  · obtain ⟨P,hP⟩:∃ P,1073+i=j+k+P:=⟨1073+i-(j+k),by omega⟩
    have hb:g*E2 P<E2 2000:=by
      have h1:g*E2 P<E2 56*E2 P:=Nat.mul_lt_mul_of_pos_right ghi (iq P)
      rw [←bi] at h1
      exact Nat.lt_of_lt_of_le h1 (ru (by omega))
    obtain ⟨R,s1,s2,s3⟩:=zw (neg:=sb x ^^ sb y) (mag:=g) (place:=-1074+(i:Int)-(-1074+(j:Int))-(k:Int)-1) (P:=P) (B:=2000) g0 (by omega) (by omega) hb
    show Rq _ (Ieee.double.nearest _ _ _)∧Ap 1540 (vl (Ieee.double.nearest _ _ _)*_) _
    rw [s1]
    obtain ⟨a,b⟩:=un (neg:=sb x ^^ sb y) s2
    refine ⟨a,?_⟩
    rw [b]
    have h:Ap 1024 (cN R*E2 (dG R)) (g*E2 P):=s3.ap
    have h1:=(h.mul (n*E2 j))
    have e1:g*E2 P*(n*E2 j)=g*n*(E2 P*E2 j):=by ac_rfl
    rw [e1] at h1
    have h2:=h1.trans (q2.mul (E2 P*E2 j)) (by omega) (by omega)
    have e2:m*E2 (k+1)*(E2 P*E2 j)=m*E2 i*E2 1074:=by
      rw [Nat.mul_assoc,Nat.mul_assoc,←bi,←bi,←bi]
      congr 2
      omega
    rw [e2] at h2
    exact h2.mono (by omega)
theorem H0(n todo root:Nat) :Ieee.Datum.rootFrom n (todo+1) root=Ieee.Datum.rootFrom n todo (if (root+2^todo)*(root+2^todo)≤n then root+2^todo else root):=by
  rw [Ieee.Datum.rootFrom]
  simp only [Nat.one_shiftLeft]
theorem r6{n:Nat} :∀ {todo root:Nat},root*root≤n→n<(root+2^todo)*(root+2^todo)→Ieee.Datum.rootFrom n todo root*Ieee.Datum.rootFrom n todo root≤n∧n<(Ieee.Datum.rootFrom n todo root+1)*(Ieee.Datum.rootFrom n todo root+1)
  | 0,root,h1,h2=>⟨h1,h2⟩
  | todo+1,root,h1,h2=>by
    rw [H0]
    by_cases h:(root+2^todo)*(root+2^todo)≤n
    · rw [if_pos h]
      refine r6 h ?_
      have e:root+2^todo+2^todo=root+2^(todo+1):=by rw [Nat.pow_succ];omega
      rw [e];exact h2
    · rw [if_neg h]
      exact r6 h1 (by omega)
theorem Sn{n w:Nat}(h1:w*w≤n)(h2:n<(w+1)*(w+1))(hw:18014398509481984≤w) :Ap 640 ((2*w+(w*w != n).toNat)*(2*w+(w*w != n).toNat)) (4*n):=by
  have e:(w+1)*(w+1)=w*w+2*w+1:=by rw [Nat.add_mul,Nat.mul_add];omega
  rw [e] at h2
  have big:=Nat.mul_le_mul_right w hw
  have z:∀ t,(2*w+t)*(2*w+t)=4*(w*w)+4*(w*t)+t*t:=by
    intro t
    have:(2*w+t)*(2*w+t)=2*w*(2*w)+2*w*t+(t*(2*w)+t*t):=by rw [Nat.add_mul,Nat.mul_add,Nat.mul_add]
    have a1:2*w*(2*w)=4*(w*w):=by rw [show 4=2*2 from rfl];ac_rfl
    have a2:2*w*t=2*(w*t):=by ac_rfl
    have a3:t*(2*w)=2*(w*t):=by ac_rfl
    omega
  rw [z]
  generalize w*w=a at h1 h2 big ⊢
  by_cases h:a=n
  · have:(a != n).toNat=0:=by rw [h,bne_self_eq_false];rfl
    rw [this]
    exact ⟨by omega,by omega⟩
  · have:(a != n).toNat=1:=by rw [bne_iff_ne.2 h];rfl
    rw [this]
    exact ⟨by omega,by omega⟩
theorem Ub{x:Nat}(hx:x<pE)(fx:fin x=true)(hs:sb x=false)(x0:vl x≠0) :Rq false (fG x)∧Ap 2700 (vl (fG x)*vl (fG x)) (vl x*E2 1074):=by
  have mlt:=D4 (x%9223372036854775808)
  have ilt:dG (x%9223372036854775808)<2046:=by
    unfold fin Fb at fx
    rw [bne_iff_ne] at fx
    unfold dG
    omega
  have ef:∀ k n w:Nat,k=(108-(cN (x%9223372036854775808)).log2)+((-1074+((dG (x%9223372036854775808):Nat):Int)-((108-(cN (x%9223372036854775808)).log2:Nat):Int))%2).toNat→n=cN (x%9223372036854775808) <<< k→w=Ieee.Datum.rootFrom n (n.log2/2+1) 0 →
      fG x=Ieee.double.write (.number false (2*w+(w*w != n).toNat) ((-1074+((dG (x%9223372036854775808):Nat):Int)-(k:Int))/2-1)):=by
    intro k n w hk hn hw
    have m0:cN (x%9223372036854775808)≠0:=by intro q;apply x0;rw [qG,q,Nat.zero_mul]
    have hs':(x/9223372036854775808%2==1)=false:=hs
    unfold fG Ieee.Format.sqrt
    rw [dt hx fx,hs']
    simp only [Ieee.Datum.root,if_neg m0,Bool.false_eq_true,if_false]
    subst hk
    subst hn
    subst hw
    rfl
  rw [qG x] at x0 ⊢
  generalize cN (x%9223372036854775808)=m at *
  generalize dG (x%9223372036854775808)=i at *
  have m0:m≠0:=by intro q;apply x0;rw [q,Nat.zero_mul]
  have ml1:=Nat.log2_self_le m0
  have ml2:=Nat.lt_log2_self (n:=m)
  have mlog:m.log2<53:=by
    have:E2 m.log2<E2 53:=Nat.lt_of_le_of_lt ml1 mlt
    exact A4 this
  obtain ⟨k,hk⟩:∃ k,k=(108-m.log2)+((-1074+(i:Int)-((108-m.log2:Nat):Int))%2).toNat:=⟨_,rfl⟩
  obtain ⟨n,hn⟩:∃ n,n=m <<< k:=⟨_,rfl⟩
  obtain ⟨w,hw⟩:∃ w,w=Ieee.Datum.rootFrom n (n.log2/2+1) 0:=⟨_,rfl⟩
  rw [ef k n w hk hn hw]
  clear ef
  rw [Nat.shiftLeft_eq] at hn
  obtain ⟨P,hP⟩:∃ P,2*P+k=1072+i:=⟨(1072+i-k)/2,by omega⟩
  have hpl:(-1074+(i:Int)-(k:Int))/2-1 = -1074+(P:Int):=by omega
  have kb:108≤m.log2+k∧m.log2+k≤109:=by omega
  have n1:E2 108≤n:=by
    have a:E2 (m.log2+k)≤m*E2 k:=by rw [bi];exact Nat.mul_le_mul_right _ ml1
    rw [hn]
    exact Nat.le_trans (ru kb.1) a
  have n2:n<E2 110:=by
    have a:m*E2 k<E2 (m.log2+1)*E2 k:=Nat.mul_lt_mul_of_pos_right ml2 (iq k)
    rw [←bi] at a
    rw [hn]
    exact Nat.lt_of_lt_of_le a (ru (by omega))
  have nw:n<(0+2^(n.log2/2+1))*(0+2^(n.log2/2+1)):=by
    have a:=Nat.lt_log2_self (n:=n)
    rw [Nat.zero_add,←Nat.pow_add]
    exact Nat.lt_of_lt_of_le a (BE (by omega))
  obtain ⟨w1,w2⟩:=r6 (n:=n) (todo:=n.log2/2+1) (root:=0) (Nat.zero_le _) nw
  rw [←hw] at w1 w2
  have wlo:18014398509481984≤w:=by
    rcases Nat.lt_or_ge w 18014398509481984 with q | q
    · have a:(w+1)*(w+1)≤18014398509481984*18014398509481984:=Nat.mul_le_mul (by omega) (by omega)
      have e:18014398509481984*18014398509481984=E2 108:=by decide
      rw [e] at a
      omega
    · exact q
  have whi:w<36028797018963968:=by
    rcases Nat.lt_or_ge w 36028797018963968 with q | q
    · exact q
    · have a:36028797018963968*36028797018963968≤w*w:=Nat.mul_le_mul q q
      have e:36028797018963968*36028797018963968=E2 110:=by decide
      rw [e] at a
      omega
  have rn:=Sn w1 w2 wlo
  have hst:(w*w != n).toNat≤1:=Bool.toNat_le _
  have g0:2*w+(w*w != n).toNat≠0:=by omega
  have ghi:2*w+(w*w != n).toNat<E2 56:=by
    have e:E2 56=72057594037927936:=by decide
    rw [e];omega
  generalize 2*w+(w*w != n).toNat=g at rn g0 ghi ⊢
  have hb:g*E2 P<E2 1700:=by
    have h1:g*E2 P<E2 56*E2 P:=Nat.mul_lt_mul_of_pos_right ghi (iq P)
    rw [←bi] at h1
    exact Nat.lt_of_lt_of_le h1 (ru (by omega))
  obtain ⟨R,s1,s2,s3⟩:=zw (neg:=false) (mag:=g) (place:=(-1074+(i:Int)-(k:Int))/2-1) (P:=P) (B:=1700) g0 hpl (by omega) hb
  show Rq _ (Ieee.double.nearest _ _ _)∧Ap 2700 (vl (Ieee.double.nearest _ _ _)*vl (Ieee.double.nearest _ _ _)) _
  rw [s1]
  obtain ⟨a,b⟩:=un (neg:=false) s2
  refine ⟨a,?_⟩
  rw [b]
  have h:Ap 1024 (cN R*E2 (dG R)) (g*E2 P):=s3.ap
  have h1:=h.prod h (by omega) (by omega)
  have e1:g*E2 P*(g*E2 P)=g*g*(E2 P*E2 P):=by ac_rfl
  rw [e1] at h1
  have h2:=h1.trans (rn.mul (E2 P*E2 P)) (by omega) (by omega)
  have e2:4*n*(E2 P*E2 P)=m*E2 i*E2 1074:=by
    rw [hn]
    show 4*(m*E2 k)*_=_
    rw [show (4:Nat)=E2 2 from rfl]
    have:E2 2*(m*E2 k)*(E2 P*E2 P)=m*(E2 2*E2 k*(E2 P*E2 P)):=by ac_rfl
    rw [this,←bi,←bi,←bi,Nat.mul_assoc,←bi]
    congr 2
    omega
  rw [e2] at h2
  exact h2.mono (by omega)
abbrev dK:Nat:=4607182418800017408
theorem VY:vl dK=E2 1074:=by
  rw [qG]
  have e1:cN (dK%9223372036854775808)=E2 52:=by decide
  have e2:dG (dK%9223372036854775808)=1022:=by decide
  rw [e1,e2,←bi]
theorem VZ:dK<pE∧fin dK=true∧sb dK=false:=by decide
theorem SC.ap{D:Int}{r:Nat}{Y:Nat}(h:SC D r)(hY:D=(Y:Int)) :Rq false r∧Ap 1024 (vl r) Y:=by
  obtain ⟨a,b,c⟩:=h
  subst hY
  rw [Int.natAbs_natCast] at c
  have hpos:0≤fz r:=by omega
  have hv:fz r=(vl r:Int):=by unfold vl;omega
  refine ⟨⟨a,b,by rw [hv];rfl⟩,?_⟩
  rw [hv] at c
  exact ⟨by omega,by omega⟩
theorem Rq.pos{w:Nat}(h:Rq false w)(h0:vl w≠0) :sb w=false:=by
  have e:=Vp h.lt
  rw [h.sgn] at e
  cases q:sb w
  · rfl
  · rw [q] at e
    simp only [sg,if_true,Bool.false_eq_true,if_false] at e
    omega
theorem NV{a b:Nat}(h:a*a≤b*b) :a≤b:=by
  rcases Nat.lt_or_ge b a with q | q
  · have:=Nat.mul_lt_mul'' q q
    omega
  · exact q
theorem V0{a b c L:Nat}(hc:c=a+b)(h:E2 b=L) :E2 c=L*E2 a:=by rw [hc,bi,h,Nat.mul_comm]
theorem mm(a b:Nat) :a*b*(a*b)=a*a*(b*b):=by ac_rfl
theorem mk(k a:Nat) :k*a*(k*a)=k*k*(a*a):=by ac_rfl
theorem V1{a b:Nat}(h:a<b) :E2 a<E2 b:=Nat.pow_lt_pow_right (by decide) h
theorem So{x y B:Nat}(hx:x<pE)(hy:y<pE)(fx:fin x=true)(fy:fin y=true)(hB:B≤2000)(hb:(fz x+fz y).natAbs<E2 B) :SC (fz x+fz y) (js x y):=T8 hx hy fx fy hB hb
def ex(x:Nat) :Nat:=x%9223372036854775808/4503599627370496
theorem Sp{x y:Nat}(hx:x<pE)(hy:y<pE)(fx:fin x=true)(fy:fin y=true) :
    bC x y=Ieee.double.nearest (sb x ^^ sb y) (cN (x%9223372036854775808)*cN (y%9223372036854775808)) (-1074+((dG (x%9223372036854775808):Nat):Int)+(-1074+((dG (y%9223372036854775808):Nat):Int))):=by
  unfold bC Ieee.Format.mul
  rw [dt hx fx,dt hy fy]
  rfl
theorem KE(place:Int) :Ieee.double.nearest false 0 place=0:=by
  unfold Ieee.Format.nearest
  rw [if_pos rfl]
  rfl
theorem Sq{x y:Nat}(hx:x<pE)(hy:y<pE)(fy:fin y=true)(h:x%9223372036854775808=0)(hs:sb y=false) :bC x y=x:=by
  have hx':x<18446744073709551616:=hx
  have fx:fin x=true:=A3 (by omega)
  have e1:Ieee.double.signWeight=9223372036854775808:=by decide
  rw [Sp hx hy fx fy,h,hs,Bool.xor_false,show cN 0=0 from rfl,Nat.zero_mul]
  unfold Ieee.Format.nearest
  rw [if_pos rfl]
  unfold Ieee.Format.word sb
  rw [e1]
  by_cases q:x/9223372036854775808%2=1
  · rw [q]
    show 9223372036854775808+0=x
    omega
  · have:(x/9223372036854775808%2==1)=false:=beq_eq_false_iff_ne.2 q
    rw [this]
    show 0=x
    omega
theorem WX.ex{x:Nat}(h:WX x) :623≤ex x∧ex x≤1423:=by
  obtain ⟨a,b⟩:=h
  unfold Go.Plb.ex
  omega
def SD(p q:Nat) :Nat:=bif xC p 0 then p else bC p (fG (js dK (bC (fdiv q p) (fdiv q p))))
theorem z0:bC 0 0=0∧js dK 0=dK∧fG dK=dK∧bC dK 0=0:=by decide +kernel
theorem W5:Rq false 0∧vl 0=0∧sb 0=false:=by
  have v:vl 0=0:=by rw [qG,show cN (0%9223372036854775808)=0 by decide,Nat.zero_mul]
  exact ⟨⟨by decide,by decide,by rw [v];decide⟩,v,by decide⟩
def Di(s:Nat×Nat)(x:Nat) :Nat×Nat :=
  bif xC x 0 then s else bif flt s.1 (aL x) then (aL x,js dK (bC (bC s.2 (fdiv s.1 (aL x))) (fdiv s.1 (aL x)))) else (s.1,js s.2 (bC (fdiv (aL x) s.1) (fdiv (aL x) s.1)))
theorem WE{s:Nat×Nat}{x:Nat}(h:xC x 0=true) :Di s x=s:=by unfold Di;rw [h];rfl
def As(n x y:Rat) :Prop:=∃ d,x=y+y*d∧9223372036854775808*d≤n∧-n≤9223372036854775808*d
theorem As.refl(n y:Rat)(hn:0≤n) :As n y y:=⟨0,by grind,by grind,by grind⟩
theorem As.mono{n m x y:Rat}(h:As n x y)(hm:n≤m) :As m x y:=by
  obtain ⟨d,a,b,c⟩:=h
  exact ⟨d,a,by grind,by grind⟩
theorem As.mul{n x y:Rat}(h:As n x y)(z:Rat) :As n (x*z) (y*z):=by
  obtain ⟨d,a,b,c⟩:=h
  exact ⟨d,by grind,b,c⟩
theorem As.neg{n x y:Rat}(h:As n x y) :As n (-x) (-y):=by
  obtain ⟨d,a,b,c⟩:=h
  exact ⟨d,by grind,b,c⟩
theorem As.div{n x y z:Rat}(hz:z≠0)(h:As n (x*z) (y*z)) :As n x y:=by
  obtain ⟨d,a,b,c⟩:=h
  refine ⟨d,?_,b,c⟩
  have e:x=x*z/z:=by grind
  rw [e,a];grind
theorem V2{n m d e:Rat}(hn:0≤n∧n≤1000000)(hm:0≤m∧m≤1000000)(b:9223372036854775808*d≤n)(c : -n≤9223372036854775808*d)(b':9223372036854775808*e≤m)(c' : -m≤9223372036854775808*e) :9223372036854775808*(d*e)≤1∧-1≤9223372036854775808*(d*e):=by
  have h1:=Rat.mul_nonneg (show 0≤n-9223372036854775808*d by grind) (show 0≤m-9223372036854775808*e by grind)
  have h2:=Rat.mul_nonneg (show 0≤n+9223372036854775808*d by grind) (show 0≤m+9223372036854775808*e by grind)
  have h3:=Rat.mul_nonneg (show 0≤n-9223372036854775808*d by grind) (show 0≤m+9223372036854775808*e by grind)
  have h4:=Rat.mul_nonneg (show 0≤n+9223372036854775808*d by grind) (show 0≤m-9223372036854775808*e by grind)
  have nm:n*m≤1000000*1000000:=by
    have e:=Rat.mul_le_mul_of_nonneg_left hm.2 hn.1
    have f:=Rat.mul_le_mul_of_nonneg_right hn.2 (show (0:Rat)≤1000000 by decide)
    grind
  constructor<;>grind
theorem As.trans{n m x y z:Rat}(h:As n x y)(h':As m y z)(hn:0≤n∧n≤1000000)(hm:0≤m∧m≤1000000) :As (n+m+1) x z:=by
  obtain ⟨d,a,b,c⟩:=h
  obtain ⟨e,a',b',c'⟩:=h'
  obtain ⟨f,g⟩:=V2 hn hm b c b' c'
  exact ⟨d+e+d*e,by grind,by grind,by grind⟩
theorem As.prod{n m x y x' y':Rat}(h:As n x y)(h':As m x' y')(hn:0≤n∧n≤1000000)(hm:0≤m∧m≤1000000) :As (n+m+1) (x*x') (y*y'):=by
  obtain ⟨d,a,b,c⟩:=h
  obtain ⟨e,a',b',c'⟩:=h'
  obtain ⟨f,g⟩:=V2 hn hm b c b' c'
  exact ⟨d+e+d*e,by grind,by grind,by grind⟩
theorem As.symm{n x y:Rat}(h:As n x y)(hn:0≤n∧n≤1000000) :As (n+1) y x:=by
  obtain ⟨d,a,b,c⟩:=h
  have p:0<1+d:=by grind
  have q:(1+d)*(1+d)⁻¹=1:=by grind
  have r:0<(1+d)⁻¹:=Rat.inv_pos.2 p
  refine ⟨(1+d)⁻¹-1,by grind,?_,?_⟩
  ·
    have s:9223372036854775808≤(9223372036854775808+(n+1))*(1+d):=by
      obtain ⟨f,g⟩:=V2 hn hn b c b c
      have t:0≤(n-9223372036854775808*d)*(n+9223372036854775808*d):=Rat.mul_nonneg (by grind) (by grind)
      have nn:n*n≤1000000*n:=Rat.mul_le_mul_of_nonneg_right hn.2 hn.1
      have u:=Rat.mul_le_mul_of_nonneg_left c hn.1
      grind
    have:=Rat.mul_le_mul_of_nonneg_right s (Rat.le_of_lt r)
    rw [Rat.mul_assoc,q,Rat.mul_one] at this
    grind
  · have s:(9223372036854775808-(n+1))*(1+d)≤9223372036854775808:=by
      have u:=Rat.mul_le_mul_of_nonneg_left c hn.1
      have nn:n*n≤1000000*n:=Rat.mul_le_mul_of_nonneg_right hn.2 hn.1
      grind
    have:=Rat.mul_le_mul_of_nonneg_right s (Rat.le_of_lt r)
    rw [Rat.mul_assoc,q,Rat.mul_one] at this
    grind
theorem As.add{n x x' c z z':Rat}(h:As n x (c*z))(h':As n x' (c*z'))(hz:0≤z)(hz':0≤z') :As n (x+x') (c*(z+z')):=by
  obtain ⟨d,a,b,e⟩:=h
  obtain ⟨d',a',b',e'⟩:=h'
  by_cases q:z+z'=0
  · have z0:z=0:=by grind
    have z1:z'=0:=by grind
    exact ⟨d,by grind,b,e⟩
  · have p:0<z+z':=by grind
    have r:0<(z+z')⁻¹:=Rat.inv_pos.2 p
    have q:(z+z')*(z+z')⁻¹=1:=by grind
    refine ⟨(z*d+z'*d')*(z+z')⁻¹,by grind,?_,?_⟩
    · have s1:=Rat.mul_le_mul_of_nonneg_left b hz
      have s2:=Rat.mul_le_mul_of_nonneg_left b' hz'
      have:=Rat.mul_le_mul_of_nonneg_right (show 9223372036854775808*(z*d+z'*d')≤n*(z+z') by grind) (Rat.le_of_lt r)
      rw [Rat.mul_assoc n,q,Rat.mul_one] at this
      grind
    · have s1:=Rat.mul_le_mul_of_nonneg_left e hz
      have s2:=Rat.mul_le_mul_of_nonneg_left e' hz'
      have:=Rat.mul_le_mul_of_nonneg_right (show (-n)*(z+z')≤9223372036854775808*(z*d+z'*d') by grind) (Rat.le_of_lt r)
      rw [Rat.mul_assoc (-n),q,Rat.mul_one] at this
      grind
theorem As.of{n x y:Rat}(hn:0≤n)(hy:0≤y)(a:9223372036854775808*(x-y)≤n*y)(b:9223372036854775808*(y-x)≤n*y) :As n x y:=by
  by_cases q:y=0
  · subst q
    exact ⟨0,by grind,by grind,by grind⟩
  · have p:0<y:=by grind
    have r:0<y⁻¹:=Rat.inv_pos.2 p
    have q:y*y⁻¹=1:=by grind
    have s1:=Rat.mul_le_mul_of_nonneg_right a (Rat.le_of_lt r)
    have s2:=Rat.mul_le_mul_of_nonneg_right b (Rat.le_of_lt r)
    rw [Rat.mul_assoc n,q,Rat.mul_one] at s1 s2
    exact ⟨(x-y)*y⁻¹,by grind,by grind,by grind⟩
def Un:Rat:=((E2 1074:Nat):Rat)
theorem dL:0<Un:=Rat.natCast_pos.2 (iq _)
def Pn:Rat:=((E2 500:Nat):Rat)
theorem Uc:1024≤Pn:=by
  have h:((1024:Nat):Rat)≤((E2 500:Nat):Rat):=Rat.natCast_le_natCast.2 (show E2 10≤E2 500 from ru (by omega))
  exact h
def rv(x:Nat) :Rat:=(fz x:Rat)*Un⁻¹
theorem ir(x:Nat) :rv x*Un=(fz x:Rat):=by
  have:=dL
  unfold rv
  rw [Rat.mul_assoc,Rat.inv_mul_cancel _ (by grind),Rat.mul_one]
theorem GF{a b:Rat}{c:Rat}(hc:0<c)(h:a*c=b*c) :a=b:=by
  have:a*c*c⁻¹=b*c*c⁻¹:=by rw [h]
  rw [Rat.mul_assoc,Rat.mul_assoc,Rat.mul_inv_cancel c (by grind),Rat.mul_one,Rat.mul_one] at this
  exact this
theorem I1(x:Nat) :rv x*rv x*(Un*Un)=((vl x*vl x:Nat):Rat):=by
  have e:rv x*rv x*(Un*Un)=rv x*Un*(rv x*Un):=by grind
  rw [e,ir,←Rat.intCast_mul]
  have:fz x*fz x=((vl x*vl x:Nat):Int):=by
    unfold vl
    rw [Int.natCast_mul,Int.natAbs_mul_self']
  rw [this,Rat.intCast_natCast]
theorem Rr{x:Nat}(h:rv x*rv x≤Pn*Pn) :vl x≤E2 1574:=by
  refine NV (Rat.natCast_le_natCast.1 ?_)
  rw [←I1,show E2 1574*E2 1574=E2 500*E2 500*(E2 1074*E2 1074) by rw [←bi,←bi,←bi,←bi],Rat.natCast_mul,Rat.natCast_mul,Rat.natCast_mul]
  exact Rat.mul_le_mul_of_nonneg_right h (Rat.le_of_lt (Rat.mul_pos dL dL))
theorem A5{x:Nat} :vl x=0↔rv x=0:=by
  have:=dL
  constructor
  · intro h
    have:fz x=0:=by unfold vl at h;omega
    unfold rv
    rw [this];exact Rat.zero_mul _
  · intro h
    have e:=ir x
    rw [h,Rat.zero_mul] at e
    have:fz x=0:=Rat.intCast_eq_zero_iff.1 e.symm
    unfold vl;omega
theorem KF(x y:Nat) :((vl x*vl y*(vl x*vl y):Nat):Rat)=rv x*rv y*(rv x*rv y)*(Un*Un*(Un*Un)):=by
  have e:vl x*vl y*(vl x*vl y)=vl x*vl x*(vl y*vl y):=by ac_rfl
  rw [e,Rat.natCast_mul,←I1,←I1];grind
theorem V3{x y:Nat}(h:1≤rv x*rv y*(rv x*rv y)*(Pn*Pn)) :E2 1126≤vl x*vl y:=by
  have s:E2 1648≤vl x*vl y:=by
    refine Nat.le_of_mul_le_mul_right (c:=E2 500) ?_ (iq _)
    rw [←bi]
    refine NV (Rat.natCast_le_natCast.1 ?_)
    have e:vl x*vl y*E2 500*(vl x*vl y*E2 500)=vl x*vl y*(vl x*vl y)*(E2 500*E2 500):=mm _ _
    rw [e,show E2 (1648+500)*E2 (1648+500)=E2 1074*E2 1074*(E2 1074*E2 1074) by rw [←bi,←bi,←bi],Rat.natCast_mul (vl x*vl y*(vl x*vl y)),KF,Rat.natCast_mul,Rat.natCast_mul,Rat.natCast_mul]
    clear e
    have hU:=Rat.mul_pos (Rat.mul_pos dL dL) (Rat.mul_pos dL dL)
    have:=Rat.mul_le_mul_of_nonneg_right h (Rat.le_of_lt hU)
    show Un*Un*(Un*Un)≤rv x*rv y*(rv x*rv y)*(Un*Un*(Un*Un))*(Pn*Pn)
    grind
  exact Nat.le_trans (ru (by omega)) s
theorem V4{x y:Nat}(h:rv x*rv y*(rv x*rv y)≤Pn*Pn) :vl x*vl y<E2 3000:=by
  have s:vl x*vl y≤E2 2648:=by
    refine NV (Rat.natCast_le_natCast.1 ?_)
    rw [show E2 2648*E2 2648=E2 500*E2 500*(E2 1074*E2 1074*(E2 1074*E2 1074)) by rw [←bi,←bi,←bi,←bi,←bi],KF,Rat.natCast_mul (E2 500*E2 500),Rat.natCast_mul,Rat.natCast_mul,Rat.natCast_mul]
    have hU:=Rat.mul_pos (Rat.mul_pos dL dL) (Rat.mul_pos dL dL)
    exact Rat.mul_le_mul_of_nonneg_right h (Rat.le_of_lt hU)
  exact Nat.lt_of_le_of_lt s (V1 (by omega))
structure Ok (x:Nat):Prop where
  lt:x<pE
  fin:fin x=true
theorem KG{n X Y:Nat}(h:Ap n X Y) :As (n:Rat) (X:Rat) (Y:Rat):=by
  obtain ⟨a,b⟩:=h
  have a':((9223372036854775808*X:Nat):Rat)≤(((9223372036854775808+n)*Y:Nat):Rat):=Rat.natCast_le_natCast.2 a
  have b':((9223372036854775808*Y:Nat):Rat)≤((9223372036854775808*X+n*Y:Nat):Rat):=Rat.natCast_le_natCast.2 b
  rw [Rat.natCast_mul,Rat.natCast_mul,Rat.natCast_add] at a'
  rw [Rat.natCast_mul,Rat.natCast_add,Rat.natCast_mul,Rat.natCast_mul] at b'
  have c:((9223372036854775808:Nat):Rat)=9223372036854775808:=rfl
  rw [c] at a' b'
  exact As.of (Rat.natCast_nonneg) (Rat.natCast_nonneg) (by grind) (by grind)
def sr(s:Bool) :Rat:=if s then -1 else 1
theorem Qy(s:Bool)(n:Nat) :((sg s n:Int):Rat)=sr s*(n:Rat):=by
  cases s
  · show (((n:Nat):Int):Rat)=1*(n:Rat)
    rw [Rat.intCast_natCast,Rat.one_mul]
  · show ((-((n:Nat):Int):Int):Rat) = -1*(n:Rat)
    rw [Rat.intCast_neg,Rat.intCast_natCast];grind
theorem Ud(s:Bool) :sr s*sr s=1:=by cases s<;>simp only [sr]<;>grind
theorem Ue(s t:Bool) :sr (s ^^ t)=sr s*sr t:=by cases s<;>cases t<;>simp only [sr]<;>grind
theorem A6{x:Nat}(hx:x<pE) :rv x*Un=sr (sb x)*(vl x:Rat):=by rw [ir,Vp hx,Qy]
theorem Rq.rv{s:Bool}{w:Nat}(h:Rq s w) :rv w*Un=sr s*(vl w:Rat):=by rw [ir,h.sgn,Qy]
theorem Rq.fn{s:Bool}{w:Nat}(h:Rq s w) :Ok w:=⟨h.lt,h.fin⟩
theorem U0{D R:Int}(h:9007199254740992*(R-D).natAbs≤D.natAbs) :As 1024 (R:Rat) (D:Rat):=by
  have key:∀ {D R:Int},0≤D→9007199254740992*(R-D).natAbs≤D.natAbs→As 1024 (R:Rat) (D:Rat):=by
    intro D R h0 h
    have a:9223372036854775808*(R-D)≤1024*D:=by omega
    have b:9223372036854775808*(D-R)≤1024*D:=by omega
    have a':=Rat.intCast_le_intCast.2 a
    have b':=Rat.intCast_le_intCast.2 b
    rw [Rat.intCast_mul,Rat.intCast_mul,Rat.intCast_sub] at a' b'
    exact As.of (by decide) (Rat.intCast_nonneg.2 h0) a' b'
  rcases Int.le_total 0 D with q | q
  · exact key q h
  · have:=key (D:=-D) (R:=-R) (by omega) (by omega)
    rw [Rat.intCast_neg,Rat.intCast_neg] at this
    have:=this.neg
    rw [Rat.neg_neg,Rat.neg_neg] at this
    exact this
theorem SC.asx{D:Int}{r:Nat}{y:Rat}(h:SC D r)(hy:y*Un=(D:Rat)) :Ok r∧As 1024 (rv r) y:=by
  refine ⟨⟨h.lt,h.fin⟩,?_⟩
  have:=U0 h.near
  rw [←ir,←hy] at this
  exact As.div (by have:=dL;grind) this
theorem KH{x y:Nat}(hx:Ok x)(hy:Ok y)(ux:rv x*rv x≤Pn*Pn)(uy:rv y*rv y≤Pn*Pn) :Ok (js x y)∧As 1024 (rv (js x y)) (rv x+rv y):=by
  have a:=Rr ux
  have b:=Rr uy
  have e:E2 1575=2*E2 1574:=V0 (a:=1574) (b:=1) (c:=1575) (L:=2) rfl (by decide)
  have c:0<E2 1574:=iq _
  refine (So (B:=1576) hx.lt hy.lt hx.fin hy.fin (by omega) ?_).asx ?_
  · have f:E2 1576=4*E2 1574:=V0 (a:=1574) (b:=2) (c:=1576) (L:=4) rfl (by decide)
    unfold vl at a b
    omega
  · rw [Rat.intCast_add,←ir,←ir,Rat.add_mul]
theorem Sr{x y B:Nat}(hx:x<pE)(hy:y<pE)(fx:Go.Plb.fin x=true)(fy:Go.Plb.fin y=true)(hB:B≤2000)(hb:(fz x-fz y).natAbs<E2 B) :SC (fz x-fz y) (fR x y):=T9 hx hy fx fy hB hb
theorem D8{x y:Nat}(hx:Ok x)(hy:Ok y)(ux:rv x*rv x≤Pn*Pn)(uy:rv y*rv y≤Pn*Pn) :Ok (fR x y)∧As 1024 (rv (fR x y)) (rv x-rv y):=by
  have a:=Rr ux
  have b:=Rr uy
  have c:0<E2 1574:=iq _
  refine (Sr (B:=1576) hx.lt hy.lt hx.fin hy.fin (by omega) ?_).asx ?_
  · have f:E2 1576=4*E2 1574:=V0 (a:=1574) (b:=2) (c:=1576) (L:=4) rfl (by decide)
    unfold vl at a b
    omega
  · rw [Rat.intCast_sub,←ir,←ir];grind
theorem uo{x y:Nat}(hx:Ok x)(hy:Ok y)(lo:rv x*rv y=0∨1≤rv x*rv y*(rv x*rv y)*(Pn*Pn))(hi:rv x*rv y*(rv x*rv y)≤Pn*Pn) :Ok (bC x y)∧As 1024 (rv (bC x y)) (rv x*rv y):=by
  obtain ⟨q,m⟩:=UY hx.lt hy.lt hx.fin hy.fin (V4 hi)
  refine ⟨q.fn,?_⟩
  have hU:=dL
  have ap:Ap 1024 (vl (bC x y)*E2 1074) (vl x*vl y):=by
    rcases m with h | ⟨h1,h2,h3⟩
    · exact h
    · have z:vl x*vl y=0:=by
        rcases lo with l | l
        · have e:=KF x y
          rw [l,Rat.zero_mul,Rat.zero_mul] at e
          have:=Rat.natCast_eq_zero_iff.1 e
          rcases Nat.mul_eq_zero.1 this with w | w<;>exact w
        · have:=V3 l
          omega
      have z':vl (bC x y)=0:=by
        rw [z] at h1
        have:=iq 1074
        rcases Nat.eq_zero_or_pos (vl (bC x y)) with w | w
        · exact w
        · have:=Nat.le_mul_of_pos_left (E2 1074) w
          omega
      rw [z,z',Nat.zero_mul]
      exact Ap.refl _ _
  have asx:=(KG ap).mul (sr (sb x ^^ sb y))
  rw [Rat.natCast_mul,Rat.natCast_mul] at asx
  have e1:=q.rv
  have e2:=A6 hx.lt
  have e3:=A6 hy.lt
  have x1:(vl (bC x y):Rat)*((E2 1074:Nat):Rat)*sr (sb x ^^ sb y)=rv (bC x y)*(Un*Un):=by
    show (vl (bC x y):Rat)*Un*sr (sb x ^^ sb y)=_
    grind
  have x2:(vl x:Rat)*(vl y:Rat)*sr (sb x ^^ sb y)=rv x*rv y*(Un*Un):=by
    rw [Ue]
    have:rv x*rv y*(Un*Un)=(rv x*Un)*(rv y*Un):=by grind
    rw [this,e2,e3];grind
  rw [x1,x2] at asx
  exact As.div (by have:=Rat.mul_pos hU hU;grind) asx
theorem KI{x y:Nat}(hx:Ok x)(hy:Ok y)(x0:rv x≠0)(y0:rv y≠0)(hlo:rv y*rv y≤rv x*rv x*(Pn*Pn))(hhi:rv x*rv x≤rv y*rv y*(Pn*Pn)) :Ok (fdiv x y)∧As 1540 (rv (fdiv x y)*rv y) (rv x):=by
  have hU:=dL
  have rat:∀ {a b:Nat},rv a*rv a≤rv b*rv b*(Pn*Pn)→vl a≤vl b*E2 500:=by
    intro a b h
    refine NV (Rat.natCast_le_natCast.1 ?_)
    have e:vl b*E2 500*(vl b*E2 500)=vl b*vl b*(E2 500*E2 500):=mm _ _
    rw [e,Rat.natCast_mul (vl b*vl b),←I1,←I1,Rat.natCast_mul]
    have:=Rat.mul_le_mul_of_nonneg_right h (Rat.le_of_lt (Rat.mul_pos hU hU))
    clear e
    show _≤rv b*rv b*(Un*Un)*(Pn*Pn)
    grind
  have h1:=rat hlo
  have h2:=rat hhi
  obtain ⟨q,ap⟩:=UZ hx.lt hy.lt hx.fin hy.fin (fun w=>x0 (A5.1 w)) (fun w=>y0 (A5.1 w)) (Nat.le_trans h1 (Nat.mul_le_mul_left _ (ru (by omega)))) (Nat.le_trans h2 (Nat.mul_le_mul_left _ (ru (by omega))))
  refine ⟨q.fn,?_⟩
  have asx:=(KG ap).mul (sr (sb x))
  rw [Rat.natCast_mul,Rat.natCast_mul] at asx
  have e1:=q.rv
  have e2:=A6 hx.lt
  have e3:=A6 hy.lt
  have x1:(vl (fdiv x y):Rat)*(vl y:Rat)*sr (sb x)=rv (fdiv x y)*rv y*(Un*Un):=by
    have:rv (fdiv x y)*rv y*(Un*Un)=(rv (fdiv x y)*Un)*(rv y*Un):=by grind
    rw [this,e1,e3,Ue]
    have:=Ud (sb y)
    grind
  have x2:(vl x:Rat)*((E2 1074:Nat):Rat)*sr (sb x)=rv x*(Un*Un):=by
    show (vl x:Rat)*Un*sr (sb x)=_
    grind
  rw [x1,x2] at asx
  exact As.div (by have:=Rat.mul_pos hU hU;grind) asx
theorem Uf{x:Nat}(hx:x<pE)(h:0<rv x) :sb x=false∧vl x≠0:=by
  have hU:=dL
  have e:=A6 hx
  have n:(0:Rat)≤(vl x:Rat):=Rat.natCast_nonneg
  refine ⟨?_,fun w=>by have:=A5.1 w;grind⟩
  cases q:sb x
  · rfl
  · rw [q] at e
    have:=Rat.mul_pos h hU
    simp only [sr,if_true] at e
    grind
theorem NW{x:Nat}(hx:Ok x)(h:0<rv x) :Ok (fG x)∧0≤rv (fG x)∧As 2700 (rv (fG x)*rv (fG x)) (rv x):=by
  have hU:=dL
  obtain ⟨s,v0⟩:=Uf hx.lt h
  obtain ⟨q,ap⟩:=Ub hx.lt hx.fin s v0
  have e1:=q.rv
  have e2:=A6 hx.lt
  rw [s] at e2
  simp only [sr,Bool.false_eq_true,if_false,Rat.one_mul] at e1 e2
  refine ⟨q.fn,?_,?_⟩
  · refine Rat.le_of_mul_le_mul_right (c:=Un) ?_ hU
    rw [e1,Rat.zero_mul];exact Rat.natCast_nonneg
  · have asx:=KG ap
    rw [Rat.natCast_mul,Rat.natCast_mul] at asx
    have x1:(vl (fG x):Rat)*(vl (fG x):Rat)=rv (fG x)*rv (fG x)*(Un*Un):=by
      rw [←e1];grind
    have x2:(vl x:Rat)*((E2 1074:Nat):Rat)=rv x*(Un*Un):=by
      rw [←e2];show rv x*Un*Un=_;grind
    rw [x1,x2] at asx
    exact As.div (by have:=Rat.mul_pos hU hU;grind) asx
def Bn:Rat:=((E2 100:Nat):Rat)
theorem KJ:1048576≤Bn:=by
  have h:((1048576:Nat):Rat)≤((E2 100:Nat):Rat):=Rat.natCast_le_natCast.2 (show E2 20≤E2 100 from ru (by omega))
  exact h
theorem Vq:Pn=Bn*Bn*Bn*Bn*Bn:=by
  unfold Pn Bn
  rw [←Rat.natCast_mul,←Rat.natCast_mul,←Rat.natCast_mul,←Rat.natCast_mul,←bi,←bi,←bi,←bi]
theorem mY{z:Rat}(h:1≤z) :1≤z*z:=by
  have:=Rat.mul_le_mul_of_nonneg_left h (show 0≤z by grind)
  grind
theorem cJ{y z:Rat}(h0:0≤y)(h:y≤z) :y*y≤z*z:=by
  have a:=Rat.mul_le_mul_of_nonneg_left h h0
  have b:=Rat.mul_le_mul_of_nonneg_right h (show 0≤z by grind)
  grind
theorem zz{y z:Rat}(h0:0≤z)(h:y*y≤z*z) :y≤z:=by
  rcases (Rat.le_total:y≤z∨z≤y) with q | q
  · exact q
  · by_cases e:y=z
    · grind
    · have p:z<y:=by grind
      have a:=Rat.mul_lt_mul_of_pos_right p (show 0<y by grind)
      have b:=Rat.mul_le_mul_of_nonneg_left q h0
      grind
theorem mR{a b A B:Rat}(ha:0≤a)(hb:0≤b)(h:a≤A)(h':b≤B) :a*b≤A*B:=by
  have x:=Rat.mul_le_mul_of_nonneg_left h' ha
  have y:=Rat.mul_le_mul_of_nonneg_right h (show 0≤B by grind)
  grind
theorem As.bd{n x y:Rat}(h:As n x y)(hn:n≤1000000)(hy:0≤y) :1000000*x≤1000001*y∧999999*y≤1000000*x:=by
  obtain ⟨d,a,b,c⟩:=h
  have p:9223372036854775808*(y*d)≤y*1000000:=by
    have:=Rat.mul_le_mul_of_nonneg_left (show 9223372036854775808*d≤1000000 by grind) hy
    grind
  have q : -(y*1000000)≤9223372036854775808*(y*d):=by
    have:=Rat.mul_le_mul_of_nonneg_left (show -1000000≤9223372036854775808*d by grind) hy
    grind
  constructor<;>grind
theorem As.pos{n x y:Rat}(h:As n x y)(hn:n≤1000000)(hy:0<y) :0<x:=by
  have:=h.bd hn (Rat.le_of_lt hy)
  grind
theorem D9{x y:Nat}(hx:Ok x)(hy:Ok y)(px:0<rv x)(py:0<rv y)(lo:1≤rv x*rv y*Pn)(hi:rv x*rv y≤Pn) :Ok (bC x y)∧As 1024 (rv (bC x y)) (rv x*rv y)∧0<rv (bC x y):=by
  have p:=Rat.mul_pos px py
  obtain ⟨a,b⟩:=uo hx hy (.inr (by have:=mY lo;grind)) (cJ (Rat.le_of_lt p) hi)
  exact ⟨a,b,b.pos (by decide) p⟩
theorem Rs{x y:Nat}(hx:Ok x)(hy:Ok y)(px:0<rv x)(py:0<rv y)(lo:rv y≤rv x*Pn)(hi:rv x≤rv y*Pn) :Ok (fdiv x y)∧As 1540 (rv (fdiv x y)*rv y) (rv x)∧0<rv (fdiv x y):=by
  obtain ⟨a,b⟩:=KI hx hy (by grind) (by grind) (by have:=cJ (Rat.le_of_lt py) lo;grind) (by have:=cJ (Rat.le_of_lt px) hi;grind)
  refine ⟨a,b,?_⟩
  have:=b.pos (by decide) px
  exact (Rat.mul_pos_iff_of_pos_right py).1 this
theorem KK{x y:Nat}(hx:Ok x)(hy:Ok y)(px:0≤rv x)(py:0≤rv y)(ux:rv x≤Pn)(uy:rv y≤Pn) :Ok (js x y)∧As 1024 (rv (js x y)) (rv x+rv y):=KH hx hy (cJ px ux) (cJ py uy)
theorem zA:Ok dK∧rv dK=1:=by
  obtain ⟨o1,o2,o3⟩:=VZ
  refine ⟨⟨o1,o2⟩,?_⟩
  have e:=A6 o1
  rw [o3,VY] at e
  simp only [sr,Bool.false_eq_true,if_false,Rat.one_mul] at e
  exact GF dL (by rw [e,Rat.one_mul];rfl)
theorem mS{x:Nat}(h:Ok x) :Ok (aL x)∧0≤rv (aL x)∧rv (aL x)*rv (aL x)=rv x*rv x∧(rv (aL x)=rv x∨rv (aL x) = -rv x):=by
  have hx:=h.lt
  have hx':x<18446744073709551616:=hx
  have hU:=dL
  have hlt:aL x<pE:=by rw [Ae hx];show _<18446744073709551616;omega
  have hf:fin (aL x)=true:=by
    have:=h.fin
    rw [Ae hx]
    unfold fin Fb at this ⊢
    rw [bne_iff_ne] at this ⊢
    omega
  have hz:fz (aL x)=(((fz x).natAbs:Nat):Int):=by
    rw [Ae hx]
    unfold fz
    rw [tg,Nat.mod_mod,show x%9223372036854775808/9223372036854775808=0 by omega]
    rfl
  have e:rv (aL x)*Un=(((fz x).natAbs:Nat):Rat):=by rw [ir,hz,Rat.intCast_natCast]
  have e2:=ir x
  have dis:rv (aL x)=rv x∨rv (aL x) = -rv x:=by
    rcases Int.natAbs_eq (fz x) with q | q
    · left
      refine GF hU ?_
      rw [e,e2,←Rat.intCast_natCast,←q]
    · right
      refine GF hU ?_
      rw [e,Rat.neg_mul,e2,←Rat.intCast_natCast,←Rat.intCast_neg]
      exact congrArg _ (by omega)
  refine ⟨⟨hlt,hf⟩,?_,?_,dis⟩
  · refine Rat.le_of_mul_le_mul_right (c:=Un) ?_ hU
    rw [e,Rat.zero_mul];exact Rat.natCast_nonneg
  · rcases dis with q | q<;>rw [q]<;>grind
theorem GG{x y:Nat}(hx:Ok x)(hy:Ok y) :flt x y=true↔rv x<rv y:=by
  rw [VX hx.lt hy.lt hx.fin hy.fin,decide_eq_true_eq]
  have hU:=dL
  have e1:=ir x
  have e2:=ir y
  constructor
  · intro h
    refine Rat.lt_of_mul_lt_mul_right (c:=Un) ?_ (Rat.le_of_lt hU)
    rw [e1,e2];exact Rat.intCast_lt_intCast.2 h
  · intro h
    have:=Rat.mul_lt_mul_of_pos_right h hU
    rw [e1,e2] at this
    exact Rat.intCast_lt_intCast.1 this
theorem A7{x y:Nat}(hx:Ok x)(hy:Ok y) :qI x y=some (if rv x<rv y then .lt else if rv y<rv x then .gt else .eq):=by
  unfold qI Ieee.Format.order
  rw [dt hx.lt hx.fin,dt hy.lt hy.fin]
  simp only [Ieee.Datum.order]
  have key:=GG hx hy
  have key2:=GG hy hx
  unfold flt qI Ieee.Format.order at key key2
  rw [dt hx.lt hx.fin,dt hy.lt hy.fin] at key key2
  simp only [Ieee.Datum.order,beq_iff_eq,Option.some.injEq] at key key2
  rw [Int.min_comm] at key2
  congr 1
  generalize Ieee.signed (x/9223372036854775808%2==1) _ _=a at *
  generalize Ieee.signed (y/9223372036854775808%2==1) _ _=b at *
  rcases Int.lt_trichotomy a b with q | q | q
  · have l:=Int.compare_eq_lt.2 q
    rw [l,if_pos (key.1 l)]
  · subst q
    have e:compare a a=.eq:=Int.compare_eq_eq.2 rfl
    rw [e] at key key2 ⊢
    rw [if_neg (fun w=>by cases key.2 w),if_neg (fun w=>by cases key2.2 w)]
  · have l:=Int.compare_eq_gt.2 q
    have l2:=Int.compare_eq_lt.2 q
    rw [l] at key ⊢
    rw [if_neg (fun w=>by cases key.2 w),if_pos (key2.1 l2)]
theorem Ug{x y:Nat}(hx:Ok x)(hy:Ok y) :Va x y=true↔rv y<rv x:=by
  unfold Va
  rw [A7 hx hy]
  by_cases a:rv x<rv y
  · rw [if_pos a];constructor
    · intro h;cases h
    · intro h;exact absurd h (by grind)
  · rw [if_neg a]
    by_cases b:rv y<rv x
    · rw [if_pos b];exact ⟨fun _=>b,fun _=>rfl⟩
    · rw [if_neg b];exact ⟨fun h=>(by cases h),fun h=>absurd h b⟩
theorem wK{x y:Nat}(hx:Ok x)(hy:Ok y) :xC x y=true↔rv x=rv y:=by
  unfold xC
  rw [A7 hx hy]
  by_cases a:rv x<rv y
  · rw [if_pos a];constructor
    · intro h;cases h
    · intro h;exact absurd a (by grind)
  · rw [if_neg a]
    by_cases b:rv y<rv x
    · rw [if_pos b];constructor
      · intro h;cases h
      · intro h;exact absurd b (by grind)
    · rw [if_neg b];exact ⟨fun h=>by grind,fun h=>rfl⟩
theorem xz:Ok 0∧rv 0=0:=by
  obtain ⟨r1,r2,r3⟩:=W5
  exact ⟨r1.fn,A5.1 r2⟩
structure H2 (x:Nat):Prop where
  ok:Ok x
  lo:rv x=0∨1≤rv x*rv x*(Bn*Bn)
  hi:rv x*rv x≤Bn*Bn
theorem GH{y:Nat}(hy:Ok y)(h:0<rv y) :fdiv 0 y=0:=by
  obtain ⟨hs,v0⟩:=Uf hy.lt h
  have n0:cN (y%9223372036854775808)≠0:=by intro q;apply v0;rw [qG,q,Nat.zero_mul]
  have r0:FloatKind.f64.format.read 0=.number false 0 (-1074+((0:Nat):Int)):=dt (x:=0) (by decide) (by decide)
  have hs':(y/9223372036854775808%2==1)=false:=hs
  unfold fdiv Ieee.Format.div
  rw [r0,dt hy.lt hy.fin,hs']
  simp only [Ieee.Datum.quotient,if_neg n0,Nat.zero_shiftLeft,Nat.zero_div,Nat.zero_mod]
  have g:∀ d:Int,(Option.map FloatKind.f64.format.write (some (Ieee.Datum.number (false ^^ false) (2*0+(0 != 0).toNat) d))).getD KN=0:=fun d=>KE d
  exact g _
structure Po (x:Nat):Prop where
  ok:Ok x
  lo:1≤rv x*Bn
  hi:rv x≤Bn
theorem ig:0<Bn:=by have:=KJ;grind
theorem Po.pos{x:Nat}(h:Po x) :0<rv x:=by
  have:=h.lo
  have b:=ig
  by_cases q:0<rv x
  · exact q
  · have:=Rat.mul_le_mul_of_nonneg_right (show rv x≤0 by grind) (Rat.le_of_lt b)
    grind
theorem H2.po{x:Nat}(h:H2 x)(h0:rv x≠0) :Po (aL x):=by
  obtain ⟨a1,a2,a3,a4⟩:=mS h.ok
  have b:=ig
  refine ⟨a1,zz (Rat.mul_nonneg a2 (Rat.le_of_lt b)) ?_,zz (Rat.le_of_lt b) (by rw [a3];exact h.hi)⟩
  rcases h.lo with q | q
  · exact absurd q h0
  · have e:rv (aL x)*Bn*(rv (aL x)*Bn)=rv (aL x)*rv (aL x)*(Bn*Bn):=by grind
    rw [Rat.one_mul,e,a3];exact q
def U1(j:Rat)(s:Nat×Nat)(A:Rat) :Prop :=
  (s=(0,dK)∧A=0)∨(Po s.1∧Ok s.2∧1000-j≤1000*rv s.2∧rv s.2≤2*j∧0<A∧1≤j∧As (6200*j) (rv s.1*rv s.1*rv s.2) A)
theorem WQ{s w a j A:Rat}{t r u v:Rat}(hs:0<s)(ha:0<a)(hw:0<w)(hA:0<A)(j0:1≤j)(j1:j≤100) 
    (k:As (6200*j) (s*s*w) A) (hr:As 1540 (r*a) s) (ht:As 1024 t (w*r)) (hu:As 1024 u (t*r)) (hv:As 1024 v (1+u)):As (6200*(j+1)) (a*a*v) (a*a+A):=by
  have e1:As 2049 u (w*r*r):=((hu.trans (ht.mul r) (by decide) (by decide)).mono (by grind))
  have e2:As 3081 (r*a*(r*a)) (s*s):=(hr.prod hr (by decide) (by decide)).mono (by grind)
  have e3:As 5131 (u*(a*a)) (s*s*w):=by
    have x:=e1.mul (a*a)
    have y:=e2.mul w
    have e:w*r*r*(a*a)=r*a*(r*a)*w:=by grind
    rw [e] at x
    exact (x.trans y (by decide) (by decide)).mono (by grind)
  have e4:As (5132+6200*j) (u*(a*a)) A:=(e3.trans k (by decide) (by grind)).mono (by grind)
  have e5:As (5132+6200*j) (a*a+u*(a*a)) (1*(a*a+A)):=As.add (by rw [Rat.one_mul];exact As.refl _ _ (by grind)) (by rw [Rat.one_mul];exact e4) (Rat.le_of_lt (Rat.mul_pos ha ha)) (Rat.le_of_lt hA)
  have e6:=hv.mul (a*a)
  have e:(1+u)*(a*a)=a*a+u*(a*a):=by grind
  rw [e] at e6
  have e7:=e6.trans e5 (by decide) (by grind)
  rw [Rat.one_mul,Rat.mul_comm v] at e7
  exact e7.mono (by grind)
theorem V5{s w a j A:Rat}{r u v:Rat}(hs:0<s)(ha:0<a)(hw:0<w)(hA:0<A)(j0:1≤j)(j1:j≤100) 
    (k:As (6200*j) (s*s*w) A) (hr:As 1540 (r*s) a) (hu:As 1024 u (r*r)) (hv:As 1024 v (w+u)):As (6200*(j+1)) (s*s*v) (A+a*a):=by
  have e2:As 3081 (r*s*(r*s)) (a*a):=(hr.prod hr (by decide) (by decide)).mono (by grind)
  have e3:As 4106 (u*(s*s)) (a*a):=by
    have x:=hu.mul (s*s)
    have e:r*r*(s*s)=r*s*(r*s):=by grind
    rw [e] at x
    exact (x.trans e2 (by decide) (by decide)).mono (by grind)
  have e5:As (6200*j) (s*s*w+u*(s*s)) (1*(A+a*a)):=As.add (by rw [Rat.one_mul];exact k) (by rw [Rat.one_mul];exact e3.mono (by grind)) (Rat.le_of_lt hA) (Rat.le_of_lt (Rat.mul_pos ha ha))
  have e6:=hv.mul (s*s)
  have e:(w+u)*(s*s)=s*s*w+u*(s*s):=by grind
  rw [e] at e6
  have e7:=e6.trans e5 (by decide) (by grind)
  rw [Rat.one_mul,Rat.mul_comm v] at e7
  exact e7.mono (by grind)
structure Rt (r:Rat):Prop where
  pos:0<r
  lo:1≤2*(r*(Bn*Bn))
  hi:1000000*r≤1000001
theorem Uh{x y:Nat}(hx:Po x)(hy:Po y)(le:rv x≤rv y) :Ok (fdiv x y)∧As 1540 (rv (fdiv x y)*rv y) (rv x)∧Rt (rv (fdiv x y)):=by
  have px:=hx.pos
  have py:=hy.pos
  have b:=ig
  have bb:=KJ
  have hP:Pn=Bn*Bn*Bn*Bn*Bn:=Vq
  have lo:rv y≤rv x*Pn:=by
    have s1:=hx.lo
    have s2:=hy.hi
    have s3:1≤Bn*Bn*Bn:=by
      have:=mY (show 1≤Bn by grind)
      have:=Rat.mul_le_mul_of_nonneg_right this (Rat.le_of_lt b)
      grind
    have s4:=Rat.mul_le_mul_of_nonneg_right s1 (show 0≤Bn*Bn*Bn*Bn by have:=Rat.mul_nonneg (Rat.mul_nonneg (Rat.mul_nonneg (Rat.le_of_lt b) (Rat.le_of_lt b)) (Rat.le_of_lt b)) (Rat.le_of_lt b);grind)
    have s5:=Rat.mul_le_mul_of_nonneg_right s3 (Rat.le_of_lt b)
    rw [hP]
    grind
  have hi:rv x≤rv y*Pn:=by
    have:=Rat.mul_le_mul_of_nonneg_left (show 1≤Pn by have:=Uc;grind) (Rat.le_of_lt py)
    grind
  obtain ⟨a,h,p⟩:=Rs hx.ok hy.ok px py lo hi
  refine ⟨a,h,p,?_,?_⟩
  · have q:=(h.bd (by decide) (Rat.le_of_lt px)).2
    have s1:=Rat.mul_le_mul_of_nonneg_left hy.hi (Rat.le_of_lt p)
    have s2:=Rat.mul_le_mul_of_nonneg_right (show 999999*rv x≤1000000*(rv (fdiv x y)*Bn) by grind) (Rat.le_of_lt b)
    have s3:=hx.lo
    grind
  · have q:=(h.bd (by decide) (Rat.le_of_lt px)).1
    refine Rat.le_of_mul_le_mul_right (c:=rv y) ?_ py
    grind
theorem Vr:Pn=Bn*Bn*(Bn*Bn)*Bn:=by rw [Vq];grind
theorem V6:1048576≤Pn:=by
  have q:((1048576:Nat):Rat)≤((E2 500:Nat):Rat):=Rat.natCast_le_natCast.2 (show E2 20≤E2 500 from ru (by omega))
  exact q
theorem Qz{x y:Nat}(hx:Ok x)(hy:Ok y)(px:0<rv x)(l1:1≤8*(rv x*(Bn*Bn)))(u1:rv x≤1000)(r:Rt (rv y)) :Ok (bC x y)∧As 1024 (rv (bC x y)) (rv x*rv y)∧0<rv (bC x y)∧rv (bC x y)*100000≤rv x*100001:=by
  have b:=ig
  have bb:=KJ
  have py:=r.pos
  have bb2:0<Bn*Bn:=Rat.mul_pos b b
  have lo:1≤rv x*rv y*Pn:=by
    have s:=mR (a:=1) (b:=1) (by decide) (by decide) l1 r.lo
    have e:8*(rv x*(Bn*Bn))*(2*(rv y*(Bn*Bn)))=16*(rv x*rv y*(Bn*Bn*(Bn*Bn))):=by grind
    rw [e] at s
    have s2:=Rat.mul_le_mul_of_nonneg_right s (Rat.le_of_lt b)
    rw [Vr]
    grind
  have up:=mR (Rat.le_of_lt px) (Rat.le_of_lt py) u1 (show rv y≤2 by have:=r.hi;grind)
  obtain ⟨a,h,p⟩:=D9 hx hy px py lo (by have:=V6;grind)
  refine ⟨a,h,p,?_⟩
  have q:=(h.bd (by decide) (Rat.le_of_lt (Rat.mul_pos px py))).1
  have s:=Rat.mul_le_mul_of_nonneg_left r.hi (Rat.le_of_lt px)
  grind
theorem U2{j A:Rat}{s:Nat×Nat}{x:Nat}(h:U1 j s A)(hx:H2 x)(j0:0≤j)(j1:j≤100) :U1 (j+1) (Di s x) (A+rv x*rv x):=by
  obtain ⟨z1,z2⟩:=xz
  have b:=ig
  have bb:=KJ
  have bb2:0<Bn*Bn:=Rat.mul_pos b b
  by_cases h0:rv x=0
  · have f:xC x 0=true:=(wK hx.ok z1).2 (by rw [h0,z2])
    rw [WE f,h0,Rat.zero_mul,Rat.add_zero]
    rcases h with q | ⟨a,b,c,d,e,f,g⟩
    · exact .inl q
    · exact .inr ⟨a,b,by grind,by grind,e,by grind,g.mono (by grind)⟩
  · have f:xC x 0=false:=by
      cases q:xC x 0
      · rfl
      · exact absurd ((wK hx.ok z1).1 q) (by rw [z2];exact h0)
    have po:=hx.po h0
    obtain ⟨a1,a2,a3,a4⟩:=mS hx.ok
    have pp:=po.pos
    have sq:=Rat.mul_pos pp pp
    rcases h with ⟨q1,q2⟩ | ⟨ps,o2,l3,u2,hA,j2,k⟩
    ·
      subst q1 q2
      have l:flt 0 (aL x)=true:=(GG z1 a1).2 (by rw [z2];exact pp)
      obtain ⟨y1,y2,y3,y4⟩:=z0
      have e:Di (0,dK) x=(aL x,dK):=by
        unfold Di
        rw [f,l,GH a1 pp]
        show (aL x,js dK (bC (bC dK 0) 0))=_
        rw [y4,y1,y2]
      obtain ⟨w1,w2⟩:=zA
      rw [e]
      refine .inr ⟨po,w1,?_,?_,?_,by grind,?_⟩
      · show _≤1000*rv dK;rw [w2];grind
      · show rv dK≤_;rw [w2];grind
      · rw [Rat.zero_add,←a3];exact sq
      · show As _ (rv (aL x)*rv (aL x)*rv dK) _
        rw [w2,Rat.mul_one,Rat.zero_add,a3]
        exact As.refl _ _ (by grind)
    · have l2:1≤2*rv s.2:=by grind
      have pw:0<rv s.2:=by grind
      obtain ⟨w1,w2⟩:=zA
      have bw:1≤8*(rv s.2*(Bn*Bn)):=by
        have:=Rat.mul_le_mul_of_nonneg_right l2 (Rat.le_of_lt bb2)
        have:=mY (show 1≤Bn by grind)
        grind
      have hPn:1000≤Pn:=by have:=Uc;grind
      cases q:flt s.1 (aL x)
      · have le:rv (aL x)≤rv s.1:=by
          have:=mt (GG ps.ok a1).2 (by rw [q];decide)
          grind
        obtain ⟨r1,r2,r3⟩:=Uh po ps le
        have rl:1≤8*(rv (fdiv (aL x) s.1)*(Bn*Bn)):=by have:=r3.lo;have:=Rat.mul_pos r3.pos bb2;grind
        obtain ⟨m1,m2,m3,m4⟩:=Qz r1 r1 r3.pos rl (by have:=r3.hi;grind) r3
        have rh:=r3.hi
        obtain ⟨v1,v2⟩:=KK o2 m1 (Rat.le_of_lt pw) (Rat.le_of_lt m3) (by grind) (by grind)
        have vb:=v2.bd (by decide) (show 0≤rv s.2+rv (bC (fdiv (aL x) s.1) (fdiv (aL x) s.1)) by grind)
        have e:Di s x=(s.1,js s.2 (bC (fdiv (aL x) s.1) (fdiv (aL x) s.1))):=by
          unfold Di
          rw [f,q];rfl
        rw [e]
        refine .inr ⟨ps,v1,?_,?_,?_,by grind,?_⟩
        · show _≤1000*rv (js _ _);clear v2 m2 r2 k;grind
        · show rv (js _ _)≤_;clear v2 m2 r2 k;grind
        · rw [←a3];grind
        · show As _ (rv s.1*rv s.1*rv (js _ _)) _
          rw [←a3]
          exact V5 ps.pos pp pw hA j2 j1 k r2 m2 v2
      · have lt:rv s.1<rv (aL x):=(GG ps.ok a1).1 q
        obtain ⟨r1,r2,r3⟩:=Uh ps po (Rat.le_of_lt lt)
        obtain ⟨m1,m2,m3,m4⟩:=Qz o2 r1 pw bw (by grind) r3
        have ml:1≤8*(rv (bC s.2 (fdiv s.1 (aL x)))*(Bn*Bn)):=by
          have c1:=(m2.bd (by decide) (Rat.le_of_lt (Rat.mul_pos pw r3.pos))).2
          have c2:=Rat.mul_le_mul_of_nonneg_right c1 (Rat.le_of_lt bb2)
          have c3:=Rat.mul_le_mul_of_nonneg_right l2 (Rat.le_of_lt (Rat.mul_pos r3.pos bb2))
          have c4:=r3.lo
          grind
        obtain ⟨t1,t2,t3,t4⟩:=Qz m1 r1 m3 ml (by grind) r3
        have rh:=r3.hi
        obtain ⟨v1,v2⟩:=KK w1 t1 (by rw [w2];decide) (Rat.le_of_lt t3) (by rw [w2];grind) (by grind)
        rw [w2] at v2
        have vb:=v2.bd (by decide) (show 0≤1+rv (bC (bC s.2 (fdiv s.1 (aL x))) (fdiv s.1 (aL x))) by grind)
        have e:Di s x=(aL x,js dK (bC (bC s.2 (fdiv s.1 (aL x))) (fdiv s.1 (aL x)))):=by
          unfold Di
          rw [f,q];rfl
        rw [e]
        refine .inr ⟨po,v1,?_,?_,?_,by grind,?_⟩
        · show _≤1000*rv (js _ _);clear v2 m2 r2 k;grind
        · show rv (js _ _)≤_;clear v2 m2 r2 k;grind
        · rw [←a3];grind
        · show As _ (rv (aL x)*rv (aL x)*rv (js _ _)) _
          rw [Rat.add_comm A,←a3]
          exact WQ ps.pos pp pw hA j2 j1 k r2 m2 t2 v2
def Cl:List Nat→Rat
  | []=>0
  | x::l=>rv x*rv x+Cl l
theorem U3(l:List Nat) :0≤Cl l:=by
  induction l with
  | nil=>exact Rat.le_refl
  | cons x l ih =>
    show 0≤rv x*rv x+Cl l
    have:0≤rv x*rv x:=by
      rcases (Rat.le_total:0≤rv x∨rv x≤0) with q | q
      · exact Rat.mul_nonneg q q
      · have:=Rat.mul_nonneg (show 0≤-rv x by grind) (show 0≤-rv x by grind)
        grind
    grind
def gH(l:List Nat) :Nat:=bC (l.foldl Di (0,dK)).1 (fG (l.foldl Di (0,dK)).2)
theorem Ui{l:List Nat} :∀ {j A:Rat} {s:Nat×Nat},U1 j s A→(∀ x∈l,H2 x)→0≤j→j+(l.length:Rat)≤100→U1 (j+(l.length:Rat)) (l.foldl Di s) (A+Cl l):=by
  induction l with
  | nil =>
    intro j A s h _ _ _
    have e1:j+(([]:List Nat).length:Rat)=j:=Rat.add_zero j
    have e2:A+Cl []=A:=Rat.add_zero A
    rw [e1,e2];exact h
  | cons x l ih =>
    intro j A s h hl j0 j1
    have e:((x::l).length:Rat)=(l.length:Rat)+1:=by rw [List.length_cons,Rat.natCast_add];rfl
    have n0:(0:Rat)≤(l.length:Rat):=Rat.natCast_nonneg
    rw [e] at j1 ⊢
    have:=ih (U2 h (hl x (List.mem_cons_self ..)) j0 (by grind)) (fun y hy=>hl y (List.mem_cons_of_mem _ hy)) (by grind) (by grind)
    have e2:A+Cl (x::l)=A+rv x*rv x+Cl l:=by show A+(rv x*rv x+Cl l)=_;grind
    rw [e2,show j+((l.length:Rat)+1)=j+1+(l.length:Rat) by grind]
    exact this
structure Pw (x:Nat):Prop where
  ok:Ok x
  pos:0<rv x
  lo:1≤128*(rv x*Bn)
  hi:rv x≤128*Bn
theorem Po.pw{x:Nat}(h:Po x) :Pw x:=by
  have p:=Rat.mul_pos h.pos ig
  exact ⟨h.ok,h.pos,by have:=h.lo;grind,by have:=h.hi;have:=ig;grind⟩
theorem mT:1152921504606846976≤Bn:=by
  have h:((1152921504606846976:Nat):Rat)≤((E2 100:Nat):Rat):=Rat.natCast_le_natCast.2 (show E2 60≤E2 100 from ru (by omega))
  exact h
theorem QA{s m j A:Rat}(k:As (6200*j) (s*s*m) A)(j0:1≤j)(j1:j≤100){r L:Rat}(hr:As 2700 (r*r) m)(hL:As 1024 L (s*r)) :As (6200*j+4800) (L*L) A:=by
  have a:As 2049 (L*L) (s*r*(s*r)):=(hL.prod hL (by decide) (by decide)).mono (by grind)
  have b:As 2700 (s*r*(s*r)) (s*s*m):=by
    have x:=hr.mul (s*s)
    have e1:r*r*(s*s)=s*r*(s*r):=by grind
    have e2:m*(s*s)=s*s*m:=by grind
    rw [e1,e2] at x;exact x
  exact ((a.trans b (by decide) (by decide)).trans k (by grind) (by grind)).mono (by grind)
theorem Ru{m r lo hi:Rat}(hr:As 2700 (r*r) m)(r0:0≤r)(l0:0≤lo)(h0:0≤hi)(h1:4*(lo*lo)≤3*m)(h2:2*m≤hi*hi) :lo≤r∧r≤hi:=by
  have l2:0≤lo*lo:=Rat.mul_nonneg l0 l0
  have b:=hr.bd (by decide) (show 0≤m by grind)
  exact ⟨zz r0 (by grind),zz h0 (by grind)⟩
theorem Uj{l:List Nat}(hl:∀ x∈l,H2 x)(h16:l.length≤50) :
    (gH l=0∧Cl l=0)∨(Pw (gH l)∧0<Cl l∧As (6200*(l.length:Rat)+4800) (rv (gH l)*rv (gH l)) (Cl l)):=by
  have hlen:(l.length:Rat)≤((50:Nat):Rat):=Rat.natCast_le_natCast.2 h16
  have e50:((50:Nat):Rat)=50:=rfl
  rw [e50] at hlen
  have inv:=Ui (l:=l) (j:=0) (A:=0) (s:=(0,dK)) (.inl ⟨rfl,rfl⟩) hl Rat.le_refl (by grind)
  rw [Rat.zero_add,Rat.zero_add] at inv
  have b:=ig
  have bb:=mT
  unfold gH
  rcases inv with ⟨q1,q2⟩ | ⟨po,o2,l3,u2,hA,j2,k⟩
  · left
    rw [q1]
    obtain ⟨y1,y2,y3,y4⟩:=z0
    refine ⟨?_,q2⟩
    show bC 0 (fG dK)=0
    rw [y3]
    exact Sq (by decide) (by decide) (by decide) (by decide) (by decide)
  · right
    generalize (l.foldl Di (0,dK)).1=s at *
    generalize (l.foldl Di (0,dK)).2=m at *
    generalize (l.length:Rat)=j at *
    obtain ⟨r1,r2,r3⟩:=NW o2 (by grind)
    obtain ⟨c1,c2⟩:=Ru (lo:=1/2) (hi:=16) r3 r2 (by grind) (by decide) (by grind) (by grind)
    have ps:=po.pos
    have sl:=po.lo
    have su:=po.hi
    have pr:0<rv s*rv (fG m):=Rat.mul_pos ps (by grind)
    have up:=mR (Rat.le_of_lt ps) r2 su c2
    have dn:rv s≤2*(rv s*rv (fG m)):=by
      have:=Rat.mul_le_mul_of_nonneg_left c1 (Rat.le_of_lt ps)
      grind
    have bb2:1≤Bn*Bn*(Bn*Bn):=mY (mY (by grind))
    have hP:128*Bn≤Pn:=by
      rw [Vr]
      have:=Rat.mul_le_mul_of_nonneg_right (show 128≤Bn*Bn*(Bn*Bn) by
        have:=mR (a:=1024) (b:=1) (by decide) (by decide) (show 1024≤Bn by grind) (show 1≤Bn by grind)
        have:=cJ (by decide) (show (1024:Rat)≤Bn*Bn by grind)
        grind) (Rat.le_of_lt b)
      grind
    obtain ⟨f1,f2,f3⟩:=D9 po.ok r1 ps (by grind) (by
      have:=Rat.mul_le_mul_of_nonneg_left hP (Rat.le_of_lt pr)
      have:=Rat.mul_le_mul_of_nonneg_right dn (Rat.le_of_lt b)
      grind) (by grind)
    have bd:=f2.bd (by decide) (Rat.le_of_lt pr)
    refine ⟨⟨f1,f3,?_,by grind⟩,hA,QA k j2 (by grind) r3 f2⟩
    have:=Rat.mul_le_mul_of_nonneg_right (show rv s≤4*rv (bC s (fG m)) by grind) (Rat.le_of_lt b)
    have p2:=Rat.mul_pos f3 b
    grind
theorem V7{p q r u v m h:Rat}(hp:0<p)(hr:As 1540 (r*p) q)(hu:As 1024 u (r*r))(hv:As 1024 v (1+u))(hm:As 2700 (m*m) v)(hh:As 1024 h (p*m)) :As 9890 (h*h) (p*p+q*q):=by
  have a:As 2049 (h*h) (p*m*(p*m)):=(hh.prod hh (by decide) (by decide)).mono (by grind)
  have b:=hm.mul (p*p)
  rw [show m*m*(p*p)=p*m*(p*m) by grind] at b
  have c:=hv.mul (p*p)
  rw [show (1+u)*(p*p)=p*p+u*(p*p) by grind] at c
  have d:As 4107 (u*(p*p)) (q*q):=by
    have x:=hu.mul (p*p)
    rw [show r*r*(p*p)=r*p*(r*p) by grind] at x
    exact (x.trans (hr.prod hr (by decide) (by decide)) (by decide) (by grind)).mono (by grind)
  have q2:0≤q*q:=by
    rcases (Rat.le_total:0≤q∨q≤0) with w | w
    · exact Rat.mul_nonneg w w
    · have:=Rat.mul_nonneg (show 0≤-q by grind) (show 0≤-q by grind)
      grind
  have e:As 4107 (p*p+u*(p*p)) (1*(p*p+q*q)):=As.add (by rw [Rat.one_mul];exact As.refl _ _ (by decide)) (by rw [Rat.one_mul];exact d) (Rat.le_of_lt (Rat.mul_pos hp hp)) q2
  rw [Rat.one_mul] at e
  exact (((a.trans b (by decide) (by decide)).trans c (by grind) (by decide)).trans e (by grind) (by decide)).mono (by grind)
theorem NX{p q:Nat}(hp:Pw p)(hq:Ok q)(q0:rv q=0∨Pw q)(hle:rv q≤rv p)(hzq:rv q=0→q=0) :Ok (SD p q)∧0<rv (SD p q)∧rv p≤2*rv (SD p q)∧rv (SD p q)≤8*rv p∧As 9890 (rv (SD p q)*rv (SD p q)) (rv p*rv p+rv q*rv q):=by
  obtain ⟨z1,z2⟩:=xz
  have b:=ig
  have bb:=mT
  have pp:=hp.pos
  have f:xC p 0=false:=by
    cases w:xC p 0
    · rfl
    · exact absurd ((wK hp.ok z1).1 w) (by rw [z2];grind)
  have e:SD p q=bC p (fG (js dK (bC (fdiv q p) (fdiv q p)))):=by unfold SD;rw [f];rfl
  rw [e]
  have bb1:1≤Bn*Bn:=mY (by grind)
  have b4:0<Bn*Bn*(Bn*Bn):=Rat.mul_pos (Rat.mul_pos b b) (Rat.mul_pos b b)
  have b41:1≤Bn*Bn*(Bn*Bn):=mY bb1
  have hP:1152921504606846976≤Pn:=by
    rw [Vr]
    have:=Rat.mul_le_mul_of_nonneg_right b41 (Rat.le_of_lt b)
    grind

  have core:∀ {u:Nat},Ok u→0≤rv u→rv u≤2→(r:Rat)→As 1540 (r*rv p) (rv q)→As 1024 (rv u) (r*r)→Ok (bC p (fG (js dK u)))∧0<rv (bC p (fG (js dK u)))∧rv p≤2*rv (bC p (fG (js dK u)))∧rv (bC p (fG (js dK u)))≤8*rv p∧As 9890 (rv (bC p (fG (js dK u)))*rv (bC p (fG (js dK u)))) (rv p*rv p+rv q*rv q):=by
    intro u hu u0 u2 r hr hru
    obtain ⟨w1,w2⟩:=zA
    obtain ⟨v1,v2⟩:=KK w1 hu (by rw [w2];decide) u0 (by rw [w2];grind) (by grind)
    rw [w2] at v2
    have vb:=v2.bd (by decide) (by grind)
    obtain ⟨r1,r2,r3⟩:=NW v1 (by grind)
    obtain ⟨c1,c2⟩:=Ru (lo:=3/4) (hi:=4) r3 r2 (by grind) (by decide) (by grind) (by grind)
    have pr:0<rv p*rv (fG (js dK u)):=Rat.mul_pos pp (by grind)
    have d1:=Rat.mul_le_mul_of_nonneg_left c1 (Rat.le_of_lt pp)
    have d2:=Rat.mul_le_mul_of_nonneg_left c2 (Rat.le_of_lt pp)
    have hlo:=hp.lo
    have hhi:=hp.hi
    have hPB:1152921504606846976*Bn≤Pn:=by
      rw [Vr]
      have:=Rat.mul_le_mul_of_nonneg_right (show 1152921504606846976≤Bn*Bn*(Bn*Bn) by
        have:=mR (a:=1152921504606846976) (b:=1) (by decide) (by decide) bb (show 1≤Bn by grind)
        have:=mR (a:=1152921504606846976) (b:=1) (by decide) (by decide) (show (1152921504606846976:Rat)≤Bn*Bn by grind) bb1
        grind) (Rat.le_of_lt b)
      grind
    obtain ⟨f1,f2,f3⟩:=D9 hp.ok r1 pp (by grind) (by
      have x1:=Rat.mul_le_mul_of_nonneg_left hPB (Rat.le_of_lt pr)
      have x2:=Rat.mul_le_mul_of_nonneg_right d1 (Rat.le_of_lt b)
      grind) (by grind)
    have fb:=f2.bd (by decide) (Rat.le_of_lt pr)
    exact ⟨f1,f3,by grind,by grind,V7 pp hr hru v2 r3 f2⟩
  rcases q0 with w | hw
  · have qz:=hzq w
    subst qz
    obtain ⟨y1,y2,y3,y4⟩:=z0
    rw [GH hp.ok pp,y1]
    refine core z1 (by rw [z2];exact Rat.le_refl) (by rw [z2];decide) 0 ?_ ?_
    · rw [Rat.zero_mul,z2];exact As.refl _ _ (by decide)
    · rw [Rat.zero_mul,z2];exact As.refl _ _ (by decide)
  · have qp:=hw.pos
    have l1:=hw.lo
    have u1:=hp.hi
    have hPB:16384*(Bn*Bn)≤Pn:=by
      rw [Vr]
      have h1:=mR (a:=16384) (b:=1) (by decide) (by decide) (show 16384≤Bn by grind) bb1
      have h2:=Rat.mul_le_mul_of_nonneg_right (show 16384≤Bn*(Bn*Bn) by grind) (show 0≤Bn*Bn by grind)
      grind
    have lo:rv p≤rv q*Pn:=by
      have x1:=Rat.mul_le_mul_of_nonneg_left hPB (Rat.le_of_lt qp)
      have x2:=Rat.mul_le_mul_of_nonneg_right l1 (Rat.le_of_lt b)
      grind
    have hi:rv q≤rv p*Pn:=by
      have:=Rat.mul_le_mul_of_nonneg_left (show 1≤Pn by grind) (Rat.le_of_lt pp)
      grind
    obtain ⟨a,h,pr⟩:=Rs hw.ok hp.ok qp pp lo hi
    have hb:=h.bd (by decide) (Rat.le_of_lt qp)
    have rlo:1≤32768*(rv (fdiv q p)*(Bn*Bn)):=by
      have s1:=Rat.mul_le_mul_of_nonneg_left u1 (Rat.le_of_lt pr)
      have s2:=Rat.mul_le_mul_of_nonneg_right (show 999999*rv q≤1000000*(rv (fdiv q p)*(128*Bn)) by grind) (Rat.le_of_lt b)
      grind
    have rhi:rv (fdiv q p)≤1000001/1000000:=by
      refine Rat.le_of_mul_le_mul_right (c:=rv p) ?_ pp
      grind
    have mlo:1≤rv (fdiv q p)*rv (fdiv q p)*Pn:=by
      have s:=mY rlo
      have e:32768*(rv (fdiv q p)*(Bn*Bn))*(32768*(rv (fdiv q p)*(Bn*Bn)))=1073741824*(rv (fdiv q p)*rv (fdiv q p)*(Bn*Bn*(Bn*Bn))):=by grind
      rw [e] at s
      have s2:=Rat.mul_le_mul_of_nonneg_right bb (Rat.le_of_lt (Rat.mul_pos (Rat.mul_pos pr pr) b4))
      rw [Vr]
      grind
    have mhi:=cJ (Rat.le_of_lt pr) rhi
    obtain ⟨m1,m2,m3⟩:=D9 a a pr pr mlo (by grind)
    have mb:=m2.bd (by decide) (Rat.le_of_lt (Rat.mul_pos pr pr))
    exact core m1 (Rat.le_of_lt m3) (by grind) _ h m2
structure Hh (E c al S b tau q:Rat):Prop where
  E0:0≤E
  E1:E≤200000
  c2:c*c=1
  al0:0≤al
  S0:0<S
  b0:0<b
  hb:As (E+14800) (b*b) (al*al+S)
  ht:As 2565 (tau*b) (b+al)
  hq:As 2567 (q*(c*(b+al))) 1
variable {E c al S b tau q : Rat}
theorem Hh.ba(h:Hh E c al S b tau q) :0<b+al:=by have:=h.b0;have:=h.al0;grind
theorem Hh.bb(h:Hh E c al S b tau q) :0<b*b:=Rat.mul_pos h.b0 h.b0
theorem Hh.al_b(h:Hh E c al S b tau q) :1000000*al≤1000001*b:=by
  have hb:=h.hb
  have E0:=h.E0
  have E1:=h.E1
  have S0:=h.S0
  have b0:=h.b0
  have al0:=h.al0
  have a2:=Rat.mul_nonneg al0 al0
  have:=(hb.bd (by grind) (by grind)).2
  have s:1000000*al*(1000000*al)≤1000001*b*(1000001*b):=by
    have:=Rat.mul_pos b0 b0
    grind
  exact zz (by grind) s
theorem Hh.sum1(h:Hh E c al S b tau q) :As (E+14801) (al*(b+al)+S) (b*(b+al)):=by
  have E0:=h.E0
  have E1:=h.E1
  have al0:=h.al0
  have b0:=h.b0
  have x:=h.hb.symm (by grind)
  have y:As (E+14801) (al*b+(al*al+S)) (1*(al*b+b*b)):=As.add (by rw [Rat.one_mul];exact As.refl _ _ (by grind)) (by rw [Rat.one_mul];exact x.mono (by grind)) (Rat.mul_nonneg al0 (Rat.le_of_lt b0)) (Rat.le_of_lt h.bb)
  rw [show al*b+(al*al+S)=al*(b+al)+S by grind,show 1*(al*b+b*b)=b*(b+al) by grind] at y
  exact y
theorem Hh.sum2(h:Hh E c al S b tau q) :As (E+14801) ((b+al)*(b+al)+S) (2*b*(b+al)):=by
  have E0:=h.E0
  have E1:=h.E1
  have al0:=h.al0
  have b0:=h.b0
  have x:=h.sum1
  have p:=Rat.mul_pos b0 h.ba
  have y:As (E+14801) (b*(b+al)+(al*(b+al)+S)) (1*(b*(b+al)+b*(b+al))):=As.add (by rw [Rat.one_mul];exact As.refl _ _ (by grind)) (by rw [Rat.one_mul];exact x) (Rat.le_of_lt p) (Rat.le_of_lt p)
  rw [show b*(b+al)+(al*(b+al)+S)=(b+al)*(b+al)+S by grind,show 1*(b*(b+al)+b*(b+al))=2*b*(b+al) by grind] at y
  exact y
theorem Hh.q1(h:Hh E c al S b tau q) :As 2567 (q*c*(b+al)) 1:=by
  have:=h.hq
  rw [show q*(c*(b+al))=q*c*(b+al) by grind] at this
  exact this
theorem Hh.q0(h:Hh E c al S b tau q) :0<q*c:=by
  have:=h.q1.pos (by decide) (by decide)
  exact (Rat.mul_pos_iff_of_pos_right h.ba).1 this
theorem Hh.dot(h:Hh E c al S b tau q) :As (E+17369) (al+q*c*S) b:=by
  have E0:=h.E0
  have E1:=h.E1
  have al0:=h.al0
  have x:As 2567 (q*c*(b+al)*S) S:=by
    have:=h.q1.mul S
    rw [Rat.one_mul] at this;exact this
  have y:As 2567 (al*(b+al)+q*c*(b+al)*S) (1*(al*(b+al)+S)):=As.add (by rw [Rat.one_mul];exact As.refl _ _ (by decide)) (by rw [Rat.one_mul];exact x) (Rat.mul_nonneg al0 (Rat.le_of_lt h.ba)) (Rat.le_of_lt h.S0)
  rw [Rat.one_mul] at y
  have z:=(y.trans h.sum1 (by decide) (by grind)).mono (m:=E+17369) (by grind)
  rw [show al*(b+al)+q*c*(b+al)*S=(al+q*c*S)*(b+al) by grind] at z
  exact z.div (by have:=h.ba;grind)
theorem Hh.two(h:Hh E c al S b tau q){s:Rat}(hs:As 2049 s (1+q*c*(q*c)*S)) :As (E+24560) (tau*s) 2:=by
  have E0:=h.E0
  have E1:=h.E1
  have b0:=h.b0
  have ba:=h.ba
  have ba2:=Rat.mul_pos ba ba
  have q2:=(h.q1.prod h.q1 (by decide) (by decide)).mul S
  rw [show (1:Rat)*1*S=S by grind] at q2
  have x:As 5135 ((b+al)*(b+al)+q*c*(b+al)*(q*c*(b+al))*S) (1*((b+al)*(b+al)+S)):=As.add (by rw [Rat.one_mul];exact As.refl _ _ (by decide)) (by rw [Rat.one_mul];exact q2.mono (by grind)) (Rat.le_of_lt ba2) (Rat.le_of_lt h.S0)
  rw [Rat.one_mul] at x
  have y:=hs.mul ((b+al)*(b+al))
  rw [show (1+q*c*(q*c)*S)*((b+al)*(b+al))=(b+al)*(b+al)+q*c*(b+al)*(q*c*(b+al))*S by grind] at y
  have z:=(y.trans x (by decide) (by decide)).trans h.sum2 (by grind) (by grind)
  have w:=(z.prod h.ht (by grind) (by decide)).mono (m:=E+24560) (by grind)
  rw [show s*((b+al)*(b+al))*(tau*b)=tau*s*(b*(b+al)*(b+al)) by grind,show 2*b*(b+al)*(b+al)=2*(b*(b+al)*(b+al)) by grind] at w
  exact w.div (by have:=Rat.mul_pos (Rat.mul_pos b0 ba) ba;grind)
theorem Hh.near2(h:Hh E c al S b tau q){s n:Rat}(hs:As 2049 s (1+q*c*(q*c)*S))(hn:2≤n)(hE:E≤6200*(n-1)) :
    81129638414606681695789005144064*(((tau*s-2)*tau*s)*((tau*s-2)*tau*s))≤64*n*(64*n):=by
  have E0:=h.E0
  have E1:=h.E1
  obtain ⟨d,e,f,g⟩:=h.two hs
  have e1:(tau*s-2)*tau*s=2*d*(tau*s):=by
    have:tau*s-2=2*d:=by grind
    rw [this];grind
  rw [e1,e]
  have l1:9223372036854775808*d≤15400*n:=by grind
  have l2 : -(15400*n)≤9223372036854775808*d:=by grind
  have hd:d≤1/1000000∧-(1/1000000)≤d:=by constructor<;>grind
  have dd:d*d*85070591730234615865843651857942052864≤15400*n*(15400*n):=by
    have a:=Rat.mul_nonneg (show 0≤15400*n-9223372036854775808*d by grind) (show 0≤15400*n+9223372036854775808*d by grind)
    grind
  have t2:(2+2*d)*(2+2*d)≤40001/10000:=by
    have a:=Rat.mul_nonneg (show 0≤1/1000000-d by grind) (show 0≤1/1000000+d by grind)
    grind
  have d0:0≤d*d:=by
    rcases (Rat.le_total:0≤d∨d≤0) with w | w
    · exact Rat.mul_nonneg w w
    · have:=Rat.mul_nonneg (show 0≤-d by grind) (show 0≤-d by grind)
      grind
  have m:=Rat.mul_le_mul_of_nonneg_left t2 d0
  have n0:0≤n*n:=Rat.mul_nonneg (by grind) (by grind)
  grind
theorem Hh.w(h:Hh E c al S b tau q){n Sg w:Rat}(hn:2≤n∧n≤50)(hE:E≤6200*(n-1))(hS:As (2049+1025*n) Sg (c*(al+q*c*S)))(hw:As 1024 w (tau*Sg)) :As (7225*n+16815) w (c*(b+al)):=by
  have E0:=h.E0
  have E1:=h.E1
  have b0:=h.b0
  have dc:=h.dot.mul c
  rw [Rat.mul_comm _ c,Rat.mul_comm b c] at dc
  have z:=hS.trans dc (by grind) (by grind)
  have u:=(z.mul tau)
  have v:=h.ht.mul c
  rw [show c*b*tau=tau*b*c by grind] at u
  have r:=u.trans v (by grind) (by decide)
  rw [Rat.mul_comm Sg tau] at r
  have f:=hw.trans r (by decide) (by grind)
  rw [Rat.mul_comm (b+al) c] at f
  exact f.mono (by grind)
theorem WY{x y:Rat}(h1:x≤y)(h2 : -y≤x) :x*x≤y*y:=by
  have a:=Rat.mul_nonneg (show 0≤y-x by grind) (show 0≤y+x by grind)
  grind
theorem Hh.first(h:Hh E c al S b tau q){n w t0 o0:Rat}(hn:2≤n∧n≤50)(hw:As (7225*n+16815) w (c*(b+al)))(ht:As 1024 t0 w)(ho:As 1024 o0 (c*al-t0)) :
    85070591730234615865843651857942052864*((o0 - -(c*b))*(o0 - -(c*b)))≤32900*n*b*(32900*n*b):=by
  have b0:=h.b0
  have al0:=h.al0
  have ab:=h.al_b
  have c2:=h.c2
  obtain ⟨d,e,f,g⟩:=ht.trans hw (by decide) (by grind)
  obtain ⟨d',e',f',g'⟩:=ho

  have key:o0 - -(c*b)=c*(-((b+al)*d)-(b+(b+al)*d)*d'):=by grind
  generalize hv : -((b+al)*d)-(b+(b+al)*d)*d'=v at key
  have sq:(o0 - -(c*b))*(o0 - -(c*b))=v*v:=by
    rw [key]
    have:c*v*(c*v)=c*c*(v*v):=by grind
    rw [this,c2,Rat.one_mul]
  rw [sq]
  have ba:=h.ba

  have p1:=Rat.mul_le_mul_of_nonneg_left f (Rat.le_of_lt ba)
  have p2:=Rat.mul_le_mul_of_nonneg_left g (Rat.le_of_lt ba)
  have bn:(b+al)*(7225*n+17840)≤2000001/1000000*b*(7225*n+17840):=Rat.mul_le_mul_of_nonneg_right (by grind) (by grind)
  have bn2:b*17840≤b*(8920*n):=Rat.mul_le_mul_of_nonneg_left (by grind) (Rat.le_of_lt b0)
  have small:(b+al)*d≤b∧-b≤(b+al)*d:=by
    have n1:b*n≤b*50:=Rat.mul_le_mul_of_nonneg_left hn.2 (Rat.le_of_lt b0)
    constructor<;>grind
  have u0:0≤b+(b+al)*d:=by grind
  have q1:=Rat.mul_le_mul_of_nonneg_left f' u0
  have q2:=Rat.mul_le_mul_of_nonneg_left g' u0
  have nb:b*2≤b*n:=Rat.mul_le_mul_of_nonneg_left hn.1 (Rat.le_of_lt b0)
  have v1:9223372036854775808*v≤32900*n*b:=by rw [←hv];grind
  have v2 : -(32900*n*b)≤9223372036854775808*v:=by rw [←hv];grind
  have:=WY v1 v2
  grind
theorem Hh.others(h:Hh E c al S b tau q){n w x V t o:Rat}(hn:2≤n∧n≤50)(hw:As (7225*n+16815) w (c*(b+al)))(hV:As 1024 V (x*q))(ht:As 1024 t (V*w))(ho:As 1024 o (x-t)) :
    85070591730234615865843651857942052864*(o*o)≤18000*n*(18000*n)*(x*x):=by
  have a:=(hV.prod hw (by decide) (by grind))
  have bx:=h.hq.mul x
  rw [show q*(c*(b+al))*x=x*q*(c*(b+al)) by grind,Rat.one_mul] at bx
  have z:=((ht.trans a (by decide) (by grind)).trans bx (by grind) (by decide)).mono (m:=7225*n+21440) (by grind)
  obtain ⟨d,e,f,g⟩:=z
  obtain ⟨d',e',f',g'⟩:=ho
  have key:o=x*(-(d*(1+d'))):=by grind
  generalize hv : -(d*(1+d'))=v at key
  have v1:9223372036854775808*v≤18000*n:=by
    have p:=Rat.mul_le_mul_of_nonneg_right g (show 0≤1+d' by grind)
    have k:=Rat.mul_le_mul_of_nonneg_left f' (show 0≤7225*n+21440 by grind)
    rw [←hv];grind
  have v2 : -(18000*n)≤9223372036854775808*v:=by
    have p:=Rat.mul_le_mul_of_nonneg_right f (show 0≤1+d' by grind)
    have k:=Rat.mul_le_mul_of_nonneg_left f' (show 0≤7225*n+21440 by grind)
    rw [←hv];grind
  have s:=WY v1 v2
  have x2:0≤x*x:=by
    rcases (Rat.le_total:0≤x∨x≤0) with w | w
    · exact Rat.mul_nonneg w w
    · have:=Rat.mul_nonneg (show 0≤-x by grind) (show 0≤-x by grind)
      grind
  have m:=Rat.mul_le_mul_of_nonneg_right s x2
  rw [key]
  grind
theorem Hh.near1(h:Hh E c al S b tau q){n F G:Rat}(hn:2≤n) 
    (h1:85070591730234615865843651857942052864*F≤32900*n*b*(32900*n*b)) (h2:85070591730234615865843651857942052864*G≤18000*n*(18000*n)*S) :
    81129638414606681695789005144064*(F+G)≤64*n*(64*n)*(al*al+S):=by
  have E0:=h.E0
  have E1:=h.E1
  have S0:=h.S0
  have a2:0≤al*al:=Rat.mul_nonneg h.al0 h.al0
  have:=(h.hb.bd (by grind) (by grind)).1
  have n2:0≤n*n:=Rat.mul_nonneg (by grind) (by grind)
  have p:=Rat.mul_le_mul_of_nonneg_left this n2
  have q1:=Rat.mul_nonneg n2 a2
  have q2:=Rat.mul_nonneg n2 (Rat.le_of_lt S0)
  grind
end Go.Plb
namespace Go.Plb
set_option linter.unusedSimpArgs false
set_option linter.unusedVariables false
set_option linter.unusedSectionVars false
variable [Rom]
theorem sG(x:Rat) :0≤x*x:=by
  rcases (Rat.le_total:0≤x∨x≤0) with w | w
  · exact Rat.mul_nonneg w w
  · have:=Rat.mul_nonneg (show 0≤-x by grind) (show 0≤-x by grind)
    grind
theorem xA{s:Bool}{R:Nat}(hR:R<9218868437227405312) :Ok (Ieee.double.word s R)∧rv (Ieee.double.word s R)=sr s*(((cN R*E2 (dG R):Nat):Rat)*Un⁻¹):=by
  obtain ⟨a,b,c⟩:=D7 (neg:=s) hR
  refine ⟨⟨a,b⟩,?_⟩
  unfold rv
  rw [c,Qy]
  show _=sr s*(((cN R*2^dG R:Nat):Rat)*Un⁻¹)
  rw [Rat.mul_assoc]
theorem Cm{x:Nat}(h:Ok x) :x%9223372036854775808<9218868437227405312:=by
  have hx:x<18446744073709551616:=h.lt
  have:=h.fin
  unfold fin Fb at this
  rw [bne_iff_ne] at this
  omega
theorem Rv{x:Nat}(h:Ok x) :x=Ieee.double.word (sb x) (x%9223372036854775808):=by
  have hx:x<18446744073709551616:=h.lt
  have e1:Ieee.double.signWeight=9223372036854775808:=by decide
  unfold Ieee.Format.word sb
  rw [e1]
  rcases Nat.mod_two_eq_zero_or_one (x/9223372036854775808) with q | q
  · rw [q];show x=x%_;omega
  · rw [q];show x=9223372036854775808+x%_;omega
theorem QB{x:Nat}(h:Ok x) :rv x=sr (sb x)*rv (aL x):=by
  have hx:x<18446744073709551616:=h.lt
  have a:=(xA (s:=sb x) (Cm h)).2
  have b:=(xA (s:=false) (Cm h)).2
  have e:Ieee.double.word false (x%9223372036854775808)=aL x:=rfl
  rw [e] at b
  rw [←Rv h] at a
  rw [a,b]
  show _=sr (sb x)*((1:Rat)*_)
  rw [Rat.one_mul]
theorem Uk{x y:Nat}(h:Ok x)(hy:y<pE) :Ok (kd x y)∧rv (kd x y)=sr (sb y)*rv (aL x):=by
  have hx:x<18446744073709551616:=h.lt
  have e:kd x y=Ieee.double.word (sb y) (x%9223372036854775808):=by
    have e1:Ieee.double.signWeight=9223372036854775808:=by decide
    unfold kd Ieee.Format.word sb
    rw [e1]
    rcases Nat.mod_two_eq_zero_or_one (y/9223372036854775808) with q | q
    · rw [q];show _=x%_;omega
    · rw [q];show _=9223372036854775808+x%_;omega
  obtain ⟨a1,a⟩:=xA (s:=sb y) (Cm h)
  have b:=(xA (s:=false) (Cm h)).2
  have e0:Ieee.double.word false (x%9223372036854775808)=aL x:=rfl
  rw [e0] at b
  rw [e]
  refine ⟨a1,?_⟩
  rw [a,b]
  show _=sr (sb y)*((1:Rat)*_)
  rw [Rat.one_mul]
theorem U4{x:Nat}(hx:x<pE) :x ^^^ 2^63=if x<9223372036854775808 then x+9223372036854775808 else x-9223372036854775808:=by
  have hx:x<18446744073709551616:=hx
  have h:(BitVec.ofNat 64 x ^^^ BitVec.ofNat 64 9223372036854775808).toNat=x ^^^ 9223372036854775808:=by
    rw [BitVec.toNat_xor,BitVec.toNat_ofNat,BitVec.toNat_ofNat,Nat.mod_eq_of_lt hx]
  show x ^^^ 9223372036854775808=_
  have key:∀ m:Nat,m<9223372036854775808→m ^^^ 9223372036854775808=m+9223372036854775808:=by
    intro m hm
    have hm':m<2^63:=hm
    have:=Nat.two_pow_add_eq_or_of_lt hm' 1
    rw [Nat.mul_one] at this
    have e:m ^^^ 2^63=2^63 ||| m:=by
      apply Nat.eq_of_testBit_eq
      intro i
      rw [Nat.testBit_xor,Nat.testBit_or,Nat.testBit_two_pow]
      by_cases w:63=i
      · subst w
        rw [Nat.testBit_lt_two_pow hm'];simp
      · simp [w]
    show m ^^^ 2^63=_
    rw [e,←this];omega
  split
  · next q=>exact key x q
  · next q =>
    have e:=key (x-9223372036854775808) (by omega)
    have e2:x-9223372036854775808+9223372036854775808=x:=by omega
    rw [e2] at e
    rw [←e,Nat.xor_assoc,Nat.xor_self,Nat.xor_zero]
    rw [e]
theorem U5{x:Nat}(h:Ok x) :Ok (Dk x)∧rv (Dk x) = -rv x:=by
  have hx:x<18446744073709551616:=h.lt
  have e:Dk x=Ieee.double.word (!(sb x)) (x%9223372036854775808):=by
    have e1:Ieee.double.signWeight=9223372036854775808:=by decide
    unfold Dk Ieee.Format.word sb
    rw [U4 h.lt,e1]
    split
    · next q =>
      have:x/9223372036854775808=0:=by omega
      rw [this];show _=9223372036854775808+x%_;omega
    · next q =>
      have:x/9223372036854775808=1:=by omega
      rw [this];show _=x%_;omega
  obtain ⟨a1,a⟩:=xA (s:=!(sb x)) (Cm h)
  have b:=(xA (s:=sb x) (Cm h)).2
  rw [←Rv h] at b
  rw [e]
  refine ⟨a1,?_⟩
  rw [a,b]
  cases sb x<;>simp only [sr,Bool.not_true,Bool.not_false,if_true,Bool.false_eq_true,if_false]<;>grind
theorem Ss{x:Nat}(h:Ok x)(h0:rv x=0) :aL x=0:=by
  have v:=A5.2 h0
  rw [qG] at v
  rcases Nat.mul_eq_zero.1 v with w | w
  · show x%9223372036854775808=0
    unfold cN at w
    split at w<;>omega
  · have:=iq (dG (x%9223372036854775808));omega
def DU(x y:Nat) :Nat:=bif Va (aL y) (aL x) then SD (aL y) (aL x) else SD (aL x) (aL y)
def A8(x L:Nat) :Nat:=Dk (kd (DU x L) x)
def qW(x be:Nat) :Nat:=fdiv dK (fR x be)
def GI(x be:Nat) :Nat:=fdiv (fR be x) be
structure Wr (x:Rat):Prop where
  pos:0<x
  lo:1≤4096*(x*Bn)
  hi:x≤4096*Bn
theorem St{x L:Nat}(hx:H2 x)(hL:Pw L) :Ok (DU x L)∧Wr (rv (DU x L))∧As 9890 (rv (DU x L)*rv (DU x L)) (rv (aL x)*rv (aL x)+rv L*rv L):=by
  obtain ⟨a1,a2,a3,a4⟩:=mS hx.ok
  obtain ⟨l1,l2,l3,l4⟩:=mS hL.ok
  have lp:=hL.pos
  have el:rv (aL L)=rv L:=by rcases l4 with q | q<;>grind
  have b:=ig
  have bb:=mT
  have xi:rv (aL x)=0∨Pw (aL x):=by
    by_cases h:rv x=0
    · left;rcases a4 with q | q<;>grind
    · exact .inr (hx.po h).pw
  have hLw:Pw (aL L):=⟨l1,by rw [el];exact lp,by rw [el];exact hL.lo,by rw [el];exact hL.hi⟩
  have z0':∀ {y:Nat},Ok y→rv (aL y)=0→aL y=0:=by
    intro y hy h
    refine Ss hy ?_
    obtain ⟨_,_,e,_⟩:=mS hy
    rw [h,Rat.zero_mul] at e
    rcases Rat.mul_eq_zero.1 e.symm with w | w<;>exact w
  unfold DU
  cases g:Va (aL L) (aL x)
  · have le:rv (aL L)≤rv (aL x):=by
      have:=mt (Ug l1 a1).2 (by rw [g];decide)
      grind
    have px:Pw (aL x):=by
      rcases xi with q | q
      · exfalso;rw [q,el] at le;grind
      · exact q
    obtain ⟨r1,r2,r3,r4,r5⟩:=NX px l1 (.inr hLw) le (z0' hL.ok)
    refine ⟨r1,⟨r2,?_,?_⟩,by rw [cond_false,←el];exact r5⟩
    · have:=px.lo
      have:=Rat.mul_le_mul_of_nonneg_right r3 (Rat.le_of_lt b)
      rw [cond_false];have:=Rat.mul_pos r2 b;grind
    · have:=px.hi;rw [cond_false];grind
  · have le:rv (aL x)≤rv (aL L):=Rat.le_of_lt ((Ug l1 a1).1 g)
    obtain ⟨r1,r2,r3,r4,r5⟩:=NX hLw a1 xi le (z0' hx.ok)
    refine ⟨r1,⟨r2,?_,?_⟩,by rw [cond_true,Rat.add_comm,←el];exact r5⟩
    · have:=hLw.lo
      have:=Rat.mul_le_mul_of_nonneg_right r3 (Rat.le_of_lt b)
      rw [cond_true];have:=Rat.mul_pos r2 b;grind
    · have:=hLw.hi;rw [cond_true];grind
theorem WK:1152921504606846976*(Bn*Bn)≤Pn:=by
  have bb:=mT
  have b:=ig
  have bb1:1≤Bn*Bn:=mY (by grind)
  rw [Vr]
  have h1:=mR (a:=1152921504606846976) (b:=1) (by decide) (by decide) bb bb1
  have h2:=Rat.mul_le_mul_of_nonneg_right (show 1152921504606846976≤Bn*(Bn*Bn) by grind) (show 0≤Bn*Bn by grind)
  grind
theorem W6:1152921504606846976*(Bn*Bn*(Bn*Bn))≤Pn:=by
  have b:=ig
  have b4:0<Bn*Bn*(Bn*Bn):=Rat.mul_pos (Rat.mul_pos b b) (Rat.mul_pos b b)
  rw [Vr]
  have:=Rat.mul_le_mul_of_nonneg_right mT (Rat.le_of_lt b4)
  grind
theorem WR:1152921504606846976*Bn≤Pn:=by
  have b:=ig
  have:=WK
  have:=Rat.mul_le_mul_of_nonneg_right (show 1≤Bn by have:=mT;grind) (Rat.le_of_lt b)
  grind
theorem Cn(s:Bool)(x:Rat) :sr s*x*(sr s*x)=x*x:=by
  have:=Ud s
  have e:sr s*x*(sr s*x)=sr s*sr s*(x*x):=by grind
  rw [e,this,Rat.one_mul]
structure Mk (E S:Rat) (x be tau q:Nat):Prop where
  kb:Ok be
  kt:Ok tau
  kq:Ok q
  ex:∃ b,Wr b∧rv be = -(sr (sb x)*b)∧Hh E (sr (sb x)) (rv (aL x)) S b (rv tau) (rv q)
theorem I2{x L:Nat}{E S:Rat}(hx:H2 x)(hL:Pw L)(hS:0<S)(E0:0≤E)(E1:E≤200000)(hLS:As (E+4800) (rv L*rv L) S) :Mk E S x (A8 x L) (GI x (A8 x L)) (qW x (A8 x L)):=by
  obtain ⟨b1,b2,b3⟩:=St hx hL
  obtain ⟨a1,a2,a3,a4⟩:=mS hx.ok
  have bp:=b2.pos
  obtain ⟨f1,f2⟩:=Uk b1 hx.ok.lt
  obtain ⟨g1,g2⟩:=U5 f1
  obtain ⟨c1,c2,c3,c4⟩:=mS b1
  have eb:rv (aL (DU x L))=rv (DU x L):=by rcases c4 with q | q<;>grind
  have ebe:rv (A8 x L) = -(sr (sb x)*rv (DU x L)):=by
    show rv (Dk _)=_
    rw [g2,f2,eb]
  have ex:=QB hx.ok
  have okbe:Ok (A8 x L):=g1
  generalize A8 x L=be at *
  generalize DU x L=hb at *
  have hc2:=Ud (sb x)
  have hbS:As (E+14800) (rv hb*rv hb) (rv (aL x)*rv (aL x)+S):=by
    have y:As (E+4800) (rv (aL x)*rv (aL x)+rv L*rv L) (1*(rv (aL x)*rv (aL x)+S)):=As.add (by rw [Rat.one_mul];exact As.refl _ _ (by grind)) (by rw [Rat.one_mul];exact hLS) (Rat.mul_nonneg a2 a2) (Rat.le_of_lt hS)
    rw [Rat.one_mul] at y
    exact (b3.trans y (by decide) (by grind)).mono (by grind)

  have bb:=mT
  have bpos:=ig
  have p1:=WR
  have p2:=WK
  have wlo:=b2.lo
  have whi:=b2.hi
  have al_hi:rv (aL x)≤Bn:=zz (Rat.le_of_lt bpos) (by rw [a3];exact hx.hi)
  have hxP:rv x*rv x≤Pn*Pn:=by
    have:=hx.hi
    have:=cJ (Rat.le_of_lt bpos) (show Bn≤Pn by grind)
    grind
  have hbeP:rv be*rv be≤Pn*Pn:=by
    have e:rv be*rv be=rv hb*rv hb:=by
      rw [ebe]
      have:=Cn (sb x) (rv hb)
      grind
    rw [e]
    exact cJ (Rat.le_of_lt bp) (by grind)
  obtain ⟨d1,d2⟩:=D8 okbe hx.ok hbeP hxP
  obtain ⟨e1,e2⟩:=D8 hx.ok okbe hxP hbeP
  have ba:0<rv hb+rv (aL x):=by grind
  have s1:rv be-rv x = -(sr (sb x)*(rv hb+rv (aL x))):=by rw [ebe,ex];grind
  have s2:rv x-rv be=sr (sb x)*(rv hb+rv (aL x)):=by rw [ebe,ex];grind
  rw [s1] at d2
  rw [s2] at e2

  have dsq:∀ {D:Rat},As 1024 D (sr (sb x)*(rv hb+rv (aL x)))→D≠0∧(rv hb+rv (aL x))*(rv hb+rv (aL x))≤2*(D*D)∧D*D≤2*((rv hb+rv (aL x))*(rv hb+rv (aL x))):=by
    intro D h
    have p:=(h.prod h (by decide) (by decide)).mono (m:=2049) (by grind)
    rw [Cn] at p
    have sqp:=Rat.mul_pos ba ba
    have bd:=p.bd (by decide) (Rat.le_of_lt sqp)
    refine ⟨?_,by grind,by grind⟩
    intro q
    rw [q,Rat.zero_mul] at bd
    clear h p
    grind
  have hD1:As 1024 (-(rv (fR be x))) (sr (sb x)*(rv hb+rv (aL x))):=by
    have:=d2.neg
    rw [Rat.neg_neg] at this
    exact this
  obtain ⟨n1,n2,n3⟩:=dsq hD1
  rw [show -rv (fR be x) * -rv (fR be x)=rv (fR be x)*rv (fR be x) by grind] at n2 n3
  obtain ⟨m1,m2,m3⟩:=dsq e2
  have sum2:rv hb*rv hb≤(rv hb+rv (aL x))*(rv hb+rv (aL x)):=cJ (Rat.le_of_lt bp) (by grind)
  have sum3:(rv hb+rv (aL x))*(rv hb+rv (aL x))≤8192*Bn*(8192*Bn):=cJ (Rat.le_of_lt ba) (by grind)
  have b2lo:1≤4096*(rv hb*Bn)*(4096*(rv hb*Bn)):=mY wlo
  have bes:rv be*rv be=rv hb*rv hb:=by
    rw [ebe]
    have:=Cn (sb x) (rv hb)
    grind
  have bsq:=Rat.mul_pos bp bp
  have PP:1152921504606846976*(Bn*Bn)*(1152921504606846976*(Bn*Bn))≤Pn*Pn:=cJ (by have:=Rat.mul_pos bpos bpos;grind) p2
  have Bsq:=Rat.mul_pos bpos bpos
  have B1:1≤Bn*Bn:=mY (by grind)
  have PP1:4≤Pn*Pn:=by have:=cJ (y:=2) (by decide) (show 2≤Pn by grind);grind

  have r1:rv (fR be x)*rv (fR be x)≤rv be*rv be*(Pn*Pn):=by
    rw [bes]
    have x1:=Rat.mul_le_mul_of_nonneg_left PP (Rat.le_of_lt bsq)
    have x2:=Rat.mul_le_mul_of_nonneg_right b2lo (show 0≤Bn*Bn by grind)
    grind
  have r2:rv be*rv be≤rv (fR be x)*rv (fR be x)*(Pn*Pn):=by
    rw [bes]
    have x1:=Rat.mul_le_mul_of_nonneg_left (show 2≤Pn*Pn by grind) (show 0≤rv (fR be x)*rv (fR be x) by grind)
    grind
  obtain ⟨t1,t2⟩:=KI d1 okbe (by grind) (by intro q;rw [q,Rat.zero_mul] at bes;grind) r2 r1
  obtain ⟨w1,w2⟩:=zA
  have q1:rv (fR x be)*rv (fR x be)≤rv dK*rv dK*(Pn*Pn):=by
    rw [w2]
    have x1:=Rat.mul_le_mul_of_nonneg_right B1 (Rat.le_of_lt Bsq)
    clear dsq
    grind
  have q2:rv dK*rv dK≤rv (fR x be)*rv (fR x be)*(Pn*Pn):=by
    rw [w2]
    have x1:=Rat.mul_le_mul_of_nonneg_left PP (show 0≤rv (fR x be)*rv (fR x be) by grind)
    have x2:=Rat.mul_le_mul_of_nonneg_right (show rv hb*rv hb≤2*(rv (fR x be)*rv (fR x be)) by grind) (Rat.le_of_lt Bsq)
    have x3:=Rat.mul_le_mul_of_nonneg_left B1 (show 0≤rv (fR x be)*rv (fR x be)*(Bn*Bn) by have:=Rat.mul_pos (show 0<rv (fR x be)*rv (fR x be) by grind) Bsq;grind)
    grind
  obtain ⟨k1,k2⟩:=KI w1 e1 (by rw [w2];decide) m1 q1 q2
  rw [w2] at k2
  refine ⟨okbe,t1,k1,rv hb,b2,ebe,E0,E1,hc2,a2,hS,bp,hbS,?_,?_⟩
  · have y:=(t2.trans d2 (by decide) (by decide)).neg
    rw [Rat.neg_neg,ebe,show -(rv (fdiv (fR be x) be) * -(sr (sb x)*rv hb))=rv (fdiv (fR be x) be)*rv hb*sr (sb x) by grind,Rat.mul_comm (sr (sb x))] at y
    exact As.div (by intro q;rw [q,Rat.zero_mul] at hc2;exact absurd hc2 (by decide)) (y.mono (by grind))
  · have y:=(e2.symm (by decide)).mul (rv (fdiv dK (fR x be)))
    rw [Rat.mul_comm _ (rv (fdiv dK (fR x be))),Rat.mul_comm (rv (fR x be))] at y
    exact (y.trans k2 (by grind) (by decide)).mono (by grind)
def eF(f:Nat→Rat) :Nat→Rat
  | 0=>0
  | n+1=>eF f n+f n
theorem lh(f:Nat→Rat) :∀ n,eF f (n+1)=f 0+eF (fun i=>f (i+1)) n
  | 0=>by show (0:Rat)+f 0=f 0+0;grind
  | n+1=>by
    have:=lh f n
    show eF f (n+1)+f (n+1)=f 0+(eF (fun i=>f (i+1)) n+f (n+1))
    rw [this];grind
theorem wL{f:Nat→Rat} :∀ {n:Nat},(∀ i,i<n→0≤f i)→0≤eF f n
  | 0,_=>Rat.le_refl
  | n+1,h=>by
    have:=wL (f:=f) (n:=n) fun i hi=>h i (by omega)
    have:=h n (by omega)
    show 0≤eF f n+f n
    grind
theorem Su{f:Nat→Rat}{n m:Nat}(hm:n≤m)(h:∀ i,i<m→0≤f i) :eF f n≤eF f m:=by
  induction m with
  | zero=>rw [Nat.le_zero.1 hm];exact Rat.le_refl
  | succ m ih =>
    rcases Nat.eq_or_lt_of_le hm with q | q
    · rw [q];exact Rat.le_refl
    · have:=ih (by omega) (fun i hi=>h i (by omega))
      have:=h m (by omega)
      show _≤eF f m+f m
      grind
theorem Rw{f g:Nat→Rat} :∀ {n:Nat},(∀ i,i<n→f i≤g i)→eF f n≤eF g n
  | 0,_=>Rat.le_refl
  | n+1,h=>by
    have:=Rw (f:=f) (g:=g) (n:=n) fun i hi=>h i (by omega)
    have:=h n (by omega)
    show eF f n+f n≤eF g n+g n
    grind
theorem lk{f g:Nat→Rat} :∀ {n:Nat},(∀ i,i<n→f i=g i)→eF f n=eF g n
  | 0,_=>rfl
  | n+1,h=>by
    show eF f n+f n=eF g n+g n
    rw [lk (f:=f) (g:=g) (n:=n) fun i hi=>h i (by omega),h n (by omega)]
theorem wM(f:Nat→Rat)(c:Rat) :∀ n,eF (fun i=>c*f i) n=c*eF f n
  | 0=>by show (0:Rat)=c*0;grind
  | n+1=>by
    show eF (fun i=>c*f i) n+c*f n=c*(eF f n+f n)
    rw [wM f c n];grind
theorem xB(l:List Nat) :Cl l=eF (fun i=>rv (l.getD i 0)*rv (l.getD i 0)) l.length:=by
  induction l with
  | nil=>rfl
  | cons x l ih =>
    rw [List.length_cons,lh]
    show rv x*rv x+Cl l=rv x*rv x+_
    rw [ih];rfl
theorem As.sq2{n x y:Rat}(h:As n x y)(hn:0≤n∧n≤400000) :y*y≤2*(x*x)∧x*x≤2*(y*y):=by
  have p:=(h.prod h (by grind) (by grind))
  have bd:=p.bd (by grind) (sG y)
  have:=sG y
  constructor<;>grind
theorem As.zero{n x:Rat}(h:As n x 0) :x=0:=by
  obtain ⟨d,a,_⟩:=h
  rw [a];grind
def vW(x:List Nat)(q i:Nat) :Nat:=if i=0 then dK else bC (x.getD i 0) q
def sW(x:List Nat)(q n:Nat) :Nat:=G3 (fun i=>bC (vW x q i) (x.getD i 0)) n
def oW(x:List Nat)(q w i:Nat) :Nat:=fR (x.getD i 0) (bC (vW x q i) w)
section
variable {E S : Rat} {x0 be tau q : Nat} {t : List Nat}
structure Sz (c al S b tau q:Rat):Prop where
  al:al≤Bn
  bl:1≤4096*(b*Bn)
  bh:b≤4096*Bn
  q1:1≤134217728*(q*q*(Bn*Bn))
  q2:q*q≤134217728*(Bn*Bn)
  t1:1≤2*tau
  t2:tau≤3
theorem WF{c al b ta qq:Rat}(h:Hh E c al S b ta qq)(hal:al≤Bn)(hb:Wr b) :Sz c al S b ta qq:=by
  have b0:=h.b0
  have ba:=h.ba
  have al0:=h.al0
  have Bp:=ig
  have bb:=mT
  have lo:=hb.lo
  have hi:=hb.hi
  have c2:=h.c2
  have q0:=h.q1.bd (by decide) (by decide)
  have qp:=h.q0
  have ab:=h.al_b
  have tb:=h.ht.bd (by decide) (Rat.le_of_lt ba)
  have tp:0<ta*b:=h.ht.pos (by decide) ba
  have t0:0<ta:=(Rat.mul_pos_iff_of_pos_right b0).1 tp
  have qs:qq*c*(qq*c)=qq*qq:=by
    have:qq*c*(qq*c)=qq*qq*(c*c):=by grind
    rw [this,c2,Rat.mul_one]
  have u1:1≤8192*(qq*c*Bn):=by
    have x1:=Rat.mul_le_mul_of_nonneg_left (show b+al≤8192/2*Bn+Bn by grind) (Rat.le_of_lt qp)
    grind
  have u2:qq*c≤8192*Bn:=by
    have x1:=Rat.mul_le_mul_of_nonneg_right (show qq*c*b≤1000001/1000000 by
      have:=Rat.mul_nonneg (Rat.le_of_lt qp) al0
      grind) (Rat.le_of_lt Bp)
    have x2:=Rat.mul_le_mul_of_nonneg_left lo (Rat.le_of_lt qp)
    grind
  refine ⟨hal,lo,hi,?_,?_,?_,?_⟩
  · have:=mY u1
    rw [show 8192*(qq*c*Bn)*(8192*(qq*c*Bn))=67108864*(qq*c*(qq*c)*(Bn*Bn)) by grind,qs] at this
    have p:0≤qq*qq*(Bn*Bn):=Rat.mul_nonneg (sG _) (sG _)
    grind
  · have:=cJ (Rat.le_of_lt qp) u2
    rw [qs] at this
    have p:=sG Bn
    grind
  · refine Rat.le_of_mul_le_mul_right (c:=b) ?_ b0
    grind
  · refine Rat.le_of_mul_le_mul_right (c:=b) ?_ b0
    grind
theorem WZ:1152921504606846976*(Bn*Bn*(Bn*Bn))*(1152921504606846976*(Bn*Bn*(Bn*Bn)))≤Pn*Pn:=cJ (by have:=Rat.mul_nonneg (sG Bn) (sG Bn);grind) W6
theorem Ul{x:Nat}{c al b ta:Rat}(hx:H2 x)(hq:Ok q)(z:Sz c al S b ta (rv q)) :Ok (bC x q)∧As 1024 (rv (bC x q)) (rv x*rv q):=by
  have Bp:=ig
  have bb:=mT
  have B2:=sG Bn
  have B1:1≤Bn*Bn:=mY (by grind)
  have pp:=WZ
  have q2:=sG (rv q)
  have x2:=sG (rv x)
  have B4:1≤Bn*Bn*(Bn*Bn):=mY B1
  have B48:=Rat.mul_le_mul_of_nonneg_left B4 (show 0≤Bn*Bn*(Bn*Bn) by grind)
  refine uo hx.ok hq ?_ ?_
  · rcases hx.lo with w | w
    · left;rw [w];grind
    · right
      have s:=mR (a:=1) (b:=1) (by decide) (by decide) w z.q1
      have s2:=Rat.mul_le_mul_of_nonneg_left pp (Rat.mul_nonneg x2 q2)
      have s3:=Rat.mul_le_mul_of_nonneg_left B48 (Rat.mul_nonneg x2 q2)
      grind
  · have s:=mR x2 q2 hx.hi z.q2
    grind
end
end Go.Plb
namespace Go.Plb
set_option linter.unusedSimpArgs false
set_option linter.unusedVariables false
set_option linter.unusedSectionVars false
variable [Rom]
section
variable {c b : Rat} {x0 tau q : Nat} {t : List Nat}
def zR(c:Rat)(x0 q:Nat)(t:List Nat)(j:Nat) :Rat:=rv (aL x0)+rv q*c*eF (fun i=>rv (t.getD i 0)*rv (t.getD i 0)) j
theorem Um(hal:0≤rv (aL x0))(hq:0≤rv q*c)(j:Nat) :0≤zR c x0 q t j:=by
  have:=Rat.mul_nonneg hq (wL (n:=j) fun i _=>sG (rv (t.getD i 0)))
  unfold zR
  grind
theorem Vs(hq:0≤rv q*c){j:Nat}(hj:j≤t.length) :zR c x0 q t j≤rv (aL x0)+rv q*c*Cl t:=by
  have:=Rat.mul_le_mul_of_nonneg_left (Su hj (fun i _=>sG (rv (t.getD i 0)))) hq
  rw [xB]
  unfold zR
  grind
theorem U6(hal:0≤rv (aL x0))(hq:0≤rv q*c){j:Nat}(hj:j<t.length) :rv q*c*(rv (t.getD j 0)*rv (t.getD j 0))≤rv (aL x0)+rv q*c*Cl t:=by
  have a:=Vs (x0:=x0) (t:=t) hq (j:=j+1) hj
  have b:=Um (x0:=x0) (t:=t) hal hq j
  have e:zR c x0 q t (j+1)=zR c x0 q t j+rv q*c*(rv (t.getD j 0)*rv (t.getD j 0)):=by
    unfold zR
    show _+_*(eF _ j+_)=_
    grind
  grind
theorem V8{E:Rat}(h:Hh E c (rv (aL x0)) (Cl t) b (rv tau) (rv q))(z:Sz c (rv (aL x0)) (Cl t) b (rv tau) (rv q))(hx0:H2 x0)(hc:c=sr (sb x0))(ht:∀ i,i<t.length→H2 (t.getD i 0))(hq:Ok q)(hl:t.length≤50) :
    ∀ j,j≤t.length→Ok (sW (x0::t) q (j+1))∧As (2049+1025*((j:Rat)+1)) (rv (sW (x0::t) q (j+1))) (c*zR c x0 q t j):=by
  obtain ⟨z1,z2⟩:=xz
  obtain ⟨w1,w2⟩:=zA
  obtain ⟨a1,a2,a3,a4⟩:=mS hx0.ok
  have Bp:=ig
  have bb:=mT
  have p1:=WR
  have p2:=WK
  have q0:=h.q0
  have b0:=h.b0
  have c2:=h.c2
  have ex:=QB hx0.ok
  rw [←hc] at ex
  have E0:=h.E0
  have E1:=h.E1
  have dot:=(h.dot.bd (by grind) (Rat.le_of_lt b0)).1
  have top:rv (aL x0)+rv q*c*Cl t≤8192*Bn:=by have:=z.bh;grind
  have cz:∀ Z:Rat,c*Z*(c*Z)=Z*Z:=by
    intro Z
    have:c*Z*(c*Z)=c*c*(Z*Z):=by grind
    rw [this,c2,Rat.one_mul]
  have lim:∀ {n y Z:Rat},As n y (c*Z)→0≤n∧n≤400000→0≤Z→Z≤8192*Bn→y*y≤Pn*Pn:=by
    intro n y Z hy hn Z0 Z1
    have s:=(hy.sq2 hn).2
    rw [cz] at s
    have:=cJ Z0 Z1
    have:=cJ (show 0≤16384*Bn by grind) (show 16384*Bn≤Pn by grind)
    have:=sG Bn
    grind
  intro j
  induction j with
  | zero =>
    intro _
    have hP:rv x0*rv x0≤Pn*Pn:=by
      have:=hx0.hi
      have:=cJ (Rat.le_of_lt Bp) (show Bn≤Pn by grind)
      grind
    obtain ⟨m1,m2⟩:=uo w1 hx0.ok (by
      rw [w2,Rat.one_mul]
      rcases hx0.lo with u | u
      · exact .inl u
      · right
        have:=cJ (Rat.le_of_lt Bp) (show Bn≤Pn by grind)
        have:=Rat.mul_le_mul_of_nonneg_left this (sG (rv x0))
        grind) (by rw [w2,Rat.one_mul];exact hP)
    rw [w2,Rat.one_mul,ex] at m2
    have al1:rv (aL x0)≤8192*Bn:=by have:=z.al;grind
    obtain ⟨s1,s2⟩:=KH z1 m1 (by rw [z2,Rat.zero_mul];exact sG _) (lim m2 (by decide) a2 al1)
    rw [z2,Rat.zero_add] at s2
    have e:sW (x0::t) q (0+1)=js 0 (bC dK x0):=rfl
    have e2:zR c x0 q t 0=rv (aL x0):=by unfold zR;show _+_*(0:Rat)=_;grind
    rw [e,e2]
    exact ⟨s1,(s2.trans m2 (by decide) (by decide)).mono (by
      have:(0:Rat)≤((0:Nat):Rat):=Rat.natCast_nonneg
      grind)⟩
  | succ j ih =>
    intro hj
    obtain ⟨i1,i2⟩:=ih (by omega)
    have hX:=ht j (by omega)
    generalize hXe:t.getD j 0=X at *
    obtain ⟨v1,v2⟩:=Ul hX hq z
    have jr:(j:Rat)≤((50:Nat):Rat):=Rat.natCast_le_natCast.2 (by omega)
    have e50:((50:Nat):Rat)=50:=rfl
    have j0:(0:Rat)≤(j:Rat):=Rat.natCast_nonneg
    have tz:=U6 (t:=t) a2 (Rat.le_of_lt q0) (j:=j) (by omega)
    rw [hXe] at tz
    have t0:0≤rv q*c*(rv X*rv X):=Rat.mul_nonneg (Rat.le_of_lt q0) (sG _)
    have X2:=sG (rv X)

    have vx:rv (bC X q)*rv X*(rv (bC X q)*rv X)≤2*(rv q*c*(rv X*rv X)*(rv q*c*(rv X*rv X)))∧rv q*c*(rv X*rv X)*(rv q*c*(rv X*rv X))≤2*(rv (bC X q)*rv X*(rv (bC X q)*rv X)):=by
      have s:=(v2.mul (rv X)).sq2 (by decide)
      have e:rv X*rv q*rv X*(rv X*rv q*rv X)=rv q*c*(rv X*rv X)*(rv q*c*(rv X*rv X)):=by
        have:rv q*c*(rv X*rv X)*(rv q*c*(rv X*rv X))=c*c*(rv X*rv q*rv X*(rv X*rv q*rv X)):=by grind
        rw [this,c2,Rat.one_mul]
      rw [e] at s
      exact ⟨s.2,s.1⟩
    have tt:rv q*c*(rv X*rv X)*(rv q*c*(rv X*rv X))≤8192*Bn*(8192*Bn):=cJ t0 (by grind)
    obtain ⟨m1,m2⟩:=uo v1 hX.ok (by
      rcases hX.lo with u | u
      · left;rw [u];grind
      · right
        have s1:=mR (a:=1) (b:=1) (by decide) (by decide) u u
        have s2:=mR (a:=1*1) (b:=1) (by grind) (by decide) s1 z.q1
        have e:rv q*c*(rv X*rv X)*(rv q*c*(rv X*rv X))=rv X*rv X*(rv X*rv X)*(rv q*rv q):=by
          have:rv q*c*(rv X*rv X)*(rv q*c*(rv X*rv X))=c*c*(rv X*rv X*(rv X*rv X)*(rv q*rv q)):=by grind
          rw [this,c2,Rat.one_mul]
        rw [e] at vx
        have pp:=WZ
        have B2:=sG Bn
        have B1:1≤Bn*Bn:=mY (by grind)
        have B4:=Rat.mul_le_mul_of_nonneg_left B1 (show 0≤Bn*Bn*(Bn*Bn*(Bn*Bn)) by
          have:=Rat.mul_nonneg B2 (Rat.mul_nonneg B2 B2)
          grind)
        have s3:=Rat.mul_le_mul_of_nonneg_left pp (sG (rv (bC X q)*rv X))
        have s4:=Rat.mul_le_mul_of_nonneg_left B4 (sG (rv (bC X q)*rv X))
        have s5:=Rat.mul_le_mul_of_nonneg_right vx.2 (show 0≤Bn*Bn*(Bn*Bn*(Bn*Bn)) by
          have:=Rat.mul_nonneg B2 (Rat.mul_nonneg B2 B2)
          grind)
        clear vx ih i2 v2 h z lim ht
        grind) (by
        have:=cJ (show 0≤16384*Bn by grind) (show 16384*Bn≤Pn by grind)
        have:=sG Bn
        grind)
    have m3:As 2049 (rv (bC (bC X q) X)) (c*(rv q*c*(rv X*rv X))):=by
      have u:=(m2.trans (v2.mul (rv X)) (by decide) (by decide)).mono (m:=2049) (by grind)
      have e:rv X*rv q*rv X=c*(rv q*c*(rv X*rv X)):=by
        have:c*(rv q*c*(rv X*rv X))=c*c*(rv X*rv q*rv X):=by grind
        rw [this,c2,Rat.one_mul]
      rw [e] at u
      exact u
    have Z0:=Um (t:=t) a2 (Rat.le_of_lt q0) j
    have Z1:=Vs (x0:=x0) (t:=t) (Rat.le_of_lt q0) (j:=j) (by omega)
    obtain ⟨s1,s2⟩:=KH i1 m1 (lim i2 (by grind) Z0 (by grind)) (lim m3 (by decide) t0 (by grind))
    have e:sW (x0::t) q (j+1+1)=js (sW (x0::t) q (j+1)) (bC (bC X q) X):=by
      rw [←hXe];rfl
    have e2:zR c x0 q t (j+1)=zR c x0 q t j+rv q*c*(rv X*rv X):=by
      rw [←hXe]
      unfold zR
      show _+_*(eF _ j+_)=_
      grind
    rw [e,e2]
    refine ⟨s1,?_⟩
    have ad:=As.add i2 (m3.mono (m:=2049+1025*((j:Rat)+1)) (by grind)) Z0 t0
    have ec:((j+1:Nat):Rat)=(j:Rat)+1:=by rw [Rat.natCast_add];rfl
    rw [ec]
    exact (s2.trans ad (by decide) (by grind)).mono (by grind)
end
end Go.Plb
namespace Go.Plb
set_option linter.unusedSimpArgs false
set_option linter.unusedVariables false
set_option linter.unusedSectionVars false
variable [Rom]
structure W7 (x:List Nat) (be tau q w:Nat):Prop where
  kb:Ok be
  kt:Ok tau
  kv:∀ i,i<x.length→Ok (vW x q i)
  ko:∀ i,i<x.length→Ok (oW x q w i)
  tb:rv tau*rv tau≤9
  sb:eF (fun i=>rv (vW x q i)*rv (vW x q i)) x.length≤5
  one:81129638414606681695789005144064*eF (fun i=>(rv (oW x q w i)-if i=0 then rv be else 0)*(rv (oW x q w i)-if i=0 then rv be else 0)) x.length≤64*(x.length:Rat)*(64*(x.length:Rat))*eF (fun i=>rv (x.getD i 0)*rv (x.getD i 0)) x.length
  two:∀ s,s=eF (fun i=>rv (vW x q i)*rv (vW x q i)) x.length→81129638414606681695789005144064*(((rv tau*s-2)*rv tau*s)*((rv tau*s-2)*rv tau*s))≤64*(x.length:Rat)*(64*(x.length:Rat))
theorem Sv{x0:Nat}{t:List Nat}(hx0:H2 x0)(ht:∀ y∈t,H2 y)(hl:t.length≤15)(hL:Pw (gH t))(hS:0<Cl t)(hLS:As (6200*(t.length:Rat)+4800) (rv (gH t)*rv (gH t)) (Cl t)) :
    W7 (x0::t) (A8 x0 (gH t)) (GI x0 (A8 x0 (gH t))) (qW x0 (A8 x0 (gH t))) (bC (GI x0 (A8 x0 (gH t))) (sW (x0::t) (qW x0 (A8 x0 (gH t))) (t.length+1))):=by
  have lr:(t.length:Rat)≤((15:Nat):Rat):=Rat.natCast_le_natCast.2 hl
  have e15:((15:Nat):Rat)=15:=rfl
  rw [e15] at lr
  have l0:(0:Rat)≤(t.length:Rat):=Rat.natCast_nonneg
  have l1:1≤t.length:=by
    rcases t with _ | ⟨y,t'⟩
    · exact absurd hS (by decide)
    · rw [List.length_cons];omega
  have l1r:((1:Nat):Rat)≤(t.length:Rat):=Rat.natCast_le_natCast.2 l1
  have e1:((1:Nat):Rat)=1:=rfl
  rw [e1] at l1r
  have hlen:((x0::t).length:Rat)=(t.length:Rat)+1:=by rw [List.length_cons,Rat.natCast_add];rfl
  obtain ⟨kb,kt,kq,b,wb,ebe,hh⟩:=I2 hx0 hL hS (E:=6200*(t.length:Rat)) (by grind) (by grind) hLS
  generalize A8 x0 (gH t)=be at *
  generalize GI x0 be=tau at *
  generalize qW x0 be=q at *
  clear hLS hL
  have ti:∀ i,i<t.length→H2 (t.getD i 0):=by
    intro i hi
    have:t.getD i 0=t[i]:=by rw [List.getD_eq_getElem?_getD,List.getElem?_eq_getElem hi];rfl
    rw [this];exact ht _ (List.getElem_mem hi)
  have al_hi:rv (aL x0)≤Bn:=by
    obtain ⟨a1,a2,a3,a4⟩:=mS hx0.ok
    exact zz (Rat.le_of_lt ig) (by rw [a3];exact hx0.hi)
  have z:=WF hh al_hi wb
  obtain ⟨w1,w2⟩:=zA
  obtain ⟨a1,a2,a3,a4⟩:=mS hx0.ok
  have ex:=QB hx0.ok
  obtain ⟨sk,sn⟩:=V8 hh z hx0 rfl ti kq (by omega) t.length (Nat.le_refl _)
  generalize hc:sr (sb x0)=c at *
  have eZ:zR c x0 q t t.length=rv (aL x0)+rv q*c*Cl t:=by rw [xB];rfl
  rw [eZ] at sn
  have Bp:=ig
  have bb:=mT
  have p1:=WR
  have p2:=WK
  have q0:=hh.q0
  have b0:=hh.b0
  have ba:=hh.ba
  have c2:=hh.c2
  have bsq:=Rat.mul_pos b0 b0
  have cz:∀ Z:Rat,c*Z*(c*Z)=Z*Z:=by
    intro Z
    have:c*Z*(c*Z)=c*c*(Z*Z):=by grind
    rw [this,c2,Rat.one_mul]
  have big:1099511627776*Bn*(1099511627776*Bn)≤Pn*Pn:=cJ (by grind) (by grind)
  have B2:=sG Bn
  have B1:1≤Bn*Bn:=mY (by grind)
  have zlo:=z.bl
  have zhi:=z.bh
  have bB:1≤16777216*(b*b*(Bn*Bn)):=by
    have:=mY zlo
    grind
  have bhi2:b*b≤4096*Bn*(4096*Bn):=cJ (Rat.le_of_lt b0) zhi
  have PP:1152921504606846976*(Bn*Bn)*(1152921504606846976*(Bn*Bn))≤Pn*Pn:=cJ (by grind) p2
  generalize hSg:sW (x0::t) q (t.length+1)=Sg at *

  have sb2:rv Sg*rv Sg≤3*(b*b)∧b*b≤3*(rv Sg*rv Sg):=by
    have d:=(hh.dot.mul c)
    rw [Rat.mul_comm _ c,Rat.mul_comm b c] at d
    have u:=((sn.trans d (by grind) (by grind)).prod (sn.trans d (by grind) (by grind)) (by grind) (by grind))
    have bd:=u.bd (by grind) (sG _)
    rw [cz] at bd
    constructor<;>grind
  have t2:rv tau*rv tau≤9∧1≤4*(rv tau*rv tau):=by
    have t1:=z.t1
    have t3:=z.t2
    have u:=cJ (y:=1) (by decide) t1
    have v:=cJ (show 0≤rv tau by grind) t3
    constructor<;>grind
  obtain ⟨wk,wn⟩:=uo kt sk (by
    right
    have s1:=mR (a:=1) (by decide) (Rat.le_of_lt bsq) t2.2 sb2.2
    have s2:=Rat.mul_le_mul_of_nonneg_left PP (sG (rv tau*rv Sg))
    have s3:=Rat.mul_le_mul_of_nonneg_right s1 B2
    have s4:=Rat.mul_le_mul_of_nonneg_left B1 (show 0≤rv tau*rv Sg*(rv tau*rv Sg)*(Bn*Bn) from Rat.mul_nonneg (sG _) B2)
    clear sn ti ht hh z
    grind) (by
    have s1:=mR (sG _) (sG _) t2.1 sb2.1
    clear sn ti ht hh z
    grind)
  have wn2:=hh.w (n:=(t.length:Rat)+1) (by grind) (by grind) (sn.mono (by grind)) wn
  generalize hw:bC tau Sg=w at *
  have w2b:rv w*rv w≤10*(b*b)∧b*b≤2*(rv w*rv w):=by
    have s:=wn2.sq2 (by grind)
    rw [cz] at s
    have u:=cJ (Rat.le_of_lt b0) (show b≤b+rv (aL x0) by grind)
    have v:=cJ (Rat.le_of_lt ba) (show b+rv (aL x0)≤2236/1000*b by have:=hh.al_b;grind)
    constructor<;>grind
  have w2P:rv w*rv w≤Pn*Pn:=by clear sn ti ht hh z wn2 wn;grind
  have w2L:1≤rv w*rv w*(Pn*Pn):=by
    have s2:=Rat.mul_le_mul_of_nonneg_left PP (sG (rv w))
    have s3:=Rat.mul_le_mul_of_nonneg_right w2b.2 B2
    have s4:=Rat.mul_le_mul_of_nonneg_left B1 (show 0≤rv w*rv w*(Bn*Bn) from Rat.mul_nonneg (sG _) B2)
    clear sn ti ht hh z wn2 wn
    grind
  have xP:∀ {y:Nat},H2 y→rv y*rv y≤Pn*Pn:=by
    intro y hy
    have:=hy.hi
    have:=cJ (Rat.le_of_lt Bp) (show Bn≤Pn by grind)
    grind

  obtain ⟨f1,f2⟩:=uo w1 wk (by rw [w2,Rat.one_mul];exact .inr w2L) (by rw [w2,Rat.one_mul];exact w2P)
  rw [w2,Rat.one_mul] at f2
  have tP:rv (bC dK w)*rv (bC dK w)≤Pn*Pn:=by
    have:=(f2.sq2 (by decide)).2
    clear sn ti ht hh z wn2 wn f2
    grind
  obtain ⟨o1,o2⟩:=D8 hx0.ok f1 (xP hx0) tP
  have o2':=o2
  rw [ex] at o2'
  have first:=hh.first (n:=(t.length:Rat)+1) (by grind) wn2 f2 o2'

  have others:∀ i,i<t.length→Ok (bC (t.getD i 0) q)∧As 1024 (rv (bC (t.getD i 0) q)) (rv (t.getD i 0)*rv q)∧Ok (fR (t.getD i 0) (bC (bC (t.getD i 0) q) w)) ∧
      85070591730234615865843651857942052864*(rv (fR (t.getD i 0) (bC (bC (t.getD i 0) q) w))*rv (fR (t.getD i 0) (bC (bC (t.getD i 0) q) w)))≤18000*((t.length:Rat)+1)*(18000*((t.length:Rat)+1))*(rv (t.getD i 0)*rv (t.getD i 0)):=by
    intro i hi
    have hX:=ti i hi
    generalize t.getD i 0=X at *
    obtain ⟨v1,v2⟩:=Ul hX kq z

    have nx:As (7225*((t.length:Rat)+1)+20410) (rv (bC X q)*rv w) (rv X):=by
      have a:=v2.prod wn2 (by decide) (by grind)
      have bx:=hh.hq.mul (rv X)
      rw [show rv q*(c*(b+rv (aL x0)))*rv X=rv X*rv q*(c*(b+rv (aL x0))) by grind,Rat.one_mul] at bx
      exact (a.trans bx (by grind) (by decide)).mono (by grind)
    have s:=nx.sq2 (by grind)
    have X2:=sG (rv X)
    obtain ⟨m1,m2⟩:=uo v1 wk (by
      rcases hX.lo with u | u
      · left
        rw [u] at nx
        exact nx.zero
      · right
        have s2:=Rat.mul_le_mul_of_nonneg_left PP (sG (rv (bC X q)*rv w))
        have s3:=Rat.mul_le_mul_of_nonneg_right s.1 B2
        have s4:=Rat.mul_le_mul_of_nonneg_left B1 (show 0≤rv (bC X q)*rv w*(rv (bC X q)*rv w)*(Bn*Bn) from Rat.mul_nonneg (sG _) B2)
        clear sn ti ht hh z wn2 wn f2 o2 o2' nx v2 first
        grind) (by
        have:=hX.hi
        clear sn ti ht hh z wn2 wn f2 o2 o2' nx v2 first
        grind)
    have mP:rv (bC (bC X q) w)*rv (bC (bC X q) w)≤Pn*Pn:=by
      have:=(m2.sq2 (by decide)).2
      have:=hX.hi
      clear sn ti ht hh z wn2 wn f2 o2 o2' nx v2 first m2
      grind
    obtain ⟨r1,r2⟩:=D8 hX.ok m1 (xP hX) mP
    exact ⟨v1,v2,r1,hh.others (n:=(t.length:Rat)+1) (by grind) wn2 v2 m2 r2⟩
  have hsum:As 2049 (eF (fun i=>rv (vW (x0::t) q i)*rv (vW (x0::t) q i)) (t.length+1)) (1+rv q*c*(rv q*c)*Cl t):=by
    rw [lh]
    have e0:rv (vW (x0::t) q 0)*rv (vW (x0::t) q 0)=1:=by
      show rv dK*rv dK=1
      rw [w2,Rat.one_mul]
    rw [e0]
    have qs:rv q*c*(rv q*c)=rv q*rv q:=by
      have:rv q*c*(rv q*c)=rv q*rv q*(c*c):=by grind
      rw [this,c2,Rat.mul_one]
    rw [qs]

    have key:∀ j,j≤t.length→As 2049 (eF (fun i=>rv (vW (x0::t) q (i+1))*rv (vW (x0::t) q (i+1))) j) (1*(rv q*rv q*eF (fun i=>rv (t.getD i 0)*rv (t.getD i 0)) j)):=by
      intro j
      induction j with
      | zero =>
        intro _
        show As 2049 (0:Rat) (1*(_*(0:Rat)))
        rw [show (1:Rat)*(rv q*rv q*0)=0 by grind]
        exact As.refl _ _ (by decide)
      | succ j ih =>
        intro hj
        have i1:=ih (by omega)
        have v2:=(others j (by omega)).2.1
        have sq:=(v2.prod v2 (by decide) (by decide)).mono (m:=2049) (by grind)
        have ad:=As.add i1 (z':=rv q*rv q*(rv (t.getD j 0)*rv (t.getD j 0))) (by
          rw [Rat.one_mul,show rv q*rv q*(rv (t.getD j 0)*rv (t.getD j 0))=rv (t.getD j 0)*rv q*(rv (t.getD j 0)*rv q) by grind]
          exact sq) (Rat.mul_nonneg (sG _) (wL fun i _=>sG _)) (Rat.mul_nonneg (sG _) (sG _))
        show As 2049 (eF _ j+_) (1*(_*(eF _ j+_)))
        rw [Rat.mul_add]
        exact ad
    have k:=key t.length (Nat.le_refl _)
    rw [←xB] at k
    have ad:=As.add (x:=1) (z:=1) (As.refl 2049 (1*1) (by decide) |> fun h=>by rw [Rat.one_mul] at h;rw [Rat.one_mul];exact h) k (by decide) (Rat.mul_nonneg (sG _) (U3 t))
    rw [Rat.one_mul] at ad
    exact ad
  have s5:eF (fun i=>rv (vW (x0::t) q i)*rv (vW (x0::t) q i)) (t.length+1)≤5:=by
    have s0:0≤eF (fun i=>rv (vW (x0::t) q i)*rv (vW (x0::t) q i)) (t.length+1):=wL fun i _=>sG _
    have b2:=((hh.two hsum).bd (by grind) (by decide)).1
    have t1:=z.t1
    have:=Rat.mul_le_mul_of_nonneg_right t1 s0
    clear sn ti ht hh wn2 wn f2 o2 o2' first others hsum
    grind
  refine ⟨kb,kt,?_,?_,t2.1,by rw [List.length_cons];exact s5,?_,?_⟩
  · intro i hi
    rcases i with _ | i
    · exact w1
    · exact (others i (by rw [List.length_cons] at hi;omega)).1
  · intro i hi
    rcases i with _ | i
    · exact o1
    · exact (others i (by rw [List.length_cons] at hi;omega)).2.2.1
  · rw [hlen,List.length_cons,lh,lh]
    have e0:(rv (oW (x0::t) q w 0)-if (0:Nat)=0 then rv be else 0)=rv (fR x0 (bC dK w)) - -(c*b):=by
      rw [if_pos rfl,ebe];rfl
    rw [e0]
    have eS:eF (fun i=>rv ((x0::t).getD (i+1) 0)*rv ((x0::t).getD (i+1) 0)) t.length=Cl t:=by rw [xB];rfl
    have eX:rv ((x0::t).getD 0 0)*rv ((x0::t).getD 0 0)=rv (aL x0)*rv (aL x0):=a3.symm
    rw [eS,eX]
    refine hh.near1 (n:=(t.length:Rat)+1) (by grind) first ?_
    rw [←wM,xB,←wM]
    refine Rw fun i hi=>?_
    have:=(others i hi).2.2.2
    have e:(rv (oW (x0::t) q w (i+1))-if i+1=0 then rv be else 0)=rv (fR (t.getD i 0) (bC (bC (t.getD i 0) q) w)):=by
      rw [if_neg (by omega)]
      show rv (fR _ (bC _ w))-0=_
      rw [Rat.sub_eq_add_neg,show -(0:Rat)=0 by decide,Rat.add_zero];rfl
    rw [e];exact this
  · intro s hs
    rw [hlen]
    exact hh.near2 (n:=(t.length:Rat)+1) (by rw [hs,List.length_cons];exact hsum) (by grind) (by grind)
structure Lw (x:List Nat) (be tau:Nat) (vs out:List Nat):Prop where
  lv:vs.length=x.length
  lo:out.length=x.length
  kb:Ok be
  kt:Ok tau
  kv:∀ i,i<x.length→Ok (vs.getD i 0)
  ko:∀ i,i<x.length→Ok (out.getD i 0)
  tb:rv tau*rv tau≤9
  sb:eF (fun i=>rv (vs.getD i 0)*rv (vs.getD i 0)) x.length≤5
  one:81129638414606681695789005144064*eF (fun i=>(rv (out.getD i 0)-if i=0 then rv be else 0)*(rv (out.getD i 0)-if i=0 then rv be else 0)) x.length≤64*(x.length:Rat)*(64*(x.length:Rat))*eF (fun i=>rv (x.getD i 0)*rv (x.getD i 0)) x.length
  two:∀ s,s=eF (fun i=>rv (vs.getD i 0)*rv (vs.getD i 0)) x.length→81129638414606681695789005144064*(((rv tau*s-2)*rv tau*s)*((rv tau*s-2)*rv tau*s))≤64*(x.length:Rat)*(64*(x.length:Rat))
def gB(out:List Nat)(be:Nat)(i:Nat) :Int:=if i=0 then gz out 0-fz be else gz out i
theorem NY(f:Nat→Int) :∀ n,((fj f n:Int):Rat)=eF (fun i=>(f i:Rat)) n
  | 0=>rfl
  | n+1=>by
    show ((fj f n+f n:Int):Rat)=eF _ n+(f n:Rat)
    rw [Rat.intCast_add,NY f n]
theorem QC{f:Nat→Int}{g:Nat→Rat}{n:Nat}(h:∀ i,i<n→g i*Un=(f i:Rat)) :((fj (fun i=>f i*f i) n:Int):Rat)=eF (fun i=>g i*g i) n*(Un*Un):=by
  rw [NY,Rat.mul_comm,←wM]
  refine lk fun i hi=>?_
  show ((f i*f i:Int):Rat)=Un*Un*(g i*g i)
  rw [Rat.intCast_mul,←h i hi];grind
section
variable {x vs out : List Nat} {be tau : Nat}
theorem Lw.far(h:Lw x be tau vs out) :((fj (fun i=>gB out be i*gB out be i) x.length:Int):Rat)=eF (fun i=>(rv (out.getD i 0)-if i=0 then rv be else 0)*(rv (out.getD i 0)-if i=0 then rv be else 0)) x.length*(Un*Un):=by
  refine QC (g:=fun i=>rv (out.getD i 0)-if i=0 then rv be else 0) fun i hi=>?_
  unfold gB gz
  by_cases q:i=0
  · subst q
    rw [if_pos rfl,if_pos rfl,Rat.intCast_sub,←ir,←ir];grind
  · rw [if_neg q,if_neg q,←ir];grind
theorem Lw.size(x:List Nat) :((fj (fun i=>gz x i*gz x i) x.length:Int):Rat)=eF (fun i=>rv (x.getD i 0)*rv (x.getD i 0)) x.length*(Un*Un) :=
  QC (g:=fun i=>rv (x.getD i 0)) fun i hi=>ir _
theorem Lw.lens(h:Lw x be tau vs out) :((fj (fun i=>gz vs i*gz vs i) x.length:Int):Rat)=eF (fun i=>rv (vs.getD i 0)*rv (vs.getD i 0)) x.length*(Un*Un) :=
  QC (g:=fun i=>rv (vs.getD i 0)) fun i hi=>ir _
theorem Lw.oneI(h:Lw x be tau vs out) :fj (fun i=>gB out be i*gB out be i) x.length*81129638414606681695789005144064≤((64*x.length*64*x.length:Nat):Int)*fj (fun i=>gz x i*gz x i) x.length:=by
  refine Rat.intCast_le_intCast.1 ?_
  rw [Rat.intCast_mul,Rat.intCast_mul,h.far,Lw.size]
  have e:(((64*x.length*64*x.length:Nat):Int):Rat)=64*(x.length:Rat)*(64*(x.length:Rat)):=by
    rw [Rat.intCast_natCast,Rat.natCast_mul,Rat.natCast_mul,Rat.natCast_mul]
    have:((64:Nat):Rat)=64:=rfl
    rw [this];grind
  have e2:((81129638414606681695789005144064:Int):Rat)=81129638414606681695789005144064:=rfl
  rw [e,e2]
  have u:=Rat.mul_pos dL dL
  have:=Rat.mul_le_mul_of_nonneg_right h.one (Rat.le_of_lt u)
  grind
def tI(s tau D:Int) :Int:=(tau*s-2*D)*tau*s
theorem W1:((E2 3222:Nat):Rat)=Un*(Un*Un):=by
  show ((E2 3222:Nat):Rat)=((E2 1074:Nat):Rat)*(((E2 1074:Nat):Rat)*((E2 1074:Nat):Rat))
  rw [←Rat.natCast_mul,←Rat.natCast_mul,←bi,←bi]
theorem Lw.twoI(h:Lw x be tau vs out) :tI (fj (fun i=>gz vs i*gz vs i) x.length) (fz tau) ((E2 3222:Nat):Int)*tI (fj (fun i=>gz vs i*gz vs i) x.length) (fz tau) ((E2 3222:Nat):Int)*81129638414606681695789005144064≤((64*x.length*64*x.length:Nat):Int)*((E2 12888:Nat):Int):=by
  refine Rat.intCast_le_intCast.1 ?_
  have eT:((tI (fj (fun i=>gz vs i*gz vs i) x.length) (fz tau) ((E2 3222:Nat):Int):Int):Rat)=((rv tau*eF (fun i=>rv (vs.getD i 0)*rv (vs.getD i 0)) x.length-2)*rv tau*eF (fun i=>rv (vs.getD i 0)*rv (vs.getD i 0)) x.length)*(Un*(Un*Un)*(Un*(Un*Un))):=by
    unfold tI
    rw [Rat.intCast_mul,Rat.intCast_mul,Rat.intCast_sub,Rat.intCast_mul,Rat.intCast_mul,h.lens,←ir,Rat.intCast_natCast,W1]
    have:((2:Int):Rat)=2:=rfl
    rw [this]
    grind
  have e12:((E2 12888:Nat):Rat)=Un*(Un*Un)*(Un*(Un*Un))*(Un*(Un*Un)*(Un*(Un*Un))):=by
    rw [←W1,←Rat.natCast_mul,←Rat.natCast_mul,←bi,←bi]
  have e:(((64*x.length*64*x.length:Nat):Int):Rat)=64*(x.length:Rat)*(64*(x.length:Rat)):=by
    rw [Rat.intCast_natCast,Rat.natCast_mul,Rat.natCast_mul,Rat.natCast_mul]
    have:((64:Nat):Rat)=64:=rfl
    rw [this];grind
  have e2:((81129638414606681695789005144064:Int):Rat)=81129638414606681695789005144064:=rfl
  rw [Rat.intCast_mul,Rat.intCast_mul,Rat.intCast_mul,eT,e,e2,Rat.intCast_natCast,e12]
  have u:=Rat.mul_pos dL (Rat.mul_pos dL dL)
  have u6:=Rat.mul_pos (Rat.mul_pos u u) (Rat.mul_pos u u)
  have:=Rat.mul_le_mul_of_nonneg_right (h.two _ rfl) (Rat.le_of_lt u6)
  generalize eF (fun i=>rv (vs.getD i 0)*rv (vs.getD i 0)) x.length=s at *
  generalize (rv tau*s-2)*rv tau*s=T at *
  generalize Un*(Un*Un)=V at *
  grind
theorem WL{z:Int}{A:Nat}{k n:Nat}(h:z.natAbs≤A*E2 k)(hA:A<64)(hk:k+6≤64*n) :nl z.natAbs≤n:=by
  refine gu ?_
  have e:W^n=2^(64*n):=by rw [Nat.pow_mul]
  rw [e]
  have s:A*E2 k<E2 (k+6):=by
    rw [bi,Nat.mul_comm]
    have:E2 6=64:=by decide
    rw [this]
    exact Nat.mul_lt_mul_of_pos_left hA (iq k)
  exact Nat.lt_of_le_of_lt h (Nat.lt_of_lt_of_le s (ru hk))
theorem Lw.ntau(h:Lw x be tau vs out) :nl (fz tau).natAbs≤17:=by
  refine WL (A:=3) (k:=1074) ?_ (by omega) (by omega)
  have a:=h.tb
  have e:vl tau*vl tau≤3*E2 1074*(3*E2 1074):=by
    refine Rat.natCast_le_natCast.1 ?_
    rw [←I1,Go.Plb.mk,Rat.natCast_mul (3*3) (E2 1074*E2 1074),Rat.natCast_mul (E2 1074) (E2 1074)]
    have:((3*3:Nat):Rat)=9:=rfl
    rw [this]
    exact Rat.mul_le_mul_of_nonneg_right a (Rat.le_of_lt (Rat.mul_pos dL dL))
  exact NV e
theorem Dj{f:Nat→Int} :∀ {n:Nat},(∀ i,i<n→0≤f i)→0≤fj f n
  | 0,_=>Int.le_refl _
  | n+1,h=>by
    have:=Dj (f:=f) (n:=n) fun i hi=>h i (by omega)
    have:=h n (by omega)
    show 0≤fj f n+f n
    omega
theorem Lw.nlens(h:Lw x be tau vs out) :nl (fj (fun i=>gz vs i*gz vs i) x.length).natAbs≤34:=by
  refine WL (A:=5) (k:=2148) ?_ (by omega) (by omega)
  have e:fj (fun i=>gz vs i*gz vs i) x.length≤((5*E2 2148:Nat):Int):=by
    refine Rat.intCast_le_intCast.1 ?_
    rw [h.lens,Rat.intCast_natCast,Rat.natCast_mul,show E2 2148=E2 1074*E2 1074 by rw [←bi],Rat.natCast_mul]
    exact Rat.mul_le_mul_of_nonneg_right h.sb (Rat.le_of_lt (Rat.mul_pos dL dL))
  have p:=Dj (f:=fun i=>gz vs i*gz vs i) (n:=x.length) fun i _=>(by
    rcases Int.le_total 0 (gz vs i) with q | q
    · exact Int.mul_nonneg q q
    · have:=Int.mul_nonneg (show 0≤-gz vs i by omega) (show 0≤-gz vs i by omega)
      rw [Int.neg_mul_neg] at this;exact this)
  omega
end
end Go.Plb
namespace Go.Plb
set_option linter.unusedSimpArgs false
set_option linter.unusedVariables false
set_option linter.unusedSectionVars false
variable [Rom]
theorem A9{a b:Rat}(h:a=b) :a≤b:=by rw [h];exact Rat.le_refl
theorem U7{x:List Nat}{x0:Nat}{t vs:List Nat}(hx:x=x0::t)(ok:∀ y∈x,Ok y)(hz:Cl t=0)(lv:vs.length=x.length)(v0:vs.getD 0 0=dK)(vi:∀ i,0<i→i<x.length→vs.getD i 0=0) :Lw x x0 0 vs x:=by
  obtain ⟨z1,z2⟩:=xz
  obtain ⟨w1,w2⟩:=zA
  have okg:∀ i,i<x.length→Ok (x.getD i 0):=by
    intro i hi
    have:x.getD i 0=x[i]:=by rw [List.getD_eq_getElem?_getD,List.getElem?_eq_getElem hi];rfl
    rw [this];exact ok _ (List.getElem_mem hi)
  have hn:x.length=t.length+1:=by rw [hx,List.length_cons]
  have vsum:eF (fun i=>rv (vs.getD i 0)*rv (vs.getD i 0)) x.length=1:=by
    rw [hn,lh,v0,w2]
    have:eF (fun i=>rv (vs.getD (i+1) 0)*rv (vs.getD (i+1) 0)) t.length=eF (fun _=>0*0) t.length:=lk fun i hi=>by
      rw [vi (i+1) (by omega) (by omega),z2];
    rw [this,wM]
    show (1:Rat)*1+0*_=1
    grind
  have n0:(0:Rat)≤64*(x.length:Rat)*(64*(x.length:Rat)):=sG _
  refine ⟨lv,rfl,ok x0 (by rw [hx];exact List.mem_cons_self ..),z1,?_,okg,by rw [z2,Rat.zero_mul];decide,by rw [vsum];decide,?_,?_⟩
  · intro i hi
    rcases i with _ | i
    · rw [v0];exact w1
    · rw [vi (i+1) (by omega) hi];exact z1
  · have:eF (fun i=>(rv (x.getD i 0)-if i=0 then rv x0 else 0)*(rv (x.getD i 0)-if i=0 then rv x0 else 0)) x.length=0:=by
      rw [hn,lh,if_pos rfl,hx]
      have e:eF (fun i=>(rv ((x0::t).getD (i+1) 0)-if i+1=0 then rv x0 else 0)*(rv ((x0::t).getD (i+1) 0)-if i+1=0 then rv x0 else 0)) t.length=Cl t:=by
        rw [xB]
        refine lk fun i hi=>?_
        rw [if_neg (by omega)]
        show (rv (t.getD i 0)-0)*(rv (t.getD i 0)-0)=_
        grind
      rw [e,hz]
      show (rv x0-rv x0)*(rv x0-rv x0)+0=(0:Rat)
      grind
    rw [this,Rat.mul_zero]
    exact Rat.mul_nonneg n0 (wL fun i _=>sG _)
  · intro s hs
    rw [z2]
    have:((0:Rat)*s-2)*0*s*(((0:Rat)*s-2)*0*s)=0:=by grind
    rw [this,Rat.mul_zero]
    exact n0
theorem U8{x0:Nat}{t vs out:List Nat}(hx0:H2 x0)(ht:∀ y∈t,H2 y)(hl:t.length≤15)(hL:Pw (gH t))(hS:0<Cl t)(hLS:As (6200*(t.length:Rat)+4800) (rv (gH t)*rv (gH t)) (Cl t)) 
    (lv:vs.length=t.length+1) (lo:out.length=t.length+1) (ev:∀ i,i<t.length+1→vs.getD i 0=vW (x0::t) (qW x0 (A8 x0 (gH t))) i)
    (eo:∀ i,i<t.length+1→out.getD i 0=oW (x0::t) (qW x0 (A8 x0 (gH t))) (bC (GI x0 (A8 x0 (gH t))) (sW (x0::t) (qW x0 (A8 x0 (gH t))) (t.length+1))) i) :
    Lw (x0::t) (A8 x0 (gH t)) (GI x0 (A8 x0 (gH t))) vs out:=by
  have h:=Sv hx0 ht hl hL hS hLS
  have hn:(x0::t).length=t.length+1:=List.length_cons
  refine ⟨by rw [lv,hn],by rw [lo,hn],h.kb,h.kt,fun i hi=>?_,fun i hi=>?_,h.tb,?_,?_,?_⟩
  · rw [ev i (by omega)];exact h.kv i hi
  · rw [eo i (by omega)];exact h.ko i hi
  · refine Rat.le_trans (A9 ?_) h.sb
    exact lk fun i hi=>by rw [ev i (by omega)]
  · refine Rat.le_trans (A9 ?_) h.one
    congr 1
    exact lk fun i hi=>by rw [eo i (by omega)]
  · intro s hs
    refine h.two s ?_
    rw [hs]
    exact lk fun i hi=>by rw [ev i (by omega)]
end Go.Plb
namespace Go.Plb.Seat
open Go Go.Plb
set_option linter.unusedSimpArgs false
set_option linter.unusedVariables false
def KL(x:Nat) :Bool:=xC (aL x) 0||(Vb (aL x) 4156822456062967808&&Vt (aL x) 5057542381537067008)
theorem NZ(x:Nat) :qy x=some (.r0 (KL x)):=by
  refine bk (ae (a:=KL x) ?_ rfl)
  unfold Df KL
  cases xC (aL x) 0
  · cases Vb (aL x) 4156822456062967808
    · exact (aO (aO rfl))
    · exact (aO (cB rfl))
  · exact (cB rfl)
theorem Uo:Ok 4156822456062967808∧rv 4156822456062967808*Bn=1:=by
  have o:Ok 4156822456062967808:=⟨by decide,by decide⟩
  refine ⟨o,GF dL ?_⟩
  have e:=A6 o.lt
  have v:vl 4156822456062967808=E2 974:=by
    rw [qG,show cN (4156822456062967808%9223372036854775808)=E2 52 by decide,show dG (4156822456062967808%9223372036854775808)=922 by decide,←bi]
  rw [v,show sb 4156822456062967808=false by decide] at e
  simp only [sr,Bool.false_eq_true,if_false,Rat.one_mul] at e
  have x:rv 4156822456062967808*Bn*Un=rv 4156822456062967808*Un*Bn:=by grind
  rw [x,e,Rat.one_mul]
  show ((E2 974:Nat):Rat)*((E2 100:Nat):Rat)=((E2 1074:Nat):Rat)
  rw [←Rat.natCast_mul,←bi]
theorem U9:Ok 5057542381537067008∧rv 5057542381537067008=Bn:=by
  have o:Ok 5057542381537067008:=⟨by decide,by decide⟩
  refine ⟨o,GF dL ?_⟩
  have e:=A6 o.lt
  have v:vl 5057542381537067008=E2 1174:=by
    rw [qG,show cN (5057542381537067008%9223372036854775808)=E2 52 by decide,show dG (5057542381537067008%9223372036854775808)=1122 by decide,←bi]
  rw [v,show sb 5057542381537067008=false by decide] at e
  simp only [sr,Bool.false_eq_true,if_false,Rat.one_mul] at e
  rw [e]
  show ((E2 1174:Nat):Rat)=((E2 100:Nat):Rat)*((E2 1074:Nat):Rat)
  rw [←Rat.natCast_mul,←bi]
theorem V9{x y:Nat}(hx:Ok x)(hy:Ok y) :Vt x y=true↔rv x≤rv y:=by
  unfold Vt
  rw [A7 hx hy]
  by_cases a:rv x<rv y
  · rw [if_pos a];exact ⟨fun _=>Rat.le_of_lt a,fun _=>rfl⟩
  · rw [if_neg a]
    by_cases b:rv y<rv x
    · rw [if_pos b];exact ⟨fun h=>(by cases h),fun h=>absurd h (by grind)⟩
    · rw [if_neg b];exact ⟨fun _=>by grind,fun _=>rfl⟩
theorem Wa{x y:Nat}(hx:Ok x)(hy:Ok y) :Vb x y=true↔rv y≤rv x:=by
  unfold Vb
  rw [A7 hx hy]
  by_cases a:rv x<rv y
  · rw [if_pos a];exact ⟨fun h=>(by cases h),fun h=>absurd h (by grind)⟩
  · rw [if_neg a]
    by_cases b:rv y<rv x
    · rw [if_pos b];exact ⟨fun _=>Rat.le_of_lt b,fun _=>rfl⟩
    · rw [if_neg b];exact ⟨fun _=>by grind,fun _=>rfl⟩
theorem Up{x:Nat}(hx:x<pE)(h:KL x=true) :H2 x:=by
  have hx':x<18446744073709551616:=hx
  have hlow:x%9223372036854775808<9218868437227405312:=by
    unfold KL at h
    rw [Ae hx] at h
    rcases Nat.lt_trichotomy (x%9223372036854775808) 9218868437227405312 with q | q | q
    · exact q
    · exfalso
      rw [q] at h
      revert h
      decide
    · exfalso
      have r:=R5 (x:=x%9223372036854775808) (by show _<18446744073709551616;omega) (by rw [Nat.mod_mod];exact q)
      obtain ⟨s,t,e⟩:=r7 r
      have o:∀ y,qI (x%9223372036854775808) y=none:=by
        intro y
        unfold qI Ieee.Format.order
        rw [e]
        rfl
      unfold xC Vb Vt at h
      rw [o,o,o] at h
      cases h
  have ok:Ok x:=⟨hx,A3 hlow⟩
  obtain ⟨a1,a2,a3,a4⟩:=mS ok
  obtain ⟨z1,z2⟩:=xz
  obtain ⟨l1,l2⟩:=Uo
  obtain ⟨m1,m2⟩:=U9
  have b:=ig
  unfold KL at h
  rw [Bool.or_eq_true,Bool.and_eq_true,wK a1 z1,Wa a1 l1,V9 a1 m1,z2,m2] at h
  rcases h with h | ⟨h1,h2⟩
  · have e:rv x=0:=by rcases a4 with q | q<;>grind
    exact ⟨ok,.inl e,by rw [e,Rat.zero_mul];exact sG _⟩
  · have s1:=Rat.mul_le_mul_of_nonneg_right h1 (Rat.le_of_lt b)
    rw [l2] at s1
    have s:=mY s1
    rw [show rv (aL x)*Bn*(rv (aL x)*Bn)=rv (aL x)*rv (aL x)*(Bn*Bn) by grind,a3] at s
    have u:=cJ a2 h2
    rw [a3] at u
    exact ⟨ok,.inr s,u⟩
theorem N0(x y:Nat) :iR x y=some (.r0 (DU x y)):=by
  unfold DU
  have t4:∀ p q,(qB p q).run=some (.inr (.r0 (SD p q))):=by
    intro p q
    unfold qB SD
    cases xC p 0
    · exact (aO rfl)
    · exact (cB rfl)
  cases h:Va (aL y) (aL x)
  · refine bk (ae (a:=(aL x,aL y)) ?_ (t4 _ _))
    unfold qA
    rw [h]
    exact (aO rfl)
  · refine bk (ae (a:=(aL y,aL x)) ?_ (t4 _ _))
    unfold qA
    rw [h]
    exact (cB rfl)
theorem Sw{l:List Nat}{s:Nat×Nat}{x j:Nat}(hl:l.length≤100)(hj:j<l.length)(hx:l.getD j 0=x) :mn l (s.1,s.2,j)=some (.inl ((Di s x).1,(Di s x).2,j+1)):=by
  show aH (jG _ _ _ _).run _=_
  refine ae (a:=((Di s x).1,(Di s x).2)) ?_ (ag rfl)
  unfold jG Di
  rw [hx]
  cases xC x 0
  · cases flt s.1 (aL x)
    · exact (dF (ag (ag (aO (aO rfl)))))
    · exact (dF (ag (ag (aO (cB rfl)))))
  · exact (dF (ag (ag (cB rfl))))
theorem Sx{l:List Nat}{j:Nat}(hj:j<l.length)(s:Nat×Nat) :(l.take (j+1)).foldl Di s=Di ((l.take j).foldl Di s) (l.getD j 0):=by
  have e:l.take (j+1)=l.take j++[l.getD j 0]:=by
    rw [List.take_succ_eq_append_getElem hj,List.getD_eq_getElem?_getD,List.getElem?_eq_getElem hj];rfl
  rw [e,List.foldl_append];rfl
theorem GJ{l:List Nat}(hl:l.length≤100) :mo l=some (.r0 (gH l)):=by
  refine bk (ae (a:=()) rfl (ae (a:=((l.foldl Di (0,dK)).1,(l.foldl Di (0,dK)).2)) (dO (fun j=>(((l.take j).foldl Di (0,dK)).1,((l.take j).foldl Di (0,dK)).2,j)) l.length rfl (fun j hj=>?_) ?_) rfl))
  · rw [Sw hl hj rfl,Sx hj]
  · show aH (jG _ _ _ _).run _=_
    refine bN ?_
    unfold jG
    rw [List.take_length]
    exact cv rfl
def vL(x:List Nat)(q j:Nat) :List Nat:=JE (fun i=>i+1) (fun i=>bC (x.getD (i+1) 0) q) ((List.replicate x.length 0).set 0 dK) j
theorem KM{x:List Nat}{q j:Nat} :(vL x q j).length=x.length:=by unfold vL;rw [eB,List.length_set,List.length_replicate]
theorem W2{x:List Nat}{q:Nat}(h:0<x.length) :∀ j,(vL x q j).getD 0 0=dK:=by
  intro j
  unfold vL
  rw [yQ (fun i _=>by omega),List.getD_eq_getElem?_getD,List.getElem?_set,if_pos rfl,if_pos (by rw [List.length_replicate];exact h)]
  rfl
theorem W3{x:List Nat}{q:Nat} :∀ {j i:Nat},i<j→j+1≤x.length→(vL x q j).getD (i+1) 0=bC (x.getD (i+1) 0) q
  | 0,i,h,_=>absurd h (by omega)
  | j+1,i,h,hj=>by
    have e:vL x q (j+1)=(vL x q j).set (j+1) (bC (x.getD (j+1) 0) q):=rfl
    rw [e,List.getD_eq_getElem?_getD,List.getElem?_set,KM]
    by_cases w:j=i
    · subst w
      rw [if_pos rfl,if_pos (by omega)];rfl
    · rw [if_neg (by omega),←List.getD_eq_getElem?_getD]
      exact W3 (by omega) (by omega)
theorem QD{x:List Nat}(hn:0<x.length)(hl:x.length≤100)(h:xC (gH (x.drop 1)) 0=true) :da x=some (.r0 (x.getD 0 0) 0 x.length 0 ((List.replicate x.length 0).set 0 dK)):=by
  have hd:aa 1 (x.length-1) x=x.drop 1:=by
    rw [qX,List.take_of_length_le (by rw [List.length_drop];omega)]
  refine bk (ae (a:=(gH (x.drop 1),(List.replicate x.length 0).set 0 dK)) ?_ (bN ?_))
  · unfold pg
    rw [hd,GJ (by rw [List.length_drop];omega),List.length_replicate]
    exact cv (ag (ag (ag (ag (ag (ag (ag (ag (ag (au rfl))))))))))
  · unfold nK
    exact E3 h (ag (ag rfl))
theorem QE{x:List Nat}(hn:0<x.length)(hl:x.length≤100)(h:xC (gH (x.drop 1)) 0=false)(h0:isNaN (x.getD 0 0)=false){be q:Nat}(hb:A8 (x.getD 0 0) (gH (x.drop 1))=be)(hq:qW (x.getD 0 0) be=q) :
    da x=some (.r0 be 0 x.length (GI (x.getD 0 0) be) (vL x q (x.length-1))):=by
  have hd:aa 1 (x.length-1) x=x.drop 1:=by
    rw [qX,List.take_of_length_le (by rw [List.length_drop];omega)]
  refine bk (ae (a:=(gH (x.drop 1),(List.replicate x.length 0).set 0 dK)) ?_ (ae (a:=be) ?_ (ae (a:=(q,GI (x.getD 0 0) be)) ?_ (ae (a:=vL x q (x.length-1)) (dO (fun j=>(j+1,vL x q j)) (x.length-1) rfl (fun j hj=>?_) ?_) rfl))))
  · unfold pg
    rw [hd,GJ (by rw [List.length_drop];omega),List.length_replicate]
    exact cv (ag (ag (ag (ag (ag (ag (ag (ag (ag (au rfl))))))))))
  · unfold nK
    rw [N0]
    refine oD h (ag (ag (au (ag (ag (bT (by rw [h0];rfl) ?_))))))
    rw [←hb];rfl
  · unfold sy
    rw [←hq]
    exact ag (ag (ag (ag rfl)))
  · show (gU _ _ _ _).run=_
    have l:=KM (x:=x) (q:=q) (j:=j)
    unfold gU
    rw [l]
    refine dF (ag (ag (ag (ag (ag ?_)))))
    rfl
  · show (gU _ _ _ _).run=_
    unfold gU
    exact cv rfl
theorem Sy{n:Nat}{vs xs:List Nat}(hn:n≤vs.length)(hi:n≤xs.length)(hb:n≤1000) :
    ca (n:Int) vs 1 xs 0 0=some (.r0 (G3 (fun i=>bC (vs.getD i 0) (xs.getD i 0)) n)):=by
  refine bk (ae rfl (ae (dO (fun j=>(G3 (fun i=>bC (vs.getD i 0) (xs.getD i 0)) j,j)) n rfl (fun j hj=>?_) ?_) rfl))
  · show aH (cI _ _ _ _ _ _ _ _).run _=_
    have one:gV ((j:Nat):Int) vs 1 xs 0 0=some (.r0 (bC (vs.getD j 0) (xs.getD j 0))):=by
      refine bk ?_
      unfold rt
      have e:((0:Int)+((j:Nat):Int))*1+0=((j:Nat):Int):=by omega
      have e2:((0:Int)+((j:Nat):Int))=((j:Nat):Int):=by omega
      rw [e,e2,cx]
      exact ag (ag (ag (ag (ag (ag (ag rfl))))))
    refine ae (a:=G3 (fun i=>bC (vs.getD i 0) (xs.getD i 0)) (j+1)) ?_ (ag rfl)
    unfold cI
    rw [aW,aW,one]
    exact dF (dk (dk (au rfl)))
  · show aH (cI _ _ _ _ _ _ _ _).run _=_
    exact bN (cv rfl)
theorem I3{n:Nat}{xs:List Nat}(h:xs.length=n)(hn:n≤512) :kz (n:Int) 1 xs=some (.r0 true):=by
  refine bk (ae (a:=true) ?_ rfl)
  unfold wy
  rw [h]
  refine dF (dF (cB (cB (ag ?_))))
  show some (Sum.inl _)=_
  rw [Int.mul_one,beq_self_eq_true]
def GM(x vs:List Nat)(w j:Nat) :List Nat:=JE (fun i=>i) (fun i=>fR (x.getD i 0) (bC (vs.getD i 0) w)) x j
theorem QF{x vs:List Nat}{n tau:Nat}(hx:x.length=n)(hv:vs.length=n)(h0:0<n)(hn:n≤512)(ht:xC tau 0=true) :db (n:Int) 1 x 0 0 vs tau=some (.r0 0 n 1 n x):=by
  refine bk (ae (a:=false) ?_ (ae (a:=false) ?_ (bN ?_)))
  · unfold nP
    rw [aW,I3 hx hn]
    exact bT (oE x) (au (aO (oD (by rw [hv];exact (by simp only [dp,q9,se,jl,jm,dZ,jM,jN,decide_eq_true_eq,decide_eq_false_iff_not,beq_iff_eq,beq_eq_false_iff_ne,bne_iff_ne,bne_eq_false_iff_eq,Bool.not_eq_true',Bool.not_eq_false',List.length_set,ne_eq,ge_iff_le,gt_iff_lt,eB,cx,mX];omega)) (aO rfl))))
  · unfold nQ
    rw [hv]
    refine aO (ag (cv rfl))
  · unfold nR
    rw [aW,hx]
    exact aO (bT (by rw [←hx];exact oE x) (ag (E3 ht rfl)))
theorem QG{x vs:List Nat}{n tau w:Nat}(hx:x.length=n)(hv:vs.length=n)(h0:0<n)(hn:n≤512)(ht:xC tau 0=false)(hw:bC tau (G3 (fun i=>bC (vs.getD i 0) (x.getD i 0)) n)=w) :db (n:Int) 1 x 0 0 vs tau=some (.r0 0 n 1 n (GM x vs w n)):=by
  have ol:∀ j,(GM x vs w j).length=n:=fun j=>by unfold GM;rw [eB,hx]
  refine bk (ae (a:=false) ?_ (ae (a:=false) ?_ (ae (a:=(n,x)) ?_ (ae (a:=GM x vs w n) (dO (fun j=>(((j:Nat):Int),if j=0 then x else GM x vs w n)) 1 rfl (fun j hj=>?_) ?_) rfl))))
  · unfold nP
    rw [aW,I3 hx hn]
    exact bT (oE x) (au (aO (oD (by rw [hv];exact (by simp only [dp,q9,se,jl,jm,dZ,jM,jN,decide_eq_true_eq,decide_eq_false_iff_not,beq_iff_eq,beq_eq_false_iff_ne,bne_iff_ne,bne_eq_false_iff_eq,Bool.not_eq_true',Bool.not_eq_false',List.length_set,ne_eq,ge_iff_le,gt_iff_lt,eB,cx,mX];omega)) (aO rfl))))
  · unfold nQ
    rw [hv]
    refine aO (ag (cv rfl))
  · unfold nR
    rw [aW,hx]
    exact aO (bT (by rw [←hx];exact oE x) (ag (oD ht rfl)))
  · have j0:j=0:=by omega
    subst j0
    rw [if_pos rfl,if_neg (by decide)]
    unfold gX
    dsimp only
    refine ae (a:=()) (cB rfl) (ae (Tn (a:=GM x vs w n) ?_) (au rfl))
    refine ae (a:=w) ?_ (ae rfl (ae ?_ rfl))
    · unfold sE
      have s:=Sy (n:=n) (vs:=vs) (xs:=x) (by omega) (by omega) (by omega)
      rw [aW,aW,hv,show (((0:Nat):Int))=0 from rfl,s,←hw]
      exact bT (by rw [←hv];exact oE vs) (bT (oE x) (au rfl))
    · refine dO (fun i=>(i,GM x vs w i)) n rfl (fun i hi=>?_) ?_
      · show (gW _ _ _ _ _ _ _ _).run=_
        unfold gW
        have e:((0:Int)+((i:Nat):Int))*1+((0:Nat):Int)=((i:Nat):Int):=by omega
        have e2:((0:Int)+((i:Nat):Int))=((i:Nat):Int):=by omega
        rw [e,e2,cx,hv,ol]
        have g:(GM x vs w i).getD i 0=x.getD i 0:=by
          unfold GM
          exact yQ (fun k hk=>by omega)
        rw [g]
        exact dF (ag (ag (ag (ag (ag (ag (ag (ag (ag (ag rfl))))))))))
      · show (gW _ _ _ _ _ _ _ _).run=_
        unfold gW
        rw [hv]
        exact cv rfl
  · rw [if_neg (by decide)]
    unfold gX
    dsimp only
    exact bN (aO rfl)
theorem wN{l:List Nat}(hw:Wd l)(hf:Fn l)(hn:l.length≤1000) :
    aN l=some (.r0 l.length l.length true l.length (pF (gz l) l.length) (pG (gz l) l.length) (pH (gz l) (-1074) l.length)):=by
  refine bk (ae (a:=()) rfl (ae (a:=(l.length,l.length,l.length,pF (gz l) l.length,pG (gz l) l.length,pH (gz l) (-1074) l.length)) (dO (fun j=>(j,j,j,j,pF (gz l) j,pG (gz l) j,pH (gz l) (-1074) j)) l.length rfl (fun j hj=>?_) ?_) rfl))
  · show aH (k6 _ _ _ _ _ _ _ _).run _=_
    obtain ⟨N,h1,h2,h3⟩:=T6 (hw j) (hf j hj)
    refine ae (a:=(j+1,pF (gz l) (j+1),pG (gz l) (j+1),pH (gz l) (-1074) (j+1))) ?_ (ag rfl)
    unfold k6
    rw [h1]
    simp only [qx,pO,pP,mh,mi,mj,pQ]
    rw [List.drop_zero,IX h2]
    have a1:List.take j (pF (gz l) j)=pF (gz l) j:=List.take_of_length_le (by rw [oF];omega)
    have a2:List.take j (pG (gz l) j)=pG (gz l) j:=List.take_of_length_le (by rw [oG];omega)
    have a3:List.take j (pH (gz l) (-1074) j)=pH (gz l) (-1074) j:=List.take_of_length_le (by rw [oH];omega)
    rw [a1,a2,a3]
    exact dF (ag (ag (au (aO (ag (ag (au (ag (bT (decide_eq_true (by rw [ay];omega)) rfl)))))))))
  · show aH (k6 _ _ _ _ _ _ _ _).run _=_
    exact bN (cv rfl)
theorem Wb{x:Nat}(h:Ok x) :isNaN x=false:=Rf h.lt h.fin
theorem N7{x:List Nat}(h0:0<x.length)(h16:x.length≤16)(hx:∀ y∈x,H2 y) :
    ∃ be tau vs out,da x=some (.r0 be 0 x.length tau vs)∧db (x.length:Int) 1 x 0 0 vs tau=some (.r0 0 x.length 1 x.length out)∧Lw x be tau vs out:=by
  obtain ⟨z1,z2⟩:=xz
  rcases x with _ | ⟨x0,t⟩
  · exact absurd h0 (by decide)
  have hn:(x0::t).length=t.length+1:=List.length_cons
  have ht:∀ y∈t,H2 y:=fun y hy=>hx y (List.mem_cons_of_mem _ hy)
  have hx0:H2 x0:=hx x0 (List.mem_cons_self ..)
  have okx:∀ y∈x0::t,Ok y:=fun y hy=>(hx y hy).ok
  rcases Uj ht (by omega) with ⟨q1,q2⟩ | ⟨q1,q2,q3⟩
  · have f:xC (gH ((x0::t).drop 1)) 0=true:=by
      show xC (gH t) 0=true
      rw [q1];exact (wK z1 z1).2 rfl
    have lv:((List.replicate (x0::t).length 0).set 0 dK).length=(x0::t).length:=by rw [List.length_set,List.length_replicate]
    refine ⟨x0,0,_,x0::t,QD h0 (by omega) f,QF rfl lv h0 (by omega) ((wK z1 z1).2 rfl),U7 rfl okx q2 lv ?_ ?_⟩
    · have:=W2 (x:=x0::t) (q:=0) h0 0
      exact this
    · intro i hi hl
      rw [List.getD_eq_getElem?_getD,List.getElem?_set,if_neg (by omega),List.getElem?_replicate,if_pos hl]
      rfl
  · have f:xC (gH ((x0::t).drop 1)) 0=false:=by
      show xC (gH t) 0=false
      cases w:xC (gH t) 0
      · rfl
      · have:=(wK q1.ok z1).1 w
        rw [z2] at this
        have:=q1.pos
        grind
    have mk:=I2 (E:=6200*(t.length:Rat)) hx0 q1 q2 (by have:(0:Rat)≤(t.length:Rat):=Rat.natCast_nonneg;grind) (by
      have lr:(t.length:Rat)≤((15:Nat):Rat):=Rat.natCast_le_natCast.2 (by omega)
      have e15:((15:Nat):Rat)=15:=rfl
      rw [e15] at lr;grind) q3
    have ft:xC (GI x0 (A8 x0 (gH t))) 0=false:=by
      cases w:xC (GI x0 (A8 x0 (gH t))) 0
      · rfl
      · exfalso
        have e:=(wK mk.kt z1).1 w
        rw [z2] at e
        obtain ⟨b,wb,_,hh⟩:=mk.ex
        have p:=hh.ht.pos (by decide) hh.ba
        rw [e,Rat.zero_mul] at p
        exact absurd p (by decide)
    have lv:(vL (x0::t) (qW x0 (A8 x0 (gH t))) t.length).length=t.length+1:=by rw [KM,hn]
    have ev:∀ i,i<t.length+1→(vL (x0::t) (qW x0 (A8 x0 (gH t))) t.length).getD i 0=vW (x0::t) (qW x0 (A8 x0 (gH t))) i:=by
      intro i hi
      rcases i with _ | i
      · rw [W2 h0];rfl
      · rw [W3 (by omega) (by omega)];rfl
    have es:G3 (fun i=>bC ((vL (x0::t) (qW x0 (A8 x0 (gH t))) t.length).getD i 0) ((x0::t).getD i 0)) (t.length+1)=sW (x0::t) (qW x0 (A8 x0 (gH t))) (t.length+1):=E4 fun i hi=>by rw [ev i hi]
    refine ⟨_,_,_,_,QE h0 (by omega) f (Wb hx0.ok) rfl rfl,QG (w:=bC (GI x0 (A8 x0 (gH t))) (sW (x0::t) (qW x0 (A8 x0 (gH t))) (t.length+1))) rfl (by rw [KM]) h0 (by omega) ft (by rw [←es];rfl),U8 hx0 ht (by omega) q1 q2 q3 lv (by unfold GM;rw [eB,hn]) ev fun i hi=>?_⟩
    unfold GM
    rw [Rb (by omega) (Nat.le_refl _)]
    show fR _ (bC ((vL (x0::t) (qW x0 (A8 x0 (gH t))) t.length).getD i 0) _)=_
    rw [ev i hi]
    rfl
theorem Uq{g:Nat→Int}{n:Nat}{z:Int}(h:0<n) :(pF g n).set 0 (nS z)=pF (fun i=>if i=0 then z else g i) n:=by
  unfold pF
  rw [lA h]
  exact bV fun i _=>by by_cases q:i=0<;>simp [q]
theorem Ur{g:Nat→Int}{n:Nat}{z:Int}(h:0<n) :(pG g n).set 0 (G5 z)=pG (fun i=>if i=0 then z else g i) n:=by
  unfold pG
  rw [lA h]
  exact bV fun i _=>by by_cases q:i=0<;>simp [q]
theorem Us{g:Nat→Int}{n:Nat}{z e:Int}(h:0<n) :(pH g e n).set 0 (nE z e)=pH (fun i=>if i=0 then z else g i) e n:=by
  unfold pH
  rw [lA h]
  exact bV fun i _=>by by_cases q:i=0<;>simp [q]
theorem Ea(z:Int)(k:Nat)(e:Int) :nS z=nS (z*((E2 k:Nat):Int))∧nM z=nM (z*((E2 k:Nat):Int))∧nE z (e+k)=nE (z*((E2 k:Nat):Int)) e:=Ww z k e
theorem Ut{x y:Int}(h:x≤y) :sgn x y≤0:=by
  unfold sgn
  split
  · omega
  · split<;>omega
theorem zB{α:Type}{f:Nat→α}{o n m:Nat}(h:o+n≤m) :aa o n (gk f m)=gk (fun i=>f (o+i)) n:=by
  rw [qX]
  refine xf (by rw [List.length_take,List.length_drop,de];omega) fun i hi=>?_
  rw [List.getElem?_take,if_pos hi,List.getElem?_drop]
  have:o+i<(gk f m).length:=by rw [de];omega
  rw [List.getElem?_eq_getElem this]
  have d:∀ dd:α,(gk f m).getD (o+i) dd=f (o+i):=fun dd=>nk (by omega)
  congr 1
  have:=d ((gk f m)[o+i])
  rw [List.getD_eq_getElem?_getD,List.getElem?_eq_getElem (by rw [de];omega)] at this
  exact this
theorem sf(p:Nat→Bool) :∀ n,(∀ i,i<n→p i=true)∨∃ k,k<n∧p k=false∧∀ i,i<k→p i=true
  | 0=>.inl fun i h=>absurd h (by omega)
  | n + 1 => by
    rcases sf p n with h | ⟨k,a,b,c⟩
    · cases q:p n
      · exact .inr ⟨n,by omega,q,h⟩
      · refine .inl fun i hi=>?_
        rcases Nat.lt_or_ge i n with w | w
        · exact h i w
        · have:i=n:=by omega
          rw [this];exact q
    · exact .inr ⟨k,by omega,b,c⟩
theorem WS(n:Nat) :((2:Int)*(n:Int)).natAbs≤2*n:=by omega
theorem WT(n:Nat) :((n:Int)).natAbs≤1*n:=by omega
theorem WG{n:Nat}(h:n≤16) :64*n*64*n≤1048576:=by
  have:=Nat.mul_le_mul (Nat.mul_le_mul_right 64 (Nat.mul_le_mul_left 64 h)) h
  omega
theorem Uu{x:List Nat}(hw:∀ i,x.getD i 0<pE) :j6 x=some (.r0 true):=by
  by_cases h1:x.length<1
  · refine bk (ae (a:=true) ?_ (bN rfl))
    unfold eC
    exact dF rfl
  by_cases h16:x.length>16
  · refine bk (ae (a:=true) ?_ (bN rfl))
    unfold eC
    refine cv ?_
    show some (Sum.inl (decide _))=_
    rw [decide_eq_true (by omega)]
  have t35:(eC x).run=some (.inl false):=by
    unfold eC
    refine cv ?_
    show some (Sum.inl (decide _))=_
    rw [decide_eq_false (by omega)]
  have step:∀ j,j<x.length→KL (x.getD j 0)=true→cM x j=some (.inl (j+1)):=by
    intro j hj hb
    unfold cM
    refine ae (a:=()) ?_ (ag rfl)
    unfold gi
    rw [NZ,hb]
    exact dF (ag (ag (au (aO rfl))))
  rcases sf (fun i=>KL (x.getD i 0)) x.length with hin | ⟨k,k1,k2,k3⟩
  rotate_left
  · refine bk (ae t35 (ae (a:=()) rfl (bN (dO (fun j=>j) k rfl (fun j hj=>step j (by omega) (k3 j hj)) ?_))))
    unfold cM
    refine bN ?_
    unfold gi
    have k2':KL (x.getD k 0)=false:=k2
    rw [NZ,k2']
    exact dF (ag (ag (au (cB rfl))))
  have n0:0<x.length:=by omega
  have n16:x.length≤16:=by omega
  have hx:∀ y∈x,H2 y:=by
    intro y hy
    obtain ⟨i,hi,e⟩:=List.getElem_of_mem hy
    have g:x.getD i 0=y:=by rw [List.getD_eq_getElem?_getD,List.getElem?_eq_getElem hi];exact e
    have:=Up (hw i) (hin i hi)
    rw [g] at this;exact this
  obtain ⟨be,tau,vs,out,hM,hL,lw⟩:=N7 n0 n16 hx
  have r16:=WG n16

  have wx:Wd x:=hw
  have fx:Fn x:=fun i hi=>(Up (hw i) (hin i hi)).ok.fin
  have wd_of:∀ {l:List Nat},(∀ i,i<l.length→Ok (l.getD i 0))→Wd l∧Fn l:=by
    intro l h
    refine ⟨fun i=>?_,fun i hi=>(h i hi).fin⟩
    rcases Nat.lt_or_ge i l.length with q | q
    · exact (h i q).lt
    · rw [List.getD_eq_getElem?_getD,List.getElem?_eq_none q];decide
  obtain ⟨wo,fo⟩:=wd_of (l:=out) (by rw [lw.lo];exact lw.ko)
  have lvl:(be::tau::vs).length=x.length+2:=by rw [List.length_cons,List.length_cons,lw.lv]
  obtain ⟨wv,fv⟩:=wd_of (l:=be::tau::vs) (by
    intro i hi
    rw [lvl] at hi
    rcases i with _ | _ | i
    · exact lw.kb
    · exact lw.kt
    · exact lw.kv i (by omega))
  obtain ⟨wvs,fvs⟩:=wd_of (l:=vs) (by rw [lw.lv];exact lw.kv)
  have eo:=wN wo fo (by rw [lw.lo];omega)
  have ex:=wN wx fx (by omega)
  have ev:=wN wv fv (by rw [lvl];omega)
  rw [lw.lo] at eo
  rw [lvl] at ev

  have nb:nl (fz be).natAbs≤33:=Vn lw.kb.lt lw.kb.fin
  have no:∀ i,i<x.length→nl (gz out i).natAbs≤33:=fun i hi=>TI wo fo (by rw [lw.lo];exact hi)
  have nx:∀ i,i<x.length→nl (gz x i).natAbs≤33:=fun i hi=>TI wx fx hi
  have nv:∀ i,i<x.length→nl (gz vs i).natAbs≤33:=fun i hi=>TI wvs fvs (by rw [lw.lv];exact hi)
  have ng:∀ i,i<x.length→nl (gB out be i).natAbs≤34:=by
    intro i hi
    unfold gB
    by_cases q:i=0
    · rw [if_pos q];exact Rg (no 0 n0) nb
    · rw [if_neg q];exact Nat.le_trans (no i hi) (by omega)

  obtain ⟨N1,a1,a2,a3⟩:=IV (x:=gz out 0) (y:=fz be) (e:=-1074) (Sm.of (no 0 n0) (by omega) (by omega)) (Sm.of nb (by omega) (by omega))
  obtain ⟨N2,b1,b2,b3⟩:=GE (g:=gz x) (h:=gz x) (e:=-1074) (f:=-1074) (n:=x.length) (k:=66) (fun i hi=>Sm.of (nx i hi) (by omega) (by omega)) (fun i hi=>Sm.of (nx i hi) (by omega) (by omega)) (fun i hi=>jP (nx i hi) (nx i hi)) (by omega) (by omega) (by omega)
  obtain ⟨N3,c1,c2,c3⟩:=GE (g:=gB out be) (h:=gB out be) (e:=-1074) (f:=-1074) (n:=x.length) (k:=68) (fun i hi=>Sm.of (ng i hi) (by omega) (by omega)) (fun i hi=>Sm.of (ng i hi) (by omega) (by omega)) (fun i hi=>jP (ng i hi) (ng i hi)) (by omega) (by omega) (by omega)
  have nsize:nl (fj (fun i=>gz x i*gz x i) x.length).natAbs≤67:=JM (fun i hi=>jP (nx i hi) (nx i hi)) (by omega)
  have nfar:nl (fj (fun i=>gB out be i*gB out be i) x.length).natAbs≤69:=JM (fun i hi=>jP (ng i hi) (ng i hi)) (by omega)
  have eX:(-1074:Int) + -1074 = -2148:=by omega
  rw [eX] at b1 c1
  obtain ⟨N4,d1,d2,d3⟩:=Dh (n:=64*x.length*64*x.length) (by omega)
  have nB:nl (((64*x.length*64*x.length:Nat):Int)).natAbs≤1:=gu (by rw [Int.natAbs_natCast,Nat.pow_one];exact Nat.lt_of_le_of_lt r16 (by decide))
  obtain ⟨N5,e1,e2,e3⟩:=NU (x:=((64*x.length*64*x.length:Nat):Int)) (e:=0) (k:=-106) (Sm.of nB (by omega) (by omega)) (by omega)
  have eY:(0:Int) + -106 = -106:=by omega
  rw [eY] at e1
  obtain ⟨N6,f1,f2,f3⟩:=pX (x:=((64*x.length*64*x.length:Nat):Int)) (y:=fj (fun i=>gz x i*gz x i) x.length) (e:=-106) (f:=-2148) (Sm.of nB (by omega) (by omega)) (Sm.of nsize (by omega) (by omega))
  have eZ:(-106:Int) + -2148 = -2254:=by omega
  rw [eZ] at f1
  have one:=lw.oneI
  have two:=lw.twoI
  have nmost:nl (((64*x.length*64*x.length:Nat):Int)*fj (fun i=>gz x i*gz x i) x.length).natAbs≤68:=jP nB nsize
  obtain ⟨u1,u2,u3⟩:=Ea (fj (fun i=>gB out be i*gB out be i) x.length) 106 (-2254)
  have e106:((E2 106:Nat):Int)=81129638414606681695789005144064:=by decide
  rw [e106] at u1 u2 u3
  rw [show (-2254:Int)+((106:Nat):Int) = -2148 by omega] at u3
  have nfar':nl (fj (fun i=>gB out be i*gB out be i) x.length*81129638414606681695789005144064).natAbs≤71:=jP (a:=69) (b:=2) nfar (by
    refine gu ?_
    decide)
  have g1:=IW (x:=fj (fun i=>gB out be i*gB out be i) x.length*81129638414606681695789005144064) (y:=((64*x.length*64*x.length:Nat):Int)*fj (fun i=>gz x i*gz x i) x.length) (e:=-2254) (Sm.of nfar' (by omega) (by omega)) (Sm.of nmost (by omega) (by omega))
  rw [←u1,←u2,←u3] at g1
  have g2:=Ut one
  generalize hsv:sgn (fj (fun i=>gB out be i*gB out be i) x.length*81129638414606681695789005144064) (((64*x.length*64*x.length:Nat):Int)*fj (fun i=>gz x i*gz x i) x.length)=sv at g1 g2

  obtain ⟨M1,p1,p2,p3⟩:=GE (g:=gz vs) (h:=gz vs) (e:=-1074) (f:=-1074) (n:=x.length) (k:=66) (fun i hi=>Sm.of (nv i hi) (by omega) (by omega)) (fun i hi=>Sm.of (nv i hi) (by omega) (by omega)) (fun i hi=>jP (nv i hi) (nv i hi)) (by omega) (by omega) (by omega)
  rw [eX] at p1
  have nlens:=lw.nlens
  have ntau:=lw.ntau
  generalize hS:fj (fun i=>gz vs i*gz vs i) x.length=S at p1 p2 nlens two
  obtain ⟨M2,q1,q2,q3⟩:=pX (x:=fz tau) (y:=S) (e:=-1074) (f:=-2148) (Sm.of ntau (by omega) (by omega)) (Sm.of nlens (by omega) (by omega))
  have eV:(-1074:Int) + -2148 = -3222:=by omega
  rw [eV] at q1
  have nts:nl (fz tau*S).natAbs≤51:=jP ntau nlens
  obtain ⟨M3,r1,r2,r3⟩:=Dh (n:=2) (by omega)
  obtain ⟨v1,v2,v3⟩:=Ea 2 3222 (-3222)
  rw [show (-3222:Int)+((3222:Nat):Int)=0 by omega] at v3
  have ntwo:nl ((2:Int)*((E2 3222:Nat):Int)).natAbs≤51:=WL (A:=2) (k:=3222) (WS _) (by omega) (by omega)
  obtain ⟨M4,s1,s2,s3⟩:=IV (x:=fz tau*S) (y:=2*((E2 3222:Nat):Int)) (e:=-3222) (Sm.of nts (by omega) (by omega)) (Sm.of ntwo (by omega) (by omega))
  rw [←v1,←v2,←v3] at s1
  have nd1:nl (fz tau*S-2*((E2 3222:Nat):Int)).natAbs≤52:=Rg nts ntwo
  have htI:tI S (fz tau) ((E2 3222:Nat):Int)=(fz tau*S-2*((E2 3222:Nat):Int))*fz tau*S:=rfl
  rw [htI] at two
  generalize fz tau*S-2*((E2 3222:Nat):Int)=D at s1 s2 nd1 two
  obtain ⟨M5,t1,t2,t3⟩:=pX (x:=D) (y:=fz tau) (e:=-3222) (f:=-1074) (Sm.of nd1 (by omega) (by omega)) (Sm.of ntau (by omega) (by omega))
  have nd2:nl (D*fz tau).natAbs≤69:=jP nd1 ntau
  rw [show (-3222:Int) + -1074 = -4296 by omega] at t1
  obtain ⟨M6,w1,w2,w3⟩:=pX (x:=D*fz tau) (y:=S) (e:=-4296) (f:=-2148) (Sm.of nd2 (by omega) (by omega)) (Sm.of nlens (by omega) (by omega))
  have nd3:nl (D*fz tau*S).natAbs≤103:=jP nd2 nlens
  rw [show (-4296:Int) + -2148 = -6444 by omega] at w1
  generalize D*fz tau*S=Y at w1 w2 nd3 two
  obtain ⟨M7,y1,y2,y3⟩:=pX (x:=Y) (y:=Y) (e:=-6444) (f:=-6444) (Sm.of nd3 (by omega) (by omega)) (Sm.of nd3 (by omega) (by omega))
  have nd4:nl (Y*Y).natAbs≤206:=jP nd3 nd3
  rw [show (-6444:Int) + -6444 = -12888 by omega] at y1
  obtain ⟨z1,z2,z3⟩:=Ea (Y*Y) 106 (-12994)
  rw [e106] at z1 z2 z3
  rw [show (-12994:Int)+((106:Nat):Int) = -12888 by omega] at z3
  obtain ⟨o1,o2,o3⟩:=Ea ((64*x.length*64*x.length:Nat):Int) 12888 (-12994)
  rw [show (-12994:Int)+((12888:Nat):Int) = -106 by omega] at o3
  have nT':nl (Y*Y*81129638414606681695789005144064).natAbs≤208:=jP (a:=206) (b:=2) nd4 (by
    refine gu ?_
    decide)
  have nB':nl (((64*x.length*64*x.length:Nat):Int)*((E2 12888:Nat):Int)).natAbs≤203:=jP (a:=1) (b:=202) nB (WL (A:=1) (k:=12888) (WT _) (by omega) (by omega))
  have k1:=IW (x:=Y*Y*81129638414606681695789005144064) (y:=((64*x.length*64*x.length:Nat):Int)*((E2 12888:Nat):Int)) (e:=-12994) (Sm.of nT' (by omega) (by omega)) (Sm.of nB' (by omega) (by omega))
  rw [←z1,←z2,←z3,←o1,←o2,←o3] at k1
  have k2:=Ut two
  generalize hsw:sgn (Y*Y*81129638414606681695789005144064) (((64*x.length*64*x.length:Nat):Int)*((E2 12888:Nat):Int))=sw at k1 k2
  clear two one
  generalize hFar:fj (fun i=>gB out be i*gB out be i) x.length=F at *
  generalize hSize:fj (fun i=>gz x i*gz x i) x.length=Z at *
  have hBr:(0:Int)≤((64*x.length*64*x.length:Nat):Int)∧((64*x.length*64*x.length:Nat):Int)≤1048576:=by omega
  generalize hBB:((64*x.length*64*x.length:Nat):Int)=BB at *
  have gBe:gB out be=fun i=>if i=0 then gz out 0-fz be else gz out i:=rfl
  have cut2S:aa 2 x.length (pF (gz (be::tau::vs)) (x.length+2))=pF (gz vs) x.length:=by
    unfold pF
    rw [zB (by omega)]
    exact bV fun i _=>by rw [Nat.add_comm 2 i];rfl
  have cut2M:aa 2 x.length (pG (gz (be::tau::vs)) (x.length+2))=pG (gz vs) x.length:=by
    unfold pG
    rw [zB (by omega)]
    exact bV fun i _=>by rw [Nat.add_comm 2 i];rfl
  have cut2E:aa 2 x.length (pH (gz (be::tau::vs)) (-1074) (x.length+2))=pH (gz vs) (-1074) x.length:=by
    unfold pH
    rw [zB (by omega)]
    exact bV fun i _=>by rw [Nat.add_comm 2 i];rfl
  refine bk (ae t35 (ae (a:=()) rfl (ae (a:=()) (dO (fun j=>j) x.length rfl (fun j hj=>step j hj (hin j hj)) ?_)
    (ae (a:=(be,0,x.length,tau,vs)) ?_ (ae (a:=(0,((x.length:Nat):Int),1,x.length,out)) ?_ (ae (a:=false) ?_
    (ae (a:=(x.length,x.length,true,x.length,pF (gz out) x.length,pG (gz out) x.length,pH (gz out) (-1074) x.length)) ?_
    (ae (a:=(x.length,x.length,true,x.length,pF (gz x) x.length,pG (gz x) x.length,pH (gz x) (-1074) x.length)) ?_
    (ae (a:=(x.length+2,x.length+2,true,x.length+2,pF (gz (be::tau::vs)) (x.length+2),pG (gz (be::tau::vs)) (x.length+2),pH (gz (be::tau::vs)) (-1074) (x.length+2))) ?_
    (ae (a:=false) ?_
    (ae (a:=(0,pF (gB out be) x.length,pG (gB out be) x.length,pH (gB out be) (-1074) x.length)) ?_
    (ae (a:=(0,nS Z,az (nM Z) N2,0,nl (nM Z),nE Z (-2148))) ?_
    (ae (a:=(0,nS F,az (nM F) N3,0,nl (nM F),nE F (-2148))) ?_
    (ae (a:=(nS BB,az (nM BB) N4,0,nl (nM BB),nE BB 0)) ?_
    (ae (a:=(0,nS BB,az (nM BB) N5,0,nl (nM BB),nE BB (-106))) ?_
    (ae (a:=false) (aO (aO (aO rfl)))
    (ae (a:=(0,nS (BB*Z),az (nM (BB*Z)) N6,0,nl (nM (BB*Z)),nE (BB*Z) (-2254))) ?_
    (ae (a:=(0,sv)) ?_ (ae (a:=false) ?_
    (ae (a:=(0,nS S,az (nM S) M1,0,nl (nM S),nE S (-2148))) ?_
    (ae (a:=(0,nS (fz tau*S),az (nM (fz tau*S)) M2,0,nl (nM (fz tau*S)),nE (fz tau*S) (-3222))) ?_
    (ae (a:=false) (aO rfl)
    (ae (a:=(0,nS D,az (nM D) M4,0,nl (nM D),nE D (-3222))) ?_
    (ae (a:=(0,nS (D*fz tau),az (nM (D*fz tau)) M5,0,nl (nM (D*fz tau)),nE (D*fz tau) (-4296))) ?_
    (ae (a:=(0,nS Y,az (nM Y) M6,0,nl (nM Y),nE Y (-6444))) ?_
    (ae (a:=(0,nS (Y*Y),az (nM (Y*Y)) M7,0,nl (nM (Y*Y)),nE (Y*Y) (-12888))) ?_
    (ae (a:=(0,sw)) ?_ (ae (a:=true) ?_ rfl))))))))))))))))))))))))))))
  · unfold cM
    refine bN ?_
    unfold gi
    exact cv rfl
  · show (iX _).run=_
    unfold iX
    rw [aW,hM]
    exact dk (au rfl)
  · show (iY _ _ _ _).run=_
    unfold iY
    rw [aW,ez lw.lv,hL]
    exact dk (bT (D6 lw.lv) (au rfl))
  · show (iZ _ _ _ _ _).run=_
    unfold iZ
    refine aO (aO (oD (bne_self_eq_false _) ?_))
    show some (Sum.inl (_ != _))=_
    rw [bne_self_eq_false]
  · show (i0 _ _ _).run=_
    unfold i0
    rw [ez lw.lo,eo]
    exact aO (bT (D6 lw.lo) (au rfl))
  · show (i3 _).run=_
    unfold i3
    rw [aW,ex]
    exact dk (au rfl)
  · show (i4 _ _ _ _).run=_
    unfold i4
    have e:(List.take 2 [be,tau])++(List.take x.length vs)=be::tau::vs:=by
      rw [List.take_of_length_le (l:=vs) (by rw [lw.lv];exact Nat.le_refl _)];rfl
    rw [e,ez (by rw [lvl];omega),ev]
    exact ag (ag (bT (by rw [lw.lv,jm];exact Nat.le_refl _) (au (bT (D6 (by rw [lvl];omega)) (au rfl)))))
  · exact aO (aO rfl)
  · show (i5 _ _ _ _ _ _ _ _ _).run=_
    unfold i5
    have a1':bY (nS (gz out 0)) (G5 (gz out 0)) (nE (gz out 0) (-1074)) (nS (gz (be::tau::vs) 0)) (G5 (gz (be::tau::vs) 0)) (nE (gz (be::tau::vs) 0) (-1074))=_:=a1
    have h2:0<x.length+2:=by omega
    rw [oF,oG,oH,oF,oG,oH,xj n0,xk n0,xn n0,xj h2,xk h2,xn h2,aW,aW,a1']
    simp only [lE,kA,kB,iS,iT,iU,kC]
    rw [List.drop_zero,IX a2]
    have c0:az (nM (gz out 0-fz be)) (nl (nM (gz out 0-fz be)))=G5 (gz out 0-fz be):=rfl
    rw [c0,Uq n0,Ur n0,Us n0,←gBe]
    exact aO (ag (ag (ag (ag (ag (ag (ag (ag (dk (dk (au (ag (ag (ag (bT (decide_eq_true (by rw [ay];omega)) (ag rfl))))))))))))))))
  · show (i6 _ _ _ _ _).run=_
    unfold i6
    rw [LN,LO,LP,b1]
    exact Ra (Ra (au rfl))
  · show (i7 _ _ _ _ _).run=_
    unfold i7
    rw [LN,LO,LP,c1]
    exact Ra (Ra (au rfl))
  · show (i8 _).run=_
    unfold i8
    rw [hBB,d1]
    exact ag (ag (ag (au rfl)))
  · show (i9 _ _ _ _ _).run=_
    unfold i9
    rw [aR d2,e1]
    exact bT (aI d2) (au rfl)
  · show (ja _ _ _ _ _ _ _ _ _ _ _).run=_
    unfold ja
    rw [aR e2,aR b2,f1]
    exact aO (bT (aI e2) (bT (aI b2) (au rfl)))
  · show (jb _ _ _ _ _ _ _ _ _ _).run=_
    unfold jb
    rw [aR c2,aR f2,g1]
    exact bT (aI c2) (bT (aI f2) (au rfl))
  · refine aO (aO ?_)
    show some (Sum.inl (decide _))=_
    rw [decide_eq_false (by omega)]
  · show (jc _ _ _ _ _ _ _).run=_
    unfold jc
    rw [Nat.add_sub_cancel,cut2S,cut2M,cut2E,p1]
    exact aO (ag (ag (ag (ag (ag (ag (au rfl)))))))
  · show (jd _ _ _ _ _ _ _ _ _).run=_
    unfold jd
    have h2:1<x.length+2:=by omega
    have q1':ac (nS (gz (be::tau::vs) 1)) (G5 (gz (be::tau::vs) 1)) (nE (gz (be::tau::vs) 1) (-1074)) (nS S) (az (nM S) (nl (nM S))) (nE S (-2148))=_:=q1
    rw [oF,oG,oH,xj h2,xk h2,xn h2,aW,aR p2,q1']
    exact ag (ag (ag (ag (dk (bT (aI p2) (au rfl))))))
  · show (je _ _ _ _ _ _).run=_
    have r1':aw 2=some (.r0 (nS 2) (az (nM 2) M3) 0 (nl (nM 2)) (nE 2 0)):=r1
    have r2':nl (nM 2)≤M3:=r2
    unfold je
    rw [r1']
    simp only [iQ,cF,ck,cm,cn,cG]
    rw [aR q2,aR r2',s1]
    exact aO (au (bT (aI q2) (bT (aI r2') (au rfl))))
  · show (jf _ _ _ _ _ _ _ _ _ _).run=_
    unfold jf
    have h2:1<x.length+2:=by omega
    have t1':ac (nS D) (az (nM D) (nl (nM D))) (nE D (-3222)) (nS (gz (be::tau::vs) 1)) (G5 (gz (be::tau::vs) 1)) (nE (gz (be::tau::vs) 1) (-1074))=_:=t1
    rw [oF,oG,oH,xj h2,xk h2,xn h2,aW,aR s2,t1']
    exact aO (ag (ag (ag (ag (bT (aI s2) (dk (au rfl)))))))
  · show (jg _ _ _ _ _ _ _ _ _ _ _).run=_
    unfold jg
    rw [aR t2,aR p2,w1]
    exact aO (bT (aI t2) (bT (aI p2) (au rfl)))
  · show (jh _ _ _ _ _ _).run=_
    unfold jh
    rw [aR w2,y1]
    exact aO (bT (aI w2) (bT (aI w2) (au rfl)))
  · show (ji _ _ _ _ _ _ _ _ _ _).run=_
    unfold ji
    rw [aR y2,aR e2,k1]
    exact bT (aI y2) (bT (aI e2) (au rfl))
  · exact cB (cB (E3 (decide_eq_true k2) rfl))
end Go.Plb.Seat
