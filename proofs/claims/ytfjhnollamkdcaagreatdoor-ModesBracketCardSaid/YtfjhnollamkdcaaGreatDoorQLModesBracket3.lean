/- The texts Au. -/
import Derived.Test.YtfjhnollamkdcaaGreatDoorQLModesBracket2
namespace Go.Proofs.YtfjhnollamkdcaaGreatDoor
open Go.Sx
set_option linter.unusedSimpArgs false
set_option linter.unusedVariables false
set_option maxRecDepth 100000
set_option maxHeartbeats 40000000
theorem cmp_le {a b:Rat} (h:a≤b):decide ((a - b).num.sign>0)=false∧decide ((a - b).num.sign≤0)=true:=by
 have h1:¬0<(a - b).num:=fun g=>by
  have h2:0≤a - b:=Rat.num_nonneg.1 (by omega)
  have h3:a - b=0:=by grind
  rw[h3]at g
  exact absurd g (by decide)
 rcases Int.lt_trichotomy (a - b).num 0 with g|g|g
 ·rw[Int.sign_eq_neg_one_of_neg g];exact⟨rfl,rfl⟩
 ·rw[g];exact⟨rfl,rfl⟩
 ·exact absurd g h1
theorem Brk.low_mult {m z:Rat→Nat} {i:Nat} {step low high:Rat} (h:Brk m z i step low high):∃j:Int,low=j*step:=by
 obtain⟨k,hk⟩:=h.mult
 rcases h.or with⟨h1,_⟩|⟨h1,_⟩
 ·exact⟨k,h1.trans hk⟩
 ·refine⟨k - 1, ?_⟩
  rw[h1,hk,Rat.intCast_sub]
  have:((1:Int):Rat)=1:=rfl
  grind
theorem mult_whole {j:Int} {low:Rat} {p:Nat} (h:low=j*(1/2^p)):(low*2^p).den=1:=by
 have hp:(1/2^p:Rat)*2^p=1:=by
  rw[Rat.div_def,Rat.one_mul,Rat.mul_comm];exact Rat.mul_inv_cancel _ (by have:=two_pos p;grind)
 rw[h,Rat.mul_assoc,hp,Rat.mul_one];exact Rat.den_intCast _
theorem step_pos (p:Nat):(0:Rat)<1/2^p:=by rw[Rat.div_def,Rat.one_mul];exact Rat.inv_pos.2 (two_pos p)
theorem step_mul (p q:Nat):(1/2^p:Rat)=(((2:Int)^q:Int):Rat)*(1/2^(p+q)):=by
 have h1:=two_pos p
 have h2:=two_pos q
 rw[←pow_ratInt,rpow_add,Rat.div_def,Rat.div_def,Rat.one_mul,Rat.one_mul,Rat.inv_mul_rev]
 have:=Rat.mul_inv_cancel ((2:Rat)^q) (by grind)
 grind
theorem Pen.bracket {n B C e k places:Nat} {a m:List Rat} (h:Pen n B C a m) (h2:2≤C) (hs:B+C≤20000) (hk:k<n) (hp:places≤100) (he:e≤70) (h1:noFar n a m (2^e)) (h0:∀k,k<e→¬noFar n a m (2^k)):
  ∃low high:Rat,CallOK Tryz.prog 29 [mA n n a,mA n n m,iv (k:Nat),iv (places:Nat)] [] (.tup [.frac low,.frac high,iv 0]) [] []∧Brk (fun t=>(countF n a m t).m) (fun t=>(countF n a m t).left) k (1/2^places) low high∧fs low≤1000∧fs high≤1000:=by
 obtain⟨R,low,hR,hl,kB,f1,f2⟩:=m_BracketOK (k:=k) (places:=places) h h2 hs hk hp he h1 h0
 exact⟨low,_,kB,(h.brk hk h1 hR).2 low hl,f1,f2⟩
theorem c_MBrk (l b:List (Int×Int)) (n k places more:Int) (hl:lOK l) (hb:lOK b) (hn:0≤n∧n<256) (hk:0≤k∧k<256) (hp:0≤places∧places<256) (hm:0≤more∧more<256):
  CallOK Tryz.prog 5 [lQ l,lQ b,iel .u8 n,iel .u8 k,iel .u8 places,iel .u8 more] [] (.val (.bool true)) [] []:=by
 have kw:=l_works22
 have kf:=c_few22 [l,b] (by simp) (two_mem hl.1 hb.1)
 cases hF:[l,b].all fun l=>decide (l.length≤40)
 ·rw[hF]at kf
  refine callV (Z:=[40]) tabOK mixedOK Tryz.func5 rfl (by kernel_rfl) rfl rfl (by kernel_rfl) rfl ?_
  intro W0 w0 ρ0 hE
  conv=>whnf
  (repeat(first|(refine step_w1 rfl rfl ?_;conv=>whnf)|(refine g_c (by assumption) ?_;conv=>whnf)));(first|exact Recast.refl _|exact Frz.recast (Recast.refl _) rfl|(refine Frz.one rfl rfl ?_;skip)|(refine Frz.tup ?_;skip))
 rw[hF]at kf
 obtain⟨e1,e2⟩:=u8_mod n hn 4 (by decide)
 have r3:(n % 4).toNat≤3:=by omega
 obtain⟨r,hr⟩:∃r,r=(n % 4).toNat+1:=⟨_,rfl⟩
 have e3:IntKind.i64.wrap (1+(((n % 4).toNat:Nat):Int))=((r:Nat):Int):=by rw[wrap_i64 (by omega) (by omega)];omega
 generalize (n % 4).toNat=r0 at*
 have r5:r≤5:=by omega
 obtain⟨K,rfl⟩:∃K:Nat,k=K:=⟨k.toNat,by omega⟩
 have e4:IntKind.i64.wrap ((K:Nat):Int)=((K:Nat):Int):=wrap_i64 (by omega) (by omega)
 obtain⟨i,hi⟩:∃i,i=K % r:=⟨_,rfl⟩
 have hir:i<r:=by rw[hi];exact Nat.mod_lt _ (by omega)
 have e5:((K:Nat):Int).tmod ((r:Nat):Int)=((i:Nat):Int):=by
  rw[Int.tmod_eq_emod_of_nonneg (by omega),←Int.natCast_emod,←hi]
 obtain⟨e6,e7⟩:=u8_mod places hp 13 (by decide)
 have p12:(places % 13).toNat≤12:=by omega
 generalize (places % 13).toNat=p at*
 obtain⟨e8,e9⟩:=u8_mod more hm 9 (by decide)
 have q8:(more % 9).toNat≤8:=by omega
 generalize (more % 9).toNat=q at*
 have e10:IntKind.i64.wrap (((p:Nat):Int)+((q:Nat):Int))=((p+q:Nat):Int):=by rw[wrap_i64 (by omega) (by omega)];omega
 have kp:=c_pencil l b hl hb r5
 have P:=pen_law hl.2 hb.2 r5
 obtain⟨e,he,h1,h0⟩:=reach_ex hl.2 hb.2 r5
 generalize symL l r=a at*
 generalize plusL b r=m at*
 obtain⟨low,high,k1,B1,f1,f2⟩:=P.bracket (k:=i) (places:=p) (by decide) (by decide) hir (by omega) (by omega) h1 h0
 obtain⟨low',high',k2,B2,f3,f4⟩:=P.bracket (k:=i) (places:=p+q) (by decide) (by decide) hir (by omega) (by omega) h1 h0
 obtain⟨n1,n2,n3⟩:=B1.nest P.steps (step_pos _) (step_mul p q) B2
 have k3:=x_Pow2 p (by omega)
 have c1:CallOK Tryz.prog 26 [iv 1] [] (.frac 1) [] []:=c_fInt 1 (by decide) (by decide)
 have c2:CallOK Tryz.prog 26 [iv 2] [] (.frac 2) [] []:=c_fInt 2 (by decide) (by decide)
 have fp:=fs_pow2 p
 have k4:=x_Mul low (2^p) (by omega)
 have k5:=c_Whole (low*2^p)
 obtain⟨j1,hj1⟩:=B1.low_mult
 rw[decide_eq_true (mult_whole hj1)]at k5
 have k6:=x_Mul high (2^p) (by omega)
 have k7:=c_Whole (high*2^p)
 obtain⟨j2,hj2⟩:=B1.mult
 rw[decide_eq_true (mult_whole hj2)]at k7
 have g1:=f_Cmp low low' (by omega)
 have g2:=f_Cmp high' high (by omega)
 have g3:=f_Cmp low' high' (by omega)
 have t1:=(cmp_le n1).1
 have t2:=(cmp_le n2).1
 have t3:=(cmp_le n3).1
 have k8:=x_Sub high low (by omega)
 have fsub:=fs_sub high low
 have k9:=x_Mul (high - low) (2^p) (by omega)
 have k10:=P.count (T:=1000) low f1 (by decide) (by decide)
 have k11:=P.count (T:=1000) high f2 (by decide) (by decide)
 have s1:=P.sum low
 have s2:=P.sum high
 have b1:=B1.below
 have b2:=B1.top
 have b3:=B1.or
 replace b1:(countF r a m low).m≤i:=b1
 replace b2:i<(countF r a m high).m+(countF r a m high).left:=b2
 replace b3:(low=high∧(countF r a m high).m≤i)∨(low=high - 1/2^p∧i<(countF r a m high).m∧(countF r a m low).m+(countF r a m low).left≤i):=b3
 have t4:decide ((((countF r a m low).m:Nat):Int)>((i:Nat):Int))=false:=decide_eq_false (by omega)
 have w1:IntKind.i64.wrap ((((countF r a m high).m:Nat):Int)+(((countF r a m high).left:Nat):Int))=(((countF r a m high).m+(countF r a m high).left:Nat):Int):=by rw[wrap_i64 (by omega) (by omega)];omega
 have t5:decide ((((countF r a m high).m+(countF r a m high).left:Nat):Int)≤((i:Nat):Int))=false:=decide_eq_false (by omega)
 have k12:i≠0→∃low'' high'':Rat,CallOK Tryz.prog 29 [mA r r a,mA r r m,iv ((i - 1:Nat)),iv (p:Nat)] [] (.tup [.frac low'',.frac high'',iv 0]) [] []∧low''≤low∧high''≤high∧fs low''≤1000∧fs high''≤1000:=fun hi0=>by
  obtain⟨lo,hg,kb,B3,f5,f6⟩:=P.bracket (k:=i - 1) (places:=p) (by decide) (by decide) (by omega) (by omega) (by omega) h1 h0
  obtain⟨a1,a2⟩:=B3.ascend P.steps (step_pos p) (by omega) B1
  exact⟨lo,hg,kb,a1,a2,f5,f6⟩
 have hw:low≠high→(high - low)*2^p=1:=fun hne=>by
  rcases b3 with⟨g,_⟩|⟨g,_⟩
  ·exact absurd g hne
  ·rw[g]
   have hp1:(1/2^p:Rat)*2^p=1:=by
    rw[Rat.div_def,Rat.one_mul,Rat.mul_comm];exact Rat.mul_inv_cancel _ (by have:=two_pos p;grind)
   have:(high - (high - 1/2^p))*2^p=(1/2^p)*2^p:=by grind
   rw[this,hp1]
 clear B1 B2 P h1 h0 n1 n2 n3 hj1 hj2 fp fsub hF hl hb hn hk hp hm he
 generalize (2:Rat)^p=sc at*
 generalize (1:Rat)/sc=st at*
 by_cases hlh:low=high
 ·subst hlh
  have b4:(countF r a m low).left≠0:=by omega
  generalize countF r a m low=F at*
  have t6:decide (low=low)=true:=decide_eq_true rfl
  have t7:(((F.left:Nat):Int)==0)=false:=beq_eq_false_iff_ne.2 (by omega)
  have t8:(!decide (low=low))=false:=by rw[t6];rfl
  clear b3 hw
  by_cases hi0:i=0
  ·have t9:(((i:Nat):Int)==0)=true:=by rw[hi0];rfl
   clear k12
   refine callV (Z:=[40]) tabOK mixedOK Tryz.func5 rfl (by kernel_rfl) rfl rfl (by kernel_rfl) rfl ?_
   intro W0 w0 ρ0 hE
   conv=>whnf
   (repeat((first|refine step_w1 rfl rfl ?_|refine step_w2 rfl rfl ?_|refine step_i (by kernel_rfl) ?_|refine step_oN (by first|omega|decide|(simp only[tl0,dlen,List.length_replicate,List.length_set,List.length_map,List.length_zipWith,List.length_take,List.length_append,List.length_cons,List.length_nil];omega)) ?_|refine g_c (by assumption) ?_|refine g_o (op_pickT rfl (ev_ok rfl) (ev_ok rfl)) ?_|refine g_o (op_pickF rfl (ev_ok rfl) (ev_ok rfl)) ?_|rw[bne_self_eq_false]|refine tst_ff t3 ?_|refine tst_tt t6 ?_|refine tst_ff t8 ?_|refine tst_tt t9 ?_|refine⟨_,op_eqAgg tabOK goodOK rfl (ev_ok rfl) (ev_ok rfl) rfl rfl rfl rfl (q_same _ _) q_guard, ?_⟩|refine⟨_,op_neAgg tabOK goodOK rfl (ev_ok rfl) (ev_ok rfl) rfl rfl rfl rfl (q_same _ _) q_guard, ?_⟩|rw[e2]|rw[e3]|rw[e4]|rw[e5]|rw[e7]|rw[e9]|rw[e10]|rw[t1]|rw[t2]|rw[t3]|rw[t4]|rw[w1]|rw[t5]|rw[t6]|rw[t7]);conv=>whnf));(first|exact Recast.refl _|exact Frz.recast (Recast.refl _) rfl|(refine Frz.one rfl rfl ?_;skip)|(refine Frz.tup ?_;skip))
  ·have t9:(((i:Nat):Int)==0)=false:=beq_eq_false_iff_ne.2 (by omega)
   have w2:IntKind.i64.wrap (((i:Nat):Int) - 1)=((i - 1:Nat):Int):=by rw[wrap_i64 (by omega) (by omega)];omega
   obtain⟨lo,hg,kb,a1,a2,f5,f6⟩:=k12 hi0
   have g4:=f_Cmp lo low (by omega)
   have g5:=f_Cmp hg low (by omega)
   have t10:=(cmp_le a1).2
   have t11:=(cmp_le a2).2
   refine callV (Z:=[40]) tabOK mixedOK Tryz.func5 rfl (by kernel_rfl) rfl rfl (by kernel_rfl) rfl ?_
   intro W0 w0 ρ0 hE
   conv=>whnf
   (repeat((first|refine step_w1 rfl rfl ?_|refine step_w2 rfl rfl ?_|refine step_i (by kernel_rfl) ?_|refine step_oN (by first|omega|decide|(simp only[tl0,dlen,List.length_replicate,List.length_set,List.length_map,List.length_zipWith,List.length_take,List.length_append,List.length_cons,List.length_nil];omega)) ?_|refine g_c (by assumption) ?_|refine g_o (op_pickT rfl (ev_ok rfl) (ev_ok rfl)) ?_|refine g_o (op_pickF rfl (ev_ok rfl) (ev_ok rfl)) ?_|rw[beq_self_eq_true]|rw[bne_self_eq_false]|refine tst_ff t3 ?_|refine tst_tt t6 ?_|refine tst_ff t8 ?_|refine tst_ff t9 ?_|refine tst_tt t10 ?_|refine tst_tt t11 ?_|refine⟨_,op_eqAgg tabOK goodOK rfl (ev_ok rfl) (ev_ok rfl) rfl rfl rfl rfl (q_same _ _) q_guard, ?_⟩|refine⟨_,op_neAgg tabOK goodOK rfl (ev_ok rfl) (ev_ok rfl) rfl rfl rfl rfl (q_same _ _) q_guard, ?_⟩|rw[e2]|rw[e3]|rw[e4]|rw[e5]|rw[e7]|rw[e9]|rw[e10]|rw[t1]|rw[t2]|rw[t3]|rw[t4]|rw[w1]|rw[t5]|rw[t6]|rw[t7]|rw[t9]|rw[w2]|rw[t10]|rw[t11]);conv=>whnf));(first|exact Recast.refl _|exact Frz.recast (Recast.refl _) rfl|(refine Frz.one rfl rfl ?_;skip)|(refine Frz.tup ?_;skip))
 ·have hw1:=hw hlh
  rw[hw1]at k9
  have b5:i<(countF r a m high).m∧(countF r a m low).m+(countF r a m low).left≤i:=by
   rcases b3 with⟨g,_⟩|⟨_,g⟩
   ·exact absurd g hlh
   ·exact g
  generalize countF r a m low=F at*
  generalize countF r a m high=G at*
  have t6:decide (low=high)=false:=decide_eq_false hlh
  have t8:(!decide (low=high))=true:=by rw[t6];rfl
  have t7:(!decide ((1:Rat)=1))=false:=by decide
  have w3:IntKind.i64.wrap (((F.m:Nat):Int)+((F.left:Nat):Int))=((F.m+F.left:Nat):Int):=by rw[wrap_i64 (by omega) (by omega)];omega
  have t12:decide (((F.m+F.left:Nat):Int)>((i:Nat):Int))=false:=decide_eq_false (by omega)
  have t13:decide (((G.m:Nat):Int)≤((i:Nat):Int))=false:=decide_eq_false (by omega)
  clear b3 hw
  by_cases hi0:i=0
  ·have t9:(((i:Nat):Int)==0)=true:=by rw[hi0];rfl
   clear k12
   refine callV (Z:=[40]) tabOK mixedOK Tryz.func5 rfl (by kernel_rfl) rfl rfl (by kernel_rfl) rfl ?_
   intro W0 w0 ρ0 hE
   conv=>whnf
   (repeat((first|refine step_w1 rfl rfl ?_|refine step_w2 rfl rfl ?_|refine step_i (by kernel_rfl) ?_|refine step_oN (by first|omega|decide|(simp only[tl0,dlen,List.length_replicate,List.length_set,List.length_map,List.length_zipWith,List.length_take,List.length_append,List.length_cons,List.length_nil];omega)) ?_|refine g_c (by assumption) ?_|refine g_o (op_pickT rfl (ev_ok rfl) (ev_ok rfl)) ?_|refine g_o (op_pickF rfl (ev_ok rfl) (ev_ok rfl)) ?_|rw[bne_self_eq_false]|refine tst_ff t3 ?_|refine tst_ff t6 ?_|refine tst_tt t8 ?_|refine tst_ff t13 ?_|refine tst_tt t9 ?_|refine⟨_,op_eqAgg tabOK goodOK rfl (ev_ok rfl) (ev_ok rfl) rfl rfl rfl rfl (q_same _ _) q_guard, ?_⟩|refine⟨_,op_neAgg tabOK goodOK rfl (ev_ok rfl) (ev_ok rfl) rfl rfl rfl rfl (q_same _ _) q_guard, ?_⟩|rw[e2]|rw[e3]|rw[e4]|rw[e5]|rw[e7]|rw[e9]|rw[e10]|rw[t1]|rw[t2]|rw[t3]|rw[t4]|rw[w1]|rw[t5]|rw[t6]|rw[t7]|rw[w3]|rw[t12]);conv=>whnf));(first|exact Recast.refl _|exact Frz.recast (Recast.refl _) rfl|(refine Frz.one rfl rfl ?_;skip)|(refine Frz.tup ?_;skip))
  ·have t9:(((i:Nat):Int)==0)=false:=beq_eq_false_iff_ne.2 (by omega)
   have w2:IntKind.i64.wrap (((i:Nat):Int) - 1)=((i - 1:Nat):Int):=by rw[wrap_i64 (by omega) (by omega)];omega
   obtain⟨lo,hg,kb,a1,a2,f5,f6⟩:=k12 hi0
   have g4:=f_Cmp lo low (by omega)
   have g5:=f_Cmp hg high (by omega)
   have t10:=(cmp_le a1).2
   have t11:=(cmp_le a2).2
   refine callV (Z:=[40]) tabOK mixedOK Tryz.func5 rfl (by kernel_rfl) rfl rfl (by kernel_rfl) rfl ?_
   intro W0 w0 ρ0 hE
   conv=>whnf
   (repeat((first|refine step_w1 rfl rfl ?_|refine step_w2 rfl rfl ?_|refine step_i (by kernel_rfl) ?_|refine step_oN (by first|omega|decide|(simp only[tl0,dlen,List.length_replicate,List.length_set,List.length_map,List.length_zipWith,List.length_take,List.length_append,List.length_cons,List.length_nil];omega)) ?_|refine g_c (by assumption) ?_|refine g_o (op_pickT rfl (ev_ok rfl) (ev_ok rfl)) ?_|refine g_o (op_pickF rfl (ev_ok rfl) (ev_ok rfl)) ?_|rw[beq_self_eq_true]|rw[bne_self_eq_false]|refine tst_ff t3 ?_|refine tst_ff t6 ?_|refine tst_tt t8 ?_|refine tst_ff t13 ?_|refine tst_ff t9 ?_|refine tst_tt t10 ?_|refine tst_tt t11 ?_|refine⟨_,op_eqAgg tabOK goodOK rfl (ev_ok rfl) (ev_ok rfl) rfl rfl rfl rfl (q_same _ _) q_guard, ?_⟩|refine⟨_,op_neAgg tabOK goodOK rfl (ev_ok rfl) (ev_ok rfl) rfl rfl rfl rfl (q_same _ _) q_guard, ?_⟩|rw[e2]|rw[e3]|rw[e4]|rw[e5]|rw[e7]|rw[e9]|rw[e10]|rw[t1]|rw[t2]|rw[t3]|rw[t4]|rw[w1]|rw[t5]|rw[t6]|rw[t7]|rw[w3]|rw[t12]|rw[t13]|rw[t9]|rw[w2]|rw[t10]|rw[t11]);conv=>whnf));(first|exact Recast.refl _|exact Frz.recast (Recast.refl _) rfl|(refine Frz.one rfl rfl ?_;skip)|(refine Frz.tup ?_;skip))
theorem law_ModesBracket (a0 a1:List (Int×Int)) (a2 a3 a4 a5:Int) (w0:QWf a0) (w1:QWf a1) (w2:(Lit.int .u8 a2).wf=true) (w3:(Lit.int .u8 a3).wf=true) (w4:(Lit.int .u8 a4).wf=true) (w5:(Lit.int .u8 a5).wf=true):
  CallOK Tryz.prog 5 [mvec 2 qA a0,mvec 2 qA a1,iel .u8 a2,iel .u8 a3,iel .u8 a4,iel .u8 a5] [] (.val (.bool true)) [] []:=
 c_MBrk a0 a1 a2 a3 a4 a5 ⟨w0.1,qOK_of w0⟩ ⟨w1.1,qOK_of w1⟩ (wf_u8 w2) (wf_u8 w3) (wf_u8 w4) (wf_u8 w5)
end Go.Proofs.YtfjhnollamkdcaaGreatDoor
