/- The texts As. -/
import Derived.Test.YtfjhnollamkdcaaGreatDoorQLModesReach2
namespace Go.Proofs.YtfjhnollamkdcaaGreatDoor
open Go.Sx
set_option linter.unusedSimpArgs false
set_option linter.unusedVariables false
set_option maxRecDepth 100000
set_option maxHeartbeats 40000000
theorem c_MReach (l b:List (Int×Int)) (n:Int) (hl:lOK l) (hb:lOK b) (hn:0≤n∧n<256):
  CallOK Tryz.prog 6 [lQ l,lQ b,iel .u8 n] [] (.val (.bool true)) [] []:=by
 have kw:=l_works22
 have kf:=c_few22 [l,b] (by simp) (two_mem hl.1 hb.1)
 cases hF:[l,b].all fun l=>decide (l.length≤40)
 ·rw[hF]at kf
  refine callV (Z:=[33]) tabOK mixedOK Tryz.func6 rfl (by kernel_rfl) rfl rfl (by kernel_rfl) rfl ?_
  intro W0 w0 ρ0 hE
  conv=>whnf
  (repeat(first|(refine step_w1 rfl rfl ?_;conv=>whnf)|(refine g_c (by assumption) ?_;conv=>whnf)));(first|exact Recast.refl _|exact Frz.recast (Recast.refl _) rfl|(refine Frz.one rfl rfl ?_;skip)|(refine Frz.tup ?_;skip))
 rw[hF]at kf
 obtain⟨e1,e2⟩:=u8_mod n hn 6 (by decide)
 have r5:(n % 6).toNat≤5:=by omega
 generalize (n % 6).toNat=r at*
 have kp:=c_pencil l b hl hb r5
 have P:=pen_law hl.2 hb.2 r5
 obtain⟨e,he,h1,h0⟩:=reach_ex hl.2 hb.2 r5
 generalize symL l r=a at*
 generalize plusL b r=m at*
 have k1:=m_ReachOK (P.ok (by decide) (by decide)) (P.reach (by decide) (by decide) (by omega) h1 h0)
 have f2:=fs_pow2 e
 have kn:=c_fNeg ((2:Rat)^e)
 have k2:=P.count (T:=70) (-(2^e)) (by rw[fs_neg];omega) (by decide) (by decide)
 have k3:=P.count (T:=70) (2^e) (by omega) (by decide) (by decide)
 rw[h1.1]at k2
 rw[h1.2]at k3
 have c1:CallOK Tryz.prog 26 [iv 1] [] (.frac 1) [] []:=c_fInt 1 (by decide) (by decide)
 have c2:CallOK Tryz.prog 26 [iv 2] [] (.frac 2) [] []:=c_fInt 2 (by decide) (by decide)
 have g2:fs (2:Rat)≤10:=by decide+kernel
 have g1:=fs_one
 have kd:∀j,j≤66→CallOK Tryz.prog 36 [.frac (2^(j+1)),.frac 2] [] (.tup [.frac (2^j),iv 0]) [] []:=fun j hj=>by
  have:=x_Div ((2:Rat)^(j+1)) 2 (by decide) (by have:=fs_pow2 (j+1);omega)
  rwa [pow_half]at this
 have kc:∀j,j≤66→CallOK Tryz.prog 33 [.frac (2^j),.frac 1] [] (iv (((2:Rat)^j - 1).num.sign)) [] []:=fun j hj=>f_Cmp _ _ (by have:=fs_pow2 j;omega)
 have hlast:e≠0→∃f,e=f+1∧0<(countF r a m (-(2^f))).m+(countF r a m (2^f)).p∧CallOK Tryz.prog 18 [mA r r a,mA r r m,.frac (-(2^f))] [] (.tup [iv (countF r a m (-(2^f))).m,iv (countF r a m (-(2^f))).left,iv (countF r a m (-(2^f))).p,iv 0]) [] []∧
   CallOK Tryz.prog 18 [mA r r a,mA r r m,.frac (2^f)] [] (.tup [iv (countF r a m (2^f)).m,iv (countF r a m (2^f)).left,iv (countF r a m (2^f)).p,iv 0]) [] []∧(countF r a m (-(2^f))).m≤r∧(countF r a m (2^f)).p≤r:=fun hne=>by
  obtain⟨f,rfl⟩:∃f,e=f+1:=⟨e - 1,by omega⟩
  have hf:=h0 f (by omega)
  have g3:=fs_pow2 f
  refine⟨f,rfl, ?_,P.count (T:=70) (-(2^f)) (by rw[fs_neg];omega) (by decide) (by decide),P.count (T:=70) (2^f) (by omega) (by decide) (by decide),by have:=P.sum (-(2^f));omega,by have:=P.sum (2^f);omega⟩
  refine Nat.pos_of_ne_zero fun h=>hf ⟨by omega,by omega⟩
 clear P h1 h0 f2 hF hl hb hn
 generalize (countF r a m (-(2^e))).left=z1 at*
 generalize (countF r a m (-(2^e))).p=z2 at*
 generalize (countF r a m (2^e)).m=z3 at*
 generalize (countF r a m (2^e)).left=z4 at*
 refine callV (Z:=[33]) tabOK mixedOK Tryz.func6 rfl (by kernel_rfl) rfl rfl (by kernel_rfl) rfl ?_
 intro W0 w0 ρ0 hE
 conv=>whnf
 (repeat((first|refine step_w1 rfl rfl ?_|refine step_w2 rfl rfl ?_|refine step_i (by kernel_rfl) ?_|refine step_oN (by first|omega|decide|(simp only[tl0,dlen,List.length_replicate,List.length_set,List.length_map,List.length_zipWith,List.length_take,List.length_append,List.length_cons,List.length_nil];omega)) ?_|refine g_c (by assumption) ?_|refine g_o (op_pickF rfl (ev_ok rfl) (ev_ok rfl)) ?_|rw[bne_self_eq_false]|rw[e2]);conv=>whnf))
 refine SW_loopN hE (fun k=>k) [7,8,9,19,20] [7,8,9,19] (fun M fr hp=>∃i j:Nat,M=j∧i+j=e∧fr=[(7,.ptr 7 0 0 0),(8,.ptr 8 0 0 0),(9,.ptr 9 0 0 0),(19,.ptr 19 0 0 0),(20,iv (i:Nat))]∧
  hp=[(7,⟨30,true,.one (mC r r a)⟩),(8,⟨30,true,.one (mC r r m)⟩),(9,⟨49,true,.one [.frac (2^e)]⟩),(19,⟨49,true,.one [.frac (2^j)]⟩)]) e ?_ ?_ ?_
 ·kernel_rfl
 ·exact⟨0,e,rfl,by omega,rfl,rfl⟩
 rintro j _ _ ⟨i,_,rfl,hij,rfl,rfl⟩
 have t1:decide ((i:Int)<400)=true:=decide_eq_true (by omega)
 have k4:=kc j (by omega)
 by_cases hj:j=0
 ·subst hj
  have hi:i=e:=by omega
  have t2:decide ((((2:Rat)^0 - 1).num.sign)>0)=false:=by decide+kernel
  have q0:(2:Rat)^0=1:=by decide+kernel
  have t3:(!decide (((2:Rat)^0)=1))=false:=by rw[q0];decide
  by_cases he0:e=0
  ·have t4:decide (((2:Rat)^e)=1)=true:=by rw[he0];exact decide_eq_true q0
   clear kc kd hlast
   conv=>whnf
   (repeat((first|refine step_w2 rfl rfl ?_|refine step_i (by kernel_rfl) ?_|refine g_c (by assumption) ?_|refine g_o (op_pickT rfl (ev_ok rfl) (ev_ok rfl)) ?_|refine tst_tt t1 ?_|refine tst_ff t2 ?_|refine tst_tt t4 ?_|refine⟨_,op_eqAgg tabOK goodOK rfl (ev_ok rfl) (ev_ok rfl) rfl rfl rfl rfl (q_same _ _) q_guard, ?_⟩|refine⟨_,op_neAgg tabOK goodOK rfl (ev_ok rfl) (ev_ok rfl) rfl rfl rfl rfl (q_same _ _) q_guard, ?_⟩|rw[t1]);conv=>whnf));(first|exact Recast.refl _|exact Frz.recast (Recast.refl _) rfl|(refine Frz.one rfl rfl ?_;skip)|(refine Frz.tup ?_;skip))
  ·obtain⟨f,hef,hpos,k5,k6,s1,s2⟩:=hlast he0
   have k7:=kd f (by omega)
   rw[←hef]at k7
   have k8:=c_fNeg ((2:Rat)^f)
   have t4:decide (((2:Rat)^e)=1)=false:=decide_eq_false fun h=>by
    rw[hef,Rat.pow_succ]at h
    have:=pow_ge f
    grind
   clear kc kd hlast
   generalize countF r a m (-(2^f))=F1 at*
   generalize countF r a m (2^f)=F2 at*
   have w1:IntKind.i64.wrap (((F1.m:Nat):Int)+((F2.p:Nat):Int))=((F1.m+F2.p:Nat):Int):=by rw[wrap_i64 (by omega) (by omega)];omega
   have t5:decide (((F1.m+F2.p:Nat):Int)>0)=true:=decide_eq_true (by omega)
   conv=>whnf
   (repeat((first|refine step_w2 rfl rfl ?_|refine step_i (by kernel_rfl) ?_|refine g_c (by assumption) ?_|refine g_o (op_pickT rfl (ev_ok rfl) (ev_ok rfl)) ?_|refine tst_tt t1 ?_|refine tst_ff t2 ?_|refine tst_ff t4 ?_|refine tst_tt t5 ?_|refine⟨_,op_eqAgg tabOK goodOK rfl (ev_ok rfl) (ev_ok rfl) rfl rfl rfl rfl (q_same _ _) q_guard, ?_⟩|refine⟨_,op_neAgg tabOK goodOK rfl (ev_ok rfl) (ev_ok rfl) rfl rfl rfl rfl (q_same _ _) q_guard, ?_⟩|rw[t1]|rw[t2]|rw[t3]|rw[t4]|rw[w1]|rw[t5]);conv=>whnf));(first|exact Recast.refl _|exact Frz.recast (Recast.refl _) rfl|(refine Frz.one rfl rfl ?_;skip)|(refine Frz.tup ?_;skip))
 ·obtain⟨q,rfl⟩:∃q,j=q+1:=⟨j - 1,by omega⟩
  have k5:=kd q (by omega)
  have t2:decide ((((2:Rat)^(q+1) - 1).num.sign)>0)=true:=by
   have h1:(0:Rat)<2^(q+1) - 1:=by
    rw[Rat.pow_succ]
    have:=pow_ge q
    grind
   rw[sign_pos h1];rfl
  have t3:=winc (i:=i) (by omega)
  clear kc kd hlast
  conv=>whnf
  (repeat((first|refine step_i (by kernel_rfl) ?_|refine g_c (by assumption) ?_|refine g_o (op_pickT rfl (ev_ok rfl) (ev_ok rfl)) ?_|refine tst_tt t1 ?_|refine tst_tt t2 ?_|rw[t1]|rw[t2]|rw[t3]);conv=>whnf))
  exact⟨q,fun k=>k,[7,8,9,19,20],[7,8,9,19],by omega,by kernel_rfl,i+1,q,rfl,by omega,rfl,rfl⟩
theorem law_ModesReach (a0 a1:List (Int×Int)) (a2:Int) (w0:QWf a0) (w1:QWf a1) (w2:(Lit.int .u8 a2).wf=true):
  CallOK Tryz.prog 6 [mvec 2 qA a0,mvec 2 qA a1,iel .u8 a2] [] (.val (.bool true)) [] []:=
 c_MReach a0 a1 a2 ⟨w0.1,qOK_of w0⟩ ⟨w1.1,qOK_of w1⟩ (wf_u8 w2)
end Go.Proofs.YtfjhnollamkdcaaGreatDoor
