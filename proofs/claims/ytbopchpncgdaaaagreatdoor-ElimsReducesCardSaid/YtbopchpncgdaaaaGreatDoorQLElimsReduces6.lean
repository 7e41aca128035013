/- The texts Bj. -/
import Derived.Test.YtbopchpncgdaaaaGreatDoorQLElimsReduces5
namespace Go.Proofs.YtbopchpncgdaaaaGreatDoor
open Go.Sx
set_option linter.unusedSimpArgs false
set_option linter.unusedVariables false
set_option maxRecDepth 100000
set_option maxHeartbeats 40000000
theorem c_EReduces (a:MM) (n:Int) (ha:mOK a) (hn:0≤n∧n<256):CallOK Tryz.prog 4 [mQ a,iel .u8 n] [] (.val (.bool true)) [] []:=by
 have kw:=l_works14
 have kf:=c_few14L [a] (by simp) (by intro m hm;simp only[List.mem_cons,List.not_mem_nil,or_false]at hm;obtain rfl:=hm;assumption)
 cases hF:[a].all fun m=>decide (m.2.2.length≤40)
 ·rw[hF]at kf
  refine callV (Z:=[2,18]) tabOK mixedOK Tryz.func4 rfl (by kernel_rfl) rfl rfl (by kernel_rfl) rfl ?_
  intro W0 w0 ρ0 hE
  conv=>whnf
  (repeat(first|(refine step_w1 rfl rfl ?_;conv=>whnf)|(refine g_c (by assumption) ?_;conv=>whnf)|(refine g_o (op_loadA rfl (ev_ok rfl) (tgt rfl) rfl (Nat.succ_ne_zero _) rfl) ?_;conv=>whnf)));(first|exact Recast.refl _|exact Frz.recast (Recast.refl _) rfl|(refine Frz.one rfl rfl ?_;skip)|(refine Frz.tup ?_;skip))
 rw[hF]at kf
 obtain⟨e1,e2⟩:=u8_mod n hn 6 (by decide)
 have s5:(n % 6).toNat≤5:=by omega
 have ks:=c_Sides a ha
 have km:=c_MOf a ha
 have n6:=side_le a.1
 have k6:=side_le a.2.1
 generalize (a.1 % 7).toNat=r at*
 generalize (a.2.1 % 7).toNat=c at*
 generalize (n % 6).toNat=s at*
 have x1:=c_Some a ha (r:=s) (c:=s) (by omega) (by omega)
 have x2:=r_RefM a ha (r:=s) (c:=s) (by omega) (by omega)
 have x3:=r_RefM a ha (r:=r) (c:=c) (by omega) (by omega)
 have hX:=OKM_some a.2.2 (r:=r) (c:=c) (by omega) (by omega)
 have sX:=Sm_some ha.2.2.2 (r*c)
 have hY:=OKM_some a.2.2 (r:=s) (c:=s) (by omega) (by omega)
 have sY:=Sm_some ha.2.2.2 (s*s)
 generalize someL a.2.2 (r*c)=X at*
 generalize someL a.2.2 (s*s)=Y at*
 have k1:=e_ReduceS hX (by omega) (by omega) sX (by decide) (by decide)
 have k2:=e_RankS hX (by omega) (by omega) sX (by decide) (by decide)
 have k3:=r14_Reduce hX sX n6 k6 (by decide) (by decide)
 have okR:=RL_ok hX (by omega)
 have smR:=RL_sm hX (by omega) sX (by decide)
 have t1:=m_Text okR smR (by decide)
 have t2:=r13_Text okR smR (by decide)
 have lp:((pivL r c X).map ofN).length≤6:=by rw[List.length_map];have:=rnk_le_c r c (el X c);rw[←pivL_rnk]at this;omega
 have hlp:((pivL r c X).map ofN).length=(pivL r c X).length:=List.length_map _
 have z2:=c_same14 ((pivL r c X).map ofN) ((pivL r c X).map ofN) (by omega) (by omega)
 rw[decide_eq_true rfl]at z2
 have kd:=e_DetW hY (by omega) sY (by decide) (by decide)
 have kr:=r_Det hY.n sY s5 (by decide)
 have df:=det_fs hY (by omega) sY (by decide)
 have kS:=lw_Same (det s (el Y s)) (by omega)
 have lR:=RL_len r c X
 have hrc:r*c≤6*6:=Nat.mul_le_mul n6 k6
 have w0:IntKind.i64.wrap ((r:Int)*(c:Int))=((r*c:Nat):Int):=(idx_w (i:=r) (k:=0) (c:=c) (by omega) (by omega) (by omega)).1
 have f1:((r:Int) != (r:Int))=false:=bne_self_eq_false _
 have f2:((c:Int) != (c:Int))=false:=bne_self_eq_false _
 have f3:(((RL r c X).length:Int) != ((r*c:Nat):Int))=false:=by rw[lR];exact bne_self_eq_false _
 have f4:(((pivL r c X).length:Int) != (((pivL r c X).map ofN).length:Int))=false:=by rw[hlp];exact bne_self_eq_false _
 clear hX sX hY sY okR smR df lR
 generalize RL r c X=R at*
 generalize tM r c R=s0 at*
 generalize (pivL r c X).map ofN=P at*
 generalize (pivL r c X).length=K at*
 generalize det s (el Y s)=D at*
 have f5:(!s0.toList==s0.toList)=false:=by rw[beq_self_eq_true];rfl
 refine callV (Z:=[2,18]) tabOK mixedOK Tryz.func4 rfl (by kernel_rfl) rfl rfl (by kernel_rfl) rfl ?_
 intro W0 w0' ρ0 hE
 conv=>whnf
 (repeat((first|refine step_w1 rfl rfl ?_|refine step_w2 rfl rfl ?_|refine step_i (by kernel_rfl) ?_|refine step_oN (by first|omega|decide|(simp only[tl0,dlen,List.length_replicate,List.length_set,List.length_map,List.length_zipWith,List.length_take,List.length_append,List.length_cons,List.length_nil];omega)) ?_|refine g_c (by assumption) ?_|refine g_o (op_pickT rfl (ev_ok rfl) (ev_ok rfl)) ?_|refine g_o (op_pickF rfl (ev_ok rfl) (ev_ok rfl)) ?_|rw[beq_self_eq_true]|rw[bne_self_eq_false]|refine tst_ff f4 ?_|refine g_o (op_lenM rfl rfl rfl (ev_ok rfl) (tgt rfl) rfl) ?_|refine g_o (op_loadA rfl (ev_ok rfl) (tgt rfl) rfl (Nat.succ_ne_zero _) rfl) ?_|refine g_o (op_fieldV rfl (ev_ok rfl) (tgt rfl) rfl rfl rfl (tgt rfl) rfl rfl) ?_|rw[e2]|rw[w0]|rw[f3]);conv=>whnf));(first|exact Recast.refl _|exact Frz.recast (Recast.refl _) rfl|(refine Frz.one rfl rfl ?_;skip)|(refine Frz.tup ?_;skip))
theorem law_ElimsReduces (a0:MM) (a1:Int) (w0:MWf a0) (w1:(Lit.int .u8 a1).wf=true):
  CallOK Tryz.prog 4 [mQ a0,iel .u8 a1] [] (.val (.bool true)) [] []:=c_EReduces a0 a1 (mOK_of w0) (wf_u8 w1)
end Go.Proofs.YtbopchpncgdaaaaGreatDoor
