/- The texts Qx. -/
import Derived.Test.YtbopchpncgdaaaaGreatDoorQLElimsRank2
namespace Go.Proofs.YtbopchpncgdaaaaGreatDoor
open Go.Sx
set_option linter.unusedSimpArgs false
set_option linter.unusedVariables false
set_option maxRecDepth 100000
set_option maxHeartbeats 40000000
theorem c_few14L (ms:List MM) (h:ms.length<1000) (hl:∀m∈ms,mOK m):CallOK Tryz.prog 23 [mvec 3 mQ ms] [] (.val (.bool (ms.all fun m=>decide (m.2.2.length≤40)))) [] []:=c_few14 ms h fun m hm=>(hl m hm).2.2.1
theorem rank_turn {r c:Nat} {x:List Rat}:(pivL c r (mturn r c x)).length=(pivL r c x).length:=by
 rw[pivL_rnk,pivL_rnk];exact(rnk_congr (V:=tr (el x c)) fun _ _ hi hk=>turn_el hi hk).trans (rnk_turn r c _)
theorem rank_mul {r s t:Nat} {x y:List Rat}:(pivL r t (mmul r s t x y)).length=rnk r t (pr s (el x s) (el y t)):=by
 rw[pivL_rnk];exact rnk_congr fun _ _ hi hk=>mk_el hi hk
theorem c_ERank (a b:MM) (n k p:Int) (ha:mOK a) (hb:mOK b) (hn:0≤n∧n<256) (hk:0≤k∧k<256) (hp:0≤p∧p<256):
  CallOK Tryz.prog 8 [mQ a,mQ b,iel .u8 n,iel .u8 k,iel .u8 p] [] (.val (.bool true)) [] []:=by
 have kw:=l_works14
 have kf:=c_few14L [a,b] (by simp) (by intro m hm;simp only[List.mem_cons,List.not_mem_nil,or_false]at hm;rcases hm with rfl|rfl<;>assumption)
 cases hF:[a,b].all fun m=>decide (m.2.2.length≤40)
 ·rw[hF]at kf
  refine callV (Z:=[5,6,29]) tabOK mixedOK Tryz.func8 rfl (by kernel_rfl) rfl rfl (by kernel_rfl) rfl ?_
  intro W0 w0 ρ0 hE
  conv=>whnf
  (repeat(first|(refine step_w1 rfl rfl ?_;conv=>whnf)|(refine g_c (by assumption) ?_;conv=>whnf)|(refine g_o (op_loadA rfl (ev_ok rfl) (tgt rfl) rfl (Nat.succ_ne_zero _) rfl) ?_;conv=>whnf)));(first|exact Recast.refl _|exact Frz.recast (Recast.refl _) rfl|(refine Frz.one rfl rfl ?_;skip)|(refine Frz.tup ?_;skip))
 rw[hF]at kf
 obtain⟨e1,e2⟩:=u8_mod n hn 6 (by decide)
 obtain⟨e3,e4⟩:=u8_mod k hk 6 (by decide)
 obtain⟨e5,e6⟩:=u8_mod p hp 6 (by decide)
 have r5:(n % 6).toNat≤5:=by omega
 have s5:(k % 6).toNat≤5:=by omega
 have t5:(p % 6).toNat≤5:=by omega
 generalize (n % 6).toNat=r at*
 generalize (k % 6).toNat=s at*
 generalize (p % 6).toNat=t at*
 have x1:=c_Some a ha (r:=r) (c:=s) (by omega) (by omega)
 have y1:=c_Some b hb (r:=s) (c:=t) (by omega) (by omega)
 have hx:=OKM_some a.2.2 (r:=r) (c:=s) (by omega) (by omega)
 have hy:=OKM_some b.2.2 (r:=s) (c:=t) (by omega) (by omega)
 have sx:=Sm_some ha.2.2.2 (r*s)
 have sy:=Sm_some hb.2.2.2 (s*t)
 generalize someL a.2.2 (r*s)=x at*
 generalize someL b.2.2 (s*t)=y at*
 have o1:=m_Turn hx
 have o2:=m_Mul 5 hx hy sx sy s5 (by decide)
 have hxy:=OKM_mul hx hy
 have sxy:Sm 1302 (mmul r s t x y):=Sm_mul hx.n hy.n sx sy s5
 have k1:=e_RankS hx (by omega) (by omega) sx (by decide) (by decide)
 have k2:=e_RankS hy (by omega) (by omega) sy (by decide) (by decide)
 have k3:=e_RankS (OKM_turn hx) (by omega) (by omega) (Sm_turn hx.n sx) (by decide) (by decide)
 have k4:=e_RankS hxy (by omega) (by omega) sxy (by decide) (by decide)
 have k5:=e_KernelS hx (by omega) (by omega) sx (by decide) (by decide)
 rw[rank_turn]at k3
 rw[rank_mul]at k4
 have g1:=rnk_mul r s t (el x s) (el y t)
 have g2:=rnk_syl r s t (el x s) (el y t)
 have g3:=KL_cnt r s x
 have g4:=rnk_le_r r s (el x s)
 have g5:=rnk_le_c r s (el x s)
 have g6:=rnk_le_r s t (el y t)
 rw[pivL_rnk]at k1 k2 k3 g3
 clear hx hy sx sy hxy sxy ha hb hn hk hp hF
 generalize rnk r t (pr s (el x s) (el y t))=U at*
 generalize rnk r s (el x s)=R at*
 generalize rnk s t (el y t)=V at*
 generalize KL r s x=L at*
 generalize mturn r s x=T at*
 generalize mmul r s t x y=XY at*
 have f1:((R:Int)==(R:Int))=true:=beq_self_eq_true _
 have f2:decide ((U:Int)≤(R:Int))=true:=decide_eq_true (by omega)
 have f3:decide ((U:Int)≤(V:Int))=true:=decide_eq_true (by omega)
 have w1:IntKind.i64.wrap ((R:Int)+(L.length:Int))=(s:Int):=by rw[wrap_i64 (by omega) (by omega)];omega
 have f4:((s:Int)==(s:Int))=true:=beq_self_eq_true _
 have f5:decide ((R:Int)≤(if (s:Int)<(r:Int)then(s:Int)else(r:Int)))=true:=decide_eq_true (by split<;>omega)
 have w2:IntKind.i64.wrap ((R:Int)+(V:Int))=((R+V:Nat):Int):=by rw[wrap_i64 (by omega) (by omega)];omega
 have w3:IntKind.i64.wrap (((R+V:Nat):Int) - (s:Int))=((R+V:Nat):Int) - (s:Int):=wrap_i64 (by omega) (by omega)
 have f6:decide (((R+V:Nat):Int) - (s:Int)≤(U:Int))=true:=decide_eq_true (by omega)
 clear g1 g2 g3 g4 g5 g6
 refine callV (Z:=[5,6,29]) tabOK mixedOK Tryz.func8 rfl (by kernel_rfl) rfl rfl (by kernel_rfl) rfl ?_
 intro W0 w0 ρ0 hE
 conv=>whnf
 (repeat((first|refine step_w1 rfl rfl ?_|refine step_w2 rfl rfl ?_|refine step_i (by kernel_rfl) ?_|refine step_oN (by first|omega|decide|(simp only[tl0,dlen,List.length_replicate,List.length_set,List.length_map,List.length_zipWith,List.length_take,List.length_append,List.length_cons,List.length_nil];omega)) ?_|refine g_c (by assumption) ?_|refine g_o (op_pickT rfl (ev_ok rfl) (ev_ok rfl)) ?_|refine g_o (op_pickF rfl (ev_ok rfl) (ev_ok rfl)) ?_|rw[beq_self_eq_true]|rw[bne_self_eq_false]|refine tst_tt f2 ?_|refine tst_tt f3 ?_|refine tst_tt f5 ?_|refine tst_tt f6 ?_|refine g_o (op_lenM rfl rfl rfl (ev_ok rfl) (tgt rfl) rfl) ?_|refine g_o (op_loadA rfl (ev_ok rfl) (tgt rfl) rfl (Nat.succ_ne_zero _) rfl) ?_|rw[e2]|rw[e4]|rw[e6]|rw[f2]|rw[f3]|rw[w1]|rw[f5]|rw[w2]|rw[w3]|rw[f6]);conv=>whnf));(first|exact Recast.refl _|exact Frz.recast (Recast.refl _) rfl|(refine Frz.one rfl rfl ?_;skip)|(refine Frz.tup ?_;skip))
theorem law_ElimsRank (a0 a1:MM) (a2 a3 a4:Int) (w0:MWf a0) (w1:MWf a1) (w2:(Lit.int .u8 a2).wf=true) (w3:(Lit.int .u8 a3).wf=true) (w4:(Lit.int .u8 a4).wf=true):
  CallOK Tryz.prog 8 [mQ a0,mQ a1,iel .u8 a2,iel .u8 a3,iel .u8 a4] [] (.val (.bool true)) [] []:=c_ERank a0 a1 a2 a3 a4 (mOK_of w0) (mOK_of w1) (wf_u8 w2) (wf_u8 w3) (wf_u8 w4)
end Go.Proofs.YtbopchpncgdaaaaGreatDoor
