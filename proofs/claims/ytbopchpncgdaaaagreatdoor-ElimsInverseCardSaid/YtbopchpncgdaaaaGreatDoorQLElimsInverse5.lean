/- The texts Qy. -/
import Derived.Test.YtbopchpncgdaaaaGreatDoorQLElimsInverse4
namespace Go.Proofs.YtbopchpncgdaaaaGreatDoor
open Go.Sx
set_option linter.unusedSimpArgs false
set_option linter.unusedVariables false
set_option maxRecDepth 100000
set_option maxHeartbeats 40000000
theorem sign_ne {D:Rat} (h:D≠0):(D.num.sign != 0)=true:=bne_iff_ne.2 fun g=>h (Rat.num_eq_zero.1 (Int.sign_eq_zero_iff_zero.1 g))
theorem c_EInverse (a b:MM) (n:Int) (v:List (Int×Int)) (ha:mOK a) (hb:mOK b) (hn:0≤n∧n<256) (hv:v.length≤maxLen∧∀q∈v,qOK q):
  CallOK Tryz.prog 12 [mQ a,mQ b,iel .u8 n,mvec 2 qA v] [] (.val (.bool true)) [] []:=by
 have kw:=l_works14
 have kf:=c_few14L [a,b] (by simp) (by intro m hm;simp only[List.mem_cons,List.not_mem_nil,or_false]at hm;rcases hm with rfl|rfl<;>assumption)
 cases hF:[a,b].all fun m=>decide (m.2.2.length≤40)
 ·rw[hF]at kf
  refine callV (Z:=[4,5,47]) tabOK mixedOK Tryz.func12 rfl (by kernel_rfl) rfl rfl (by kernel_rfl) rfl ?_
  intro W0 w0 ρ0 hE
  conv=>whnf
  (repeat((first|refine step_w1 rfl rfl ?_|refine step_w2 rfl rfl ?_|refine g_c (by assumption) ?_|refine g_o (op_pickT rfl (ev_ok rfl) (ev_ok rfl)) ?_|refine g_o (op_loadA rfl (ev_ok rfl) (tgt rfl) rfl (Nat.succ_ne_zero _) rfl) ?_);conv=>whnf));(first|exact Recast.refl _|exact Frz.recast (Recast.refl _) rfl|(refine Frz.one rfl rfl ?_;skip)|(refine Frz.tup ?_;skip))
 rw[hF]at kf
 by_cases hl:v.length>20
 ·have t1:decide ((v.length:Int)>20)=true:=decide_eq_true (by omega)
  refine callV (Z:=[4,5,47]) tabOK mixedOK Tryz.func12 rfl (by kernel_rfl) rfl rfl (by kernel_rfl) rfl ?_
  intro W0 w0 ρ0 hE
  conv=>whnf
  (repeat((first|refine step_w1 rfl rfl ?_|refine g_c (by assumption) ?_|refine g_o (op_pickF rfl (ev_ok rfl) (ev_ok rfl)) ?_|refine tst_tt t1 ?_|refine g_o (op_lenM rfl rfl rfl (ev_ok rfl) (tgt rfl) rfl) ?_|refine g_o (op_loadA rfl (ev_ok rfl) (tgt rfl) rfl (Nat.succ_ne_zero _) rfl) ?_);conv=>whnf));(first|exact Recast.refl _|exact Frz.recast (Recast.refl _) rfl|(refine Frz.one rfl rfl ?_;skip)|(refine Frz.tup ?_;skip))
 have t1:decide ((v.length:Int)>20)=false:=decide_eq_false (by omega)
 obtain⟨e1,e2⟩:=u8_mod n hn 6 (by decide)
 have r5:(n % 6).toNat≤5:=by omega
 generalize (n % 6).toNat=r at*
 have x1:=c_Some a ha (r:=r) (c:=r) (by omega) (by omega)
 have y1:=c_Some b hb (r:=r) (c:=r) (by omega) (by omega)
 have v1:=c_vec14 v hv.1 hv.2 (n:=r) (by omega)
 have hx:=OKM_some a.2.2 (r:=r) (c:=r) (by omega) (by omega)
 have hy:=OKM_some b.2.2 (r:=r) (c:=r) (by omega) (by omega)
 have sx:=Sm_some ha.2.2.2 (r*r)
 have sy:=Sm_some hb.2.2.2 (r*r)
 have sv:=Sm_some hv.2 r
 have lv:=someL_len v r
 generalize someL a.2.2 (r*r)=x at*
 generalize someL b.2.2 (r*r)=y at*
 generalize someL v r=w at*
 clear ha hb hn hF
 have k1:=e_DetW hx (by omega) sx (by decide) (by decide)
 have k2:=e_RankS hx (by omega) (by omega) sx (by decide) (by decide)
 have kS:=c_fSign (det r (el x r))
 have hrk:=rank_full (n:=r) (x:=x)
 by_cases hD:det r (el x r)=0
 ·have k3:=e_InverseN hx (by omega) sx (by decide) (by decide) hD
  have hle:=rnk_le_r r r (el x r)
  rw[←pivL_rnk]at hle
  have f1:(((pivL r r x).length:Int)==(r:Int))=false:=beq_eq_false_iff_ne.2 fun g=>hrk.1 (by omega) hD
  have f2:((det r (el x r)).num.sign != 0)=false:=by rw[hD];rfl
  clear hx hy sx sy sv hrk hle
  generalize (pivL r r x).length=R at*
  generalize det r (el x r)=D at*
  refine callV (Z:=[4,5,47]) tabOK mixedOK Tryz.func12 rfl (by kernel_rfl) rfl rfl (by kernel_rfl) rfl ?_
  intro W0 w0 ρ0 hE
  conv=>whnf
  (repeat((first|refine step_w1 rfl rfl ?_|refine step_w2 rfl rfl ?_|refine step_i (by kernel_rfl) ?_|refine step_oN (by first|omega|decide|(simp only[tl0,dlen,List.length_replicate,List.length_set,List.length_map,List.length_zipWith,List.length_take,List.length_append,List.length_cons,List.length_nil];omega)) ?_|refine g_c (by assumption) ?_|refine g_o (op_pickT rfl (ev_ok rfl) (ev_ok rfl)) ?_|refine g_o (op_pickF rfl (ev_ok rfl) (ev_ok rfl)) ?_|rw[bne_self_eq_false]|refine tst_ff t1 ?_|refine g_o (op_lenM rfl rfl rfl (ev_ok rfl) (tgt rfl) rfl) ?_|refine g_o (op_loadA rfl (ev_ok rfl) (tgt rfl) rfl (Nat.succ_ne_zero _) rfl) ?_|rw[t1]|rw[e2]|rw[f1]|rw[f2]);conv=>whnf));(first|exact Recast.refl _|exact Frz.recast (Recast.refl _) rfl|(refine Frz.one rfl rfl ?_;skip)|(refine Frz.tup ?_;skip))
 have f1:(((pivL r r x).length:Int)==(r:Int))=true:=by rw[hrk.2 hD];exact beq_self_eq_true _
 have f2:=sign_ne hD
 obtain⟨B,lB,sB,hBx,k3⟩:=e_InverseS hx (by omega) sx (by decide) (by decide) hD
 have hB:OKM r r B:=⟨hx.r,hx.c,lB⟩
 have hxB:=invL_right hBx
 have hdB:=invL_det hBx
 have o1:=m_One r hx.r
 have o2:=m_Mul 5 hB hx sB sx r5 (by decide)
 have o3:=m_Mul 5 hx hB sx sB r5 (by decide)
 rw[hBx]at o2
 rw[hxB]at o3
 have k4:=e_DetW hB (by omega) sB (by decide) (by decide)
 have d1:=det_fs hx (by omega) sx (by decide)
 have d2:=det_fs hB (by omega) sB (by decide)
 have o4:=x_Mul (det r (el x r)) (det r (el B r)) (by omega)
 rw[hdB]at o4
 have q1:=m_SameT (a:=mone r) (OKM_mk hx.r hx.c) rfl
 have c1:CallOK Tryz.prog 41 [iv 1] [] (.frac 1) [] []:=c_fInt 1 (by decide) (by decide)
 have f3:(!decide ((1:Rat)=1))=false:=by rw[decide_eq_true rfl];rfl
 have hl1:((B.length:Int) != ((r*r:Nat):Int))=false:=by rw[lB];exact bne_self_eq_false _
 have w1:IntKind.i64.wrap ((r:Int)*(r:Int))=((r*r:Nat):Int):=(idx_w (i:=r) (k:=0) (c:=r) (by omega) (by omega) (by omega)).1
 have f4:((r:Int) != (r:Int))=false:=bne_self_eq_false _
 have o5:=m_Turn hx
 have dT:det r (el (mturn r r x) r)≠0:=by rw[detL_turn];exact hD
 obtain⟨T,lT,sT,hT,k5⟩:=e_InverseS (OKM_turn hx) (by omega) (Sm_turn hx.n sx) (by decide) (by decide) dT
 have o6:=m_Turn hB
 obtain rfl:T=mturn r r B:=invL_unique lT (mk_len ..) hT (invL_turn hBx)
 have q2:=m_SameT (OKM_turn hB) rfl
 obtain⟨X,lX,sX,hX,_,k6⟩:=e_SolveS hx (by omega) (by omega) sx (by decide) (by decide) lv sv ⟨_,sol_ex lv hxB⟩
 have o7:=m_Apply 5 hB lv sB sv r5 (by decide)
 obtain rfl:X=mapply r r B w:=sol_invL lX hBx hX
 have q3:=s_same (a:=mapply r r B w) (n:=r) mapply_len mapply_len (by omega) rfl
 have lm:(((mapply r r B w).length:Int) != (r:Int))=false:=by rw[mapply_len];exact bne_self_eq_false _
 have hK:KL r r x=[]:=by
  have:=KL_cnt r r x
  rw[hrk.2 hD]at this
  exact List.length_eq_zero_iff.1 (by omega)
 rw[hK]at k6
 have o8:=m_Mul 5 hx hy sx sy r5 (by decide)
 have hxy:=OKM_mul hx hy
 have sxy:Sm 1302 (mmul r r r x y):=Sm_mul hx.n hy.n sx sy r5
 by_cases hZ:det r (el y r)=0
 ·have k7:=e_InverseN hy (by omega) sy (by decide) (by decide) hZ
  have k8:=e_InverseN hxy (by omega) sxy (by decide) (by decide) (by rw[detL_mul,hZ,Rat.mul_zero])
  have hr0:0≠r:=fun g=>by subst g;exact absurd (show(1:Rat)=0 from hZ) (by decide)
  have o9:=m_MulS (r:=0) (c:=0) (s:=r) (t:=r) (a:=[]) (b:=B) ⟨by decide,by decide,rfl⟩ hB hr0
  clear hx hy sx sy sv hrk hB hxB hdB d1 d2 dT hT hX hxy sxy hZ hr0 sX sB sT lT lX
  generalize mmul r r r x y=XY at*
  generalize mapply r r B w=S at*
  generalize mturn r r B=TB at*
  generalize mturn r r x=TX at*
  generalize mone r=I at*
  generalize (pivL r r x).length=R at*
  generalize det r (el x r)=D at*
  generalize det r (el B r)=DB at*
  refine callV (Z:=[4,5,47]) tabOK mixedOK Tryz.func12 rfl (by kernel_rfl) rfl rfl (by kernel_rfl) rfl ?_
  intro W0 w0 ρ0 hE
  conv=>whnf
  (repeat((first|refine step_w1 rfl rfl ?_|refine step_w2 rfl rfl ?_|refine step_i (by kernel_rfl) ?_|refine step_oN (by first|omega|decide|(simp only[tl0,dlen,List.length_replicate,List.length_set,List.length_map,List.length_zipWith,List.length_take,List.length_append,List.length_cons,List.length_nil];omega)) ?_|refine g_c (by assumption) ?_|refine g_o (op_pickT rfl (ev_ok rfl) (ev_ok rfl)) ?_|refine g_o (op_pickF rfl (ev_ok rfl) (ev_ok rfl)) ?_|rw[beq_self_eq_true]|rw[bne_self_eq_false]|refine tst_ff t1 ?_|refine g_o (op_lenM rfl rfl rfl (ev_ok rfl) (tgt rfl) rfl) ?_|refine g_o (op_loadA rfl (ev_ok rfl) (tgt rfl) rfl (Nat.succ_ne_zero _) rfl) ?_|refine⟨_,op_neAgg tabOK goodOK rfl (ev_ok rfl) (ev_ok rfl) rfl rfl rfl rfl (q_same _ _) q_guard, ?_⟩|rw[t1]|rw[e2]|rw[f1]|rw[f2]|rw[f3]|rw[hl1]|rw[w1]|rw[lm]);conv=>whnf));(first|exact Recast.refl _|exact Frz.recast (Recast.refl _) rfl|(refine Frz.one rfl rfl ?_;skip)|(refine Frz.tup ?_;skip))
 ·obtain⟨Y,lY,sY,hY,k7⟩:=e_InverseS hy (by omega) sy (by decide) (by decide) hZ
  have hYo:OKM r r Y:=⟨hx.r,hx.c,lY⟩
  have dXY:det r (el (mmul r r r x y) r)≠0:=by rw[detL_mul];exact fun g=>(Rat.mul_eq_zero.1 g).elim hD hZ
  obtain⟨P,lP,sP,hP,k8⟩:=e_InverseS hxy (by omega) sxy (by decide) (by decide) dXY
  have o9:=m_Mul 5 hYo hB sY sB r5 (by decide)
  obtain rfl:P=mmul r r r Y B:=invL_unique lP (mk_len ..) hP (invL_prod hBx hY)
  have q4:=m_SameT (OKM_mul hYo hB) rfl
  clear hx hy sx sy sv hrk hB hxB hdB d1 d2 dT hT hX hxy sxy hZ sX sB sT lT lX hY hYo dXY lP sP hP sY lY
  generalize mmul r r r Y B=YB at*
  generalize mmul r r r x y=XY at*
  generalize mapply r r B w=S at*
  generalize mturn r r B=TB at*
  generalize mturn r r x=TX at*
  generalize mone r=I at*
  generalize (pivL r r x).length=R at*
  generalize det r (el x r)=D at*
  generalize det r (el B r)=DB at*
  refine callV (Z:=[4,5,47]) tabOK mixedOK Tryz.func12 rfl (by kernel_rfl) rfl rfl (by kernel_rfl) rfl ?_
  intro W0 w0 ρ0 hE
  conv=>whnf
  (repeat((first|refine step_w1 rfl rfl ?_|refine step_w2 rfl rfl ?_|refine step_i (by kernel_rfl) ?_|refine step_oN (by first|omega|decide|(simp only[tl0,dlen,List.length_replicate,List.length_set,List.length_map,List.length_zipWith,List.length_take,List.length_append,List.length_cons,List.length_nil];omega)) ?_|refine g_c (by assumption) ?_|refine g_o (op_pickT rfl (ev_ok rfl) (ev_ok rfl)) ?_|refine g_o (op_pickF rfl (ev_ok rfl) (ev_ok rfl)) ?_|rw[beq_self_eq_true]|rw[bne_self_eq_false]|refine tst_ff t1 ?_|refine g_o (op_lenM rfl rfl rfl (ev_ok rfl) (tgt rfl) rfl) ?_|refine g_o (op_loadA rfl (ev_ok rfl) (tgt rfl) rfl (Nat.succ_ne_zero _) rfl) ?_|refine⟨_,op_neAgg tabOK goodOK rfl (ev_ok rfl) (ev_ok rfl) rfl rfl rfl rfl (q_same _ _) q_guard, ?_⟩|rw[t1]|rw[e2]|rw[f1]|rw[f2]|rw[f3]|rw[hl1]|rw[w1]|rw[lm]);conv=>whnf));(first|exact Recast.refl _|exact Frz.recast (Recast.refl _) rfl|(refine Frz.one rfl rfl ?_;skip)|(refine Frz.tup ?_;skip))
theorem law_ElimsInverse (a0 a1:MM) (a2:Int) (a3:List (Int×Int)) (w0:MWf a0) (w1:MWf a1) (w2:(Lit.int .u8 a2).wf=true) (w3:QWf a3):
  CallOK Tryz.prog 12 [mQ a0,mQ a1,iel .u8 a2,mvec 2 qA a3] [] (.val (.bool true)) [] []:=c_EInverse a0 a1 a2 a3 (mOK_of w0) (mOK_of w1) (wf_u8 w2) ⟨w3.1,qOK_of w3⟩
end Go.Proofs.YtbopchpncgdaaaaGreatDoor
