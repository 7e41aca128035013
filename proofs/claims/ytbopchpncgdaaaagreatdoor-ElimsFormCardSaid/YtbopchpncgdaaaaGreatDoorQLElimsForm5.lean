/- The texts Be. -/
import Derived.Test.YtbopchpncgdaaaaGreatDoorQLElimsForm4
namespace Go.Proofs.YtbopchpncgdaaaaGreatDoor
open Go.Sx
set_option linter.unusedSimpArgs false
set_option linter.unusedVariables false
set_option maxRecDepth 100000
set_option maxHeartbeats 40000000
def sB:Nat→Nat
 |0=>130
 |t+1=>130+2*sB t
theorem sB_le {t:Nat} (h:t≤12):sB t≤1100000:=by
 have:∀t,t<13→sB t≤1100000:=by decide
 exact this t (by omega)
theorem sB_ge:∀t,2≤sB t
 |0=>by decide
 |t+1=>by rw[sB];omega
theorem c_EForm (a:MM) (rows:List Int) (by_:List (Int×Int)) (ha:mOK a) (hrows:rows.length≤maxLen∧∀x∈rows,0≤x∧x<256) (hby:by_.length≤maxLen∧∀q∈by_,qOK q):
  CallOK Tryz.prog 5 [mQ a,ivec .u8 rows,mvec 2 qA by_] [] (.val (.bool true)) [] []:=by
 have kw:=l_works14
 have kf:=c_few14L [a] (by simp) (by intro m hm;simp only[List.mem_cons,List.not_mem_nil,or_false]at hm;obtain rfl:=hm;assumption)
 cases hF:[a].all fun m=>decide (m.2.2.length≤40)
 ·rw[hF]at kf
  refine callV (Z:=[3,19]) tabOK mixedOK Tryz.func5 rfl (by kernel_rfl) rfl rfl (by kernel_rfl) rfl ?_
  intro W0 w0 ρ0 hE
  conv=>whnf
  (repeat((first|refine step_w1 rfl rfl ?_|refine step_w2 rfl rfl ?_|refine g_c (by assumption) ?_|refine g_o (op_pickT rfl (ev_ok rfl) (ev_ok rfl)) ?_|refine g_o (op_loadA rfl (ev_ok rfl) (tgt rfl) rfl (Nat.succ_ne_zero _) rfl) ?_);conv=>whnf));(first|exact Recast.refl _|exact Frz.recast (Recast.refl _) rfl|(refine Frz.one rfl rfl ?_;skip)|(refine Frz.tup ?_;skip))
 rw[hF]at kf
 by_cases hl:rows.length>24
 ·have t1:decide ((rows.length:Int)>24)=true:=decide_eq_true (by omega)
  refine callV (Z:=[3,19]) tabOK mixedOK Tryz.func5 rfl (by kernel_rfl) rfl rfl (by kernel_rfl) rfl ?_
  intro W0 w0 ρ0 hE
  conv=>whnf
  (repeat((first|refine step_w1 rfl rfl ?_|refine step_w2 rfl rfl ?_|refine g_c (by assumption) ?_|refine g_o (op_pickT rfl (ev_ok rfl) (ev_ok rfl)) ?_|refine g_o (op_pickF rfl (ev_ok rfl) (ev_ok rfl)) ?_|refine g_o (op_lenM rfl rfl rfl (ev_ok rfl) (tgt rfl) rfl) ?_|refine g_o (op_loadA rfl (ev_ok rfl) (tgt rfl) rfl (Nat.succ_ne_zero _) rfl) ?_|rw[t1]);conv=>whnf));(first|exact Recast.refl _|exact Frz.recast (Recast.refl _) rfl|(refine Frz.one rfl rfl ?_;skip)|(refine Frz.tup ?_;skip))
 have t1:decide ((rows.length:Int)>24)=false:=decide_eq_false (by omega)
 by_cases hl2:by_.length>12
 ·have t2:decide ((by_.length:Int)>12)=true:=decide_eq_true (by omega)
  refine callV (Z:=[3,19]) tabOK mixedOK Tryz.func5 rfl (by kernel_rfl) rfl rfl (by kernel_rfl) rfl ?_
  intro W0 w0 ρ0 hE
  conv=>whnf
  (repeat((first|refine step_w1 rfl rfl ?_|refine g_c (by assumption) ?_|refine g_o (op_pickF rfl (ev_ok rfl) (ev_ok rfl)) ?_|refine tst_tt t2 ?_|refine g_o (op_lenM rfl rfl rfl (ev_ok rfl) (tgt rfl) rfl) ?_|refine g_o (op_loadA rfl (ev_ok rfl) (tgt rfl) rfl (Nat.succ_ne_zero _) rfl) ?_|rw[t1]);conv=>whnf));(first|exact Recast.refl _|exact Frz.recast (Recast.refl _) rfl|(refine Frz.one rfl rfl ?_;skip)|(refine Frz.tup ?_;skip))
 have t2:decide ((by_.length:Int)>12)=false:=decide_eq_false (by omega)
 have km:=c_MOf a ha
 have n6:=side_le a.1
 have k6:=side_le a.2.1
 generalize (a.1 % 7).toNat=r at*
 generalize (a.2.1 % 7).toNat=c at*
 have hX:=OKM_some a.2.2 (r:=r) (c:=c) (by omega) (by omega)
 have sX:=Sm_some ha.2.2.2 (r*c)
 generalize someL a.2.2 (r*c)=X at*
 have k1:=e_ReduceS hX (by omega) (by omega) sX (by decide) (by decide)
 have k2:=c_reduced (RW_re r c X) (by omega) (by omega)
 replace k2:CallOK Tryz.prog 34 [mA r c (RL r c X),ivec .i64 ((pivL r c X).map ofN)] [] (.val (.bool true)) [] []:=k2
 have k3:=e_ReduceS (A:=532480) (RL_ok hX (by omega)) (by omega) (by omega) (RL_sm hX (by omega) sX (by decide)) (by decide) (by decide)
 rw[(RL_again r c X).1,(RL_again r c X).2]at k3
 have z1:=m_SameT (RL_ok hX (by omega)) rfl
 have lp:((pivL r c X).map ofN).length≤6:=by rw[List.length_map];have:=rnk_le_c r c (el X c);rw[←pivL_rnk]at this;omega
 have z2:=c_same14 ((pivL r c X).map ofN) ((pivL r c X).map ofN) (by omega) (by omega)
 rw[decide_eq_true rfl]at z2
 have hXs:X=X:=rfl
 refine callV (Z:=[3,19]) tabOK mixedOK Tryz.func5 rfl (by kernel_rfl) rfl rfl (by kernel_rfl) rfl ?_
 intro W0 w0 ρ0 hE
 conv=>whnf
 (repeat((first|refine step_w1 rfl rfl ?_|refine step_w2 rfl rfl ?_|refine g_c (by assumption) ?_|refine g_o (op_pickF rfl (ev_ok rfl) (ev_ok rfl)) ?_|rw[bne_self_eq_false]|refine tst_ff t2 ?_|refine g_o (op_lenM rfl rfl rfl (ev_ok rfl) (tgt rfl) rfl) ?_|refine g_o (op_loadA rfl (ev_ok rfl) (tgt rfl) rfl (Nat.succ_ne_zero _) rfl) ?_|rw[t1]|rw[t2]);conv=>whnf))
 refine SW_loopN hE (fun k=>k) [1,2,7,8,9,14] [7,8] (fun m fr hp=>∃(t:Nat) (a':List Rat),m=by_.length - t∧t≤by_.length∧OKM r c a'∧Sm (sB t) a'∧(∀x,Ker r c (el a' c) x↔Ker r c (el X c) x)∧
  fr=[(1,ivec .u8 rows),(2,mvec 2 qA by_),(7,.ptr 7 0 0 0),(8,.ptr 8 0 0 0),(9,ivec .i64 ((pivL r c X).map ofN)),(14,iv t)]∧hp=[(7,⟨24,true,.one (mC r c a')⟩),(8,⟨24,true,.one (mC r c (RL r c X))⟩)]) by_.length ?_ ?_ ?_
 ·kernel_rfl
 ·exact⟨0,X,rfl,Nat.zero_le _,hX,sX,fun _=>Iff.rfl,rfl,rfl⟩
 clear k1 k2 k3 km kf
 rintro m _ _ ⟨t,a',rfl,ht,ok',sm',hK,rfl,rfl⟩
 conv=>whnf
 have w1:IntKind.i64.wrap (2*(t:Int))=((2*t:Nat):Int):=by rw[wrap_i64 (by omega) (by omega)];omega
 have w2:IntKind.i64.wrap (((2*t:Nat):Int)+1)=((2*t+1:Nat):Int):=winc (by omega)
 have hs:=sB_le (t:=t) (by omega)
 by_cases h1:2*t+1<rows.length
 ·have t3:=dlt h1
  by_cases h2:t<by_.length
  ·have t4:=dlt h2
   by_cases h3:0<r
   ·have t5:decide ((r:Int)>0)=true:=decide_eq_true (by omega)
    obtain⟨p,hp,p1,p2,p3⟩:=rem_of (hrows.2 _ (getD_mem (d:=0) (show 2*t<rows.length by omega))) h3 (by omega)
    obtain⟨q,hq,q1,q2',q3⟩:=rem_of (hrows.2 _ (getD_mem (d:=0) h1)) h3 (by omega)
    have kq:=c_QOf (by_.getD t (0,0)) (qOK_at hby.2 t)
    have fq:=fs_qV (qOK_at hby.2 t)
    have w3:=winc (i:=t) (by omega)
    generalize qV (by_.getD t (0,0))=x at*
    have kc:=c_changed (x:=x) ok' sm' hp hq (by omega) (by omega) (by omega)
    have n1:=OKM_chg (i:=p) (k:=q) (x:=x) ok'
    have n2:Sm (sB (t+1)) (chgL r c a' p q x):=chgL_sm (x:=x) ok' sm' fq hp hq
    have n3:∀z,Ker r c (el (chgL r c a' p q x) c) z↔Ker r c (el X c) z:=fun z=>(chgL_ker hp hq z).trans (hK z)
    have b1:2*t<rows.length:=by omega
    clear hK sm' ok' hX sX kw z1 z2
    generalize chgL r c a' p q x=a2 at*
    (repeat((first|refine step_i (by kernel_rfl) ?_|refine step_oN (by first|omega|decide|(simp only[tl0,dlen,List.length_replicate,List.length_set,List.length_map,List.length_zipWith,List.length_take,List.length_append,List.length_cons,List.length_nil];omega)) ?_|refine g_c (by assumption) ?_|refine g_o (op_pickT rfl (ev_ok rfl) (ev_ok rfl)) ?_|refine tst_tt t3 ?_|refine tst_tt t4 ?_|refine tst_tt t5 ?_|refine g_o (op_lenM rfl rfl rfl (ev_ok rfl) (tgt rfl) rfl) ?_|refine g_o (op_loadA rfl (ev_ok rfl) (tgt rfl) rfl (Nat.succ_ne_zero _) rfl) ?_|refine g_o (op_indexM (α:=Int) (d:=0) rfl (ev_ok rfl) (ev_ok rfl) (tgt rfl) rfl (tgt rfl) rfl (by omega)) ?_|refine g_o (op_indexN (α:=Int×Int) (d:=(0,0)) rfl (ev_ok rfl) (ev_ok rfl) (tgt rfl) rfl (tgt rfl) rfl (by omega)) ?_|rw[w1]|rw[w2]|rw[t3]|rw[t4]|rw[t5]|rw[p1]|rw[p2]|rw[q1]|rw[q2']|rw[w3]|rw[Int.toNat_natCast]|rw[Nat.zero_add]);conv=>whnf))
    exact⟨by_.length - (t+1),fun k=>k,[1,2,7,8,9,14],[7,8],by omega,by kernel_rfl,t+1,a2,rfl,h2,n1,n2,n3,rfl,rfl⟩
   ·have t5:decide ((r:Int)>0)=false:=decide_eq_false (by omega)
    have k4:=e_ReduceS ok' (by omega) (by omega) sm' (sB_ge t) (by omega)
    obtain⟨h1,h2⟩:=RL_same hK
    rw[h1,h2]at k4
    clear hK sm' ok' hXs hX sX h1 h2
    generalize RL r c X=R at*
    generalize (pivL r c X).map ofN=P at*
    (repeat((first|refine step_w1 rfl rfl ?_|refine g_c (by assumption) ?_|refine g_o (op_pickT rfl (ev_ok rfl) (ev_ok rfl)) ?_|refine tst_tt t3 ?_|refine tst_tt t4 ?_|refine tst_ff t5 ?_|refine g_o (op_lenM rfl rfl rfl (ev_ok rfl) (tgt rfl) rfl) ?_|rw[w1]|rw[w2]|rw[t3]|rw[t4]);conv=>whnf));(first|exact Recast.refl _|exact Frz.recast (Recast.refl _) rfl|(refine Frz.one rfl rfl ?_;skip)|(refine Frz.tup ?_;skip))
  ·have t4:=dge h2
   have k4:=e_ReduceS ok' (by omega) (by omega) sm' (sB_ge t) (by omega)
   obtain⟨h1,h2⟩:=RL_same hK
   rw[h1,h2]at k4
   clear hK sm' ok' hXs hX sX h1 h2
   generalize RL r c X=R at*
   generalize (pivL r c X).map ofN=P at*
   (repeat((first|refine step_w1 rfl rfl ?_|refine step_w2 rfl rfl ?_|refine g_c (by assumption) ?_|refine g_o (op_pickT rfl (ev_ok rfl) (ev_ok rfl)) ?_|refine g_o (op_pickF rfl (ev_ok rfl) (ev_ok rfl)) ?_|refine tst_tt t3 ?_|refine tst_ff t4 ?_|refine g_o (op_lenM rfl rfl rfl (ev_ok rfl) (tgt rfl) rfl) ?_|rw[w1]|rw[w2]|rw[t3]|rw[t4]);conv=>whnf));(first|exact Recast.refl _|exact Frz.recast (Recast.refl _) rfl|(refine Frz.one rfl rfl ?_;skip)|(refine Frz.tup ?_;skip))
 ·have t3:=dge h1
  have k4:=e_ReduceS ok' (by omega) (by omega) sm' (sB_ge t) (by omega)
  obtain⟨h1,h2⟩:=RL_same hK
  rw[h1,h2]at k4
  clear hK sm' ok' hXs hX sX h1 h2
  generalize RL r c X=R at*
  generalize (pivL r c X).map ofN=P at*
  (repeat((first|refine step_w1 rfl rfl ?_|refine step_w2 rfl rfl ?_|refine g_c (by assumption) ?_|refine g_o (op_pickT rfl (ev_ok rfl) (ev_ok rfl)) ?_|refine g_o (op_pickF rfl (ev_ok rfl) (ev_ok rfl)) ?_|refine tst_ff t3 ?_|refine g_o (op_lenM rfl rfl rfl (ev_ok rfl) (tgt rfl) rfl) ?_|rw[w1]|rw[w2]|rw[t3]);conv=>whnf));(first|exact Recast.refl _|exact Frz.recast (Recast.refl _) rfl|(refine Frz.one rfl rfl ?_;skip)|(refine Frz.tup ?_;skip))
theorem law_ElimsForm (a0:MM) (a1:List Int) (a2:List (Int×Int)) (w0:MWf a0) (w1:a1.length≤maxLen∧∀x∈a1,(Lit.int .u8 x).wf=true) (w2:QWf a2):
  CallOK Tryz.prog 5 [mQ a0,ivec .u8 a1,mvec 2 qA a2] [] (.val (.bool true)) [] []:=c_EForm a0 a1 a2 (mOK_of w0) ⟨w1.1,fun x hx=>wf_u8 (w1.2 x hx)⟩ ⟨w2.1,qOK_of w2⟩
end Go.Proofs.YtbopchpncgdaaaaGreatDoor
