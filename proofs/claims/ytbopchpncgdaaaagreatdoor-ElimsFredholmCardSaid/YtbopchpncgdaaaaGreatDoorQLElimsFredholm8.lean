/- The texts Bf. -/
import Derived.Test.YtbopchpncgdaaaaGreatDoorQLElimsFredholm7
namespace Go.Proofs.YtbopchpncgdaaaaGreatDoor
open Go.Sx
set_option linter.unusedSimpArgs false
set_option linter.unusedVariables false
set_option maxRecDepth 100000
set_option maxHeartbeats 40000000
theorem axpy_sol {r c:Nat} {X b:List Rat} {t:Rat} {a u:List Rat} (ha:a.length=c) (hu:u.length=c) (h1:Ker r c (el X c) fun q=>a.getD q 0) (h2:Sol r c X b fun q=>u.getD q 0):Sol r c X b fun q=>(vaxpy t a u).getD q 0:=
 (Sol.add t h2 h1).ext fun q hq=>(axpy_get ha hu hq).symm
theorem c_solves {r c:Nat} {X y S:List Rat} {v:List (Int×Int)} (hX:OKM r c X) (n6:r≤6) (k6:c≤6) (sX:Sm 130 X) (ly:y.length=r) (lS:S.length=c) (sS:Sm 7000000 S) (hS:Sol r c X y fun q=>S.getD q 0) (hz:∀q,q<c→q∉pivL r c X→S.getD q 0=0) (hv:v.length≤8∧∀q∈v,qOK q):
  CallOK Tryz.prog 61 [mA r c X,fvec y,.agg [fvec S,mvec 1 fvec (KL r c X)],mvec 2 qA v] [] (.val (.bool true)) [] []:=by
 have k1:=e_KernelS hX (by omega) (by omega) sX (by decide) (by decide)
 have k2:=e_ReduceS hX (by omega) (by omega) sX (by decide) (by decide)
 have o1:=m_Apply 6 hX lS sX sS k6 (by decide)
 rw[hS.app ly]at o1
 have oz:=s_same (a:=y) (n:=r) ly ly (by omega) rfl
 have cnt:=KL_cnt r c X
 have hVl:=fun i=>KL_vlen (r:=r) (c:=c) (a:=X) (i:=i)
 have hVk:=fun i=>KL_ker (r:=r) (c:=c) (a:=X) (i:=i)
 have hVs:=fun i=>KL_sm (i:=i) hX (by omega) sX (by decide)
 have hlp:((pivL r c X).map ofN).length=(pivL r c X).length:=List.length_map _
 have hpc:(pivL r c X).length≤6:=by have:=rnk_le_c r c (el X c);rw[←pivL_rnk]at this;omega
 generalize RL r c X=RX at*
 generalize KL r c X=L at*
 generalize pivL r c X=pv at*
 have f1:((S.length:Int) != (c:Int))=false:=by rw[lS];exact bne_self_eq_false _
 have f2:((L.length:Int) != (L.length:Int))=false:=bne_self_eq_false _
 have f3:((y.length:Int) != (r:Int))=false:=by rw[ly];exact bne_self_eq_false _
 refine callV (Z:=[4,6]) tabOK mixedOK Tryz.func61 rfl (by kernel_rfl) rfl rfl (by kernel_rfl) rfl ?_
 intro W0 w0 ρ0 hE
 conv=>whnf
 (repeat((first|refine step_w1 rfl rfl ?_|refine step_w2 rfl rfl ?_|refine g_c (by assumption) ?_|refine g_o (op_pickF rfl (ev_ok rfl) (ev_ok rfl)) ?_|rw[bne_self_eq_false]|refine g_o (op_lenM rfl rfl rfl (ev_ok rfl) (tgt rfl) rfl) ?_|refine g_o (op_loadA rfl (ev_ok rfl) (tgt rfl) rfl (Nat.succ_ne_zero _) rfl) ?_|refine g_o (op_fieldA rfl (ev_ok rfl) (tgt rfl) rfl rfl (Nat.succ_ne_zero _) rfl) ?_|rw[f1]|rw[f3]);conv=>whnf))
 refine SW_loopN hE (fun k=>k) [1,3,4,6,9,13,14] [] (fun M fr hp=>∃(i:Nat) (T:List Rat),M=L.length - i∧i≤L.length∧T.length=c∧Sol r c X y (fun q=>T.getD q 0)∧Sm (7000000+i*600000) T∧
  fr=[(1,fvec y),(3,mvec 2 qA v),(4,ptrA (mC r c X)),(6,ptrA [fvec S,mvec 1 fvec L]),(9,mvec 1 fvec L),(13,fvec T),(14,iv i)]∧hp=[]) L.length ?_ ?_ ?_
 ·kernel_rfl
 ·exact⟨0,S,rfl,Nat.zero_le _,lS,hS,sS,rfl,rfl⟩
 clear o1 k1
 rintro M _ _ ⟨i,T,rfl,hi,lT,hT,sT,rfl,rfl⟩
 conv=>whnf
 by_cases hil:i<L.length
 ·have t4:=dlt hil
  have t5:=winc (i:=i) (by omega)
  have lV:=hVl i hil
  have kV:=hVk i hil
  have sV:=hVs i hil
  have hLi:i<L.length:=hil
  have ki:=c_fInt ((i+1:Nat):Int) (by omega) (by omega)
  have fi:=fs_small (i+1) (by omega)
  have hbd:130+532480+(7000000+i*600000)≤1073741824:=by omega
  clear hVl hVk hVs k2
  generalize hV:L.getD i []=V at*
  have os:=s_same (a:=V) (n:=c) lV lV (by omega) rfl
  by_cases hiv:i<v.length
  ·have t8:=dlt hiv
   have kq:=c_QOf (v.getD i (0,0)) (qOK_at hv.2 i)
   have fq:=fs_qV (qOK_at hv.2 i)
   generalize qV (v.getD i (0,0))=w at*
   have kx:=v_Axpy w V T (lV.trans lT.symm) (by omega) (axpy_fit lV lT fq sV sT hbd)
   have n1:=axpy_len (t:=w) lV lT
   have n2:=axpy_sol (t:=w) lV lT kV hT
   have n3:=axpy_sm lV lT fq sV sT
   clear kV sV sT hT hS hz sS
   (repeat((first|refine step_w2 rfl rfl ?_|refine step_i (by kernel_rfl) ?_|refine g_c (by assumption) ?_|refine tst_tt t4 ?_|refine tst_tt t8 ?_|refine g_o (op_lenM rfl rfl rfl (ev_ok rfl) (tgt rfl) rfl) ?_|refine g_o (op_loadA rfl (ev_ok rfl) (tgt rfl) rfl (Nat.succ_ne_zero _) rfl) ?_|refine g_o (op_indexN (α:=Int×Int) (d:=(0,0)) rfl (ev_ok rfl) (ev_ok rfl) (tgt rfl) rfl (tgt rfl) rfl (by omega)) ?_|refine g_o (op_indexN (α:=List Rat) (d:=[]) rfl (ev_ok rfl) (ev_ok rfl) (tgt rfl) rfl (tgt rfl) rfl (by omega)) ?_|refine g_o (op_fieldA rfl (ev_ok rfl) (tgt rfl) rfl rfl (Nat.succ_ne_zero _) rfl) ?_|rw[t4]|rw[t5]|rw[t8]|rw[hV]);conv=>whnf))
   exact⟨L.length - (i+1),fun k=>k,[1,3,4,6,9,13,14],[],by omega,by kernel_rfl,i+1,_,rfl,hil,n1,n2,Sm_le (by rw[Nat.succ_mul];omega) n3,rfl,rfl⟩
  ·have t8:=dge hiv
   have kx:=v_Axpy (((i+1:Nat):Int):Rat) V T (lV.trans lT.symm) (by omega) (axpy_fit lV lT fi sV sT hbd)
   have n1:=axpy_len (t:=(((i+1:Nat):Int):Rat)) lV lT
   have n2:=axpy_sol (t:=(((i+1:Nat):Int):Rat)) lV lT kV hT
   have n3:=axpy_sm lV lT fi sV sT
   clear kV sV sT hT hS hz sS
   (repeat((first|refine step_w2 rfl rfl ?_|refine step_i (by kernel_rfl) ?_|refine g_c (by assumption) ?_|refine tst_tt t4 ?_|refine tst_ff t8 ?_|refine g_o (op_lenM rfl rfl rfl (ev_ok rfl) (tgt rfl) rfl) ?_|refine g_o (op_loadA rfl (ev_ok rfl) (tgt rfl) rfl (Nat.succ_ne_zero _) rfl) ?_|refine g_o (op_indexN (α:=List Rat) (d:=[]) rfl (ev_ok rfl) (ev_ok rfl) (tgt rfl) rfl (tgt rfl) rfl (by omega)) ?_|refine g_o (op_fieldA rfl (ev_ok rfl) (tgt rfl) rfl rfl (Nat.succ_ne_zero _) rfl) ?_|rw[t4]|rw[t5]|rw[t8]|rw[hV]);conv=>whnf))
   exact⟨L.length - (i+1),fun k=>k,[1,3,4,6,9,13,14],[],by omega,by kernel_rfl,i+1,_,rfl,hil,n1,n2,Sm_le (by rw[Nat.succ_mul];omega) n3,rfl,rfl⟩
 ·have t4:=dge hil
  have ox:=m_Apply 6 hX lT sX sT k6 (by omega)
  rw[hT.app ly]at ox
  clear hVl hVk hVs hT sT sX
  (repeat((first|refine g_c (by assumption) ?_|refine tst_ff t4 ?_|refine g_o (op_lenM rfl rfl rfl (ev_ok rfl) (tgt rfl) rfl) ?_|refine g_o (op_loadA rfl (ev_ok rfl) (tgt rfl) rfl (Nat.succ_ne_zero _) rfl) ?_|rw[t4]);conv=>whnf))
  refine SW_loopN hE (fun k=>k) [1,4,6,13,17,19] [] (fun M fr hp=>∃k:Nat,M=c - k∧k≤c∧fr=[(1,fvec y),(4,ptrA (mC r c X)),(6,ptrA [fvec S,mvec 1 fvec L]),(13,fvec T),(17,ivec .i64 (pv.map ofN)),(19,iv k)]∧hp=[]) c ?_ ?_ ?_
  ·kernel_rfl
  ·exact⟨0,rfl,Nat.zero_le _,rfl,rfl⟩
  rintro M _ _ ⟨k,rfl,hk,rfl,rfl⟩
  conv=>whnf
  by_cases hlt:k<c
  ·have t2:=dlt hlt
   have t9:=winc (i:=k) (by omega)
   have hSk:k<S.length:=by omega
   clear ox oz k2
   (repeat((first|refine tst_tt t2 ?_|refine g_o (op_loadA rfl (ev_ok rfl) (tgt rfl) rfl (Nat.succ_ne_zero _) rfl) ?_|refine g_o (op_fieldA rfl (ev_ok rfl) (tgt rfl) rfl rfl (Nat.succ_ne_zero _) rfl) ?_|rw[t2]);conv=>whnf))
   refine SW_loopN hE (fun k=>k) [1,4,6,13,17,19,20,21] [] (fun M fr hp=>∃(u:Nat) (al:Bool),M=pv.length - u∧u≤pv.length∧al=decide (k∈pv.take u)∧
    fr=[(1,fvec y),(4,ptrA (mC r c X)),(6,ptrA [fvec S,mvec 1 fvec L]),(13,fvec T),(17,ivec .i64 (pv.map ofN)),(19,iv k),(20,.val (.bool al)),(21,iv u)]∧hp=[]) pv.length ?_ ?_ ?_
   ·kernel_rfl
   ·exact⟨0,false,rfl,Nat.zero_le _,by simp,rfl,rfl⟩
   rintro M _ _ ⟨u,al,rfl,hu,hal,rfl,rfl⟩
   conv=>whnf
   by_cases hul:u<pv.length
   ·have s3:=dlt (show u<(pv.map ofN).length by omega)
    have s4:=winc (i:=u) (by omega)
    have g1:=pv_get hul
    have hmt:=mem_takeN (k:=k) hul
    cases al
    ·have hno:k∉pv.take u:=fun h=>by rw[decide_eq_true h]at hal;cases hal
     generalize pv.getD u 0=y at*
     by_cases hyk:y=k
     ·have s5:((y:Int)==(k:Int))=true:=by rw[hyk];exact beq_self_eq_true _
      (repeat((first|refine step_w1 rfl rfl ?_|refine g_o (op_pickF rfl (ev_ok rfl) (ev_ok rfl)) ?_|refine tst_tt s3 ?_|refine g_o (op_lenM rfl rfl rfl (ev_ok rfl) (tgt rfl) rfl) ?_|refine g_o (op_loadA rfl (ev_ok rfl) (tgt rfl) rfl (Nat.succ_ne_zero _) rfl) ?_|refine g_o (op_indexN (α:=Int) (d:=0) rfl (ev_ok rfl) (ev_ok rfl) (tgt rfl) rfl (tgt rfl) rfl (by omega)) ?_|rw[s3]|rw[g1]|rw[s5]|rw[s4]);conv=>whnf))
      exact⟨pv.length - (u+1),fun k=>k,[1,4,6,13,17,19,20,21],[],by omega,by kernel_rfl,u+1,true,rfl,hul,(decide_eq_true (hmt.2 (.inr hyk))).symm,rfl,rfl⟩
     ·have s5:((y:Int)==(k:Int))=false:=beq_eq_false_iff_ne.2 (by omega)
      (repeat((first|refine step_w1 rfl rfl ?_|refine g_o (op_pickF rfl (ev_ok rfl) (ev_ok rfl)) ?_|refine tst_tt s3 ?_|refine g_o (op_lenM rfl rfl rfl (ev_ok rfl) (tgt rfl) rfl) ?_|refine g_o (op_loadA rfl (ev_ok rfl) (tgt rfl) rfl (Nat.succ_ne_zero _) rfl) ?_|refine g_o (op_indexN (α:=Int) (d:=0) rfl (ev_ok rfl) (ev_ok rfl) (tgt rfl) rfl (tgt rfl) rfl (by omega)) ?_|rw[s3]|rw[g1]|rw[s5]|rw[s4]);conv=>whnf))
      exact⟨pv.length - (u+1),fun k=>k,[1,4,6,13,17,19,20,21],[],by omega,by kernel_rfl,u+1,false,rfl,hul,(decide_eq_false fun h=>(hmt.1 h).elim hno hyk).symm,rfl,rfl⟩
    ·have hyes:k∈pv.take u:=of_decide_eq_true hal.symm
     (repeat((first|refine step_w2 rfl rfl ?_|refine g_o (op_pickT rfl (ev_ok rfl) (ev_ok rfl)) ?_|refine tst_tt s3 ?_|refine g_o (op_lenM rfl rfl rfl (ev_ok rfl) (tgt rfl) rfl) ?_|rw[s3]|rw[s4]);conv=>whnf))
     exact⟨pv.length - (u+1),fun k=>k,[1,4,6,13,17,19,20,21],[],by omega,by kernel_rfl,u+1,true,rfl,hul,(decide_eq_true (hmt.2 (.inl hyes))).symm,rfl,rfl⟩
   ·have t3:=dge (show ¬u<(pv.map ofN).length by omega)
    rw[List.take_of_length_le (by omega)]at hal
    by_cases hkp:k∈pv
    ·rw[decide_eq_true hkp]at hal
     subst hal
     (repeat((first|refine step_w2 rfl rfl ?_|refine g_o (op_pickF rfl (ev_ok rfl) (ev_ok rfl)) ?_|refine tst_ff t3 ?_|refine g_o (op_lenM rfl rfl rfl (ev_ok rfl) (tgt rfl) rfl) ?_|rw[t3]|rw[t9]);conv=>whnf))
     exact⟨c - (k+1),fun k=>k,[1,4,6,13,17,19],[],by omega,by kernel_rfl,k+1,rfl,hlt,rfl,rfl⟩
    ·rw[decide_eq_false hkp]at hal
     subst hal
     have hz0:=hz k hlt hkp
     (repeat((first|refine step_w1 rfl rfl ?_|refine step_w2 rfl rfl ?_|refine g_o (op_pickT rfl (ev_ok rfl) (ev_ok rfl)) ?_|refine tst_ff t3 ?_|refine g_o (op_lenM rfl rfl rfl (ev_ok rfl) (tgt rfl) rfl) ?_|refine g_o (op_indexN (α:=Rat) (d:=0) rfl (ev_ok rfl) (ev_ok rfl) (tgt rfl) rfl (tgt rfl) rfl (by omega)) ?_|refine g_o (op_loadA rfl (ev_ok rfl) (tgt rfl) rfl (Nat.succ_ne_zero _) rfl) ?_|refine g_o (op_fieldA rfl (ev_ok rfl) (tgt rfl) rfl rfl (Nat.succ_ne_zero _) rfl) ?_|refine⟨_,op_neAgg tabOK goodOK rfl (ev_ok rfl) (ev_ok rfl) rfl rfl rfl rfl (q_eq (hz0)) q_guard, ?_⟩|rw[t3]|rw[t9]);conv=>whnf))
     exact⟨c - (k+1),fun k=>k,[1,4,6,13,17,19],[],by omega,by kernel_rfl,k+1,rfl,hlt,rfl,rfl⟩
  ·have t2:=dge hlt
   (repeat((first|refine step_w1 rfl rfl ?_|refine g_c (by assumption) ?_|refine g_o (op_pickT rfl (ev_ok rfl) (ev_ok rfl)) ?_|refine tst_ff t2 ?_|refine g_o (op_loadA rfl (ev_ok rfl) (tgt rfl) rfl (Nat.succ_ne_zero _) rfl) ?_|refine g_o (op_fieldA rfl (ev_ok rfl) (tgt rfl) rfl rfl (Nat.succ_ne_zero _) rfl) ?_);conv=>whnf));(first|exact Recast.refl _|exact Frz.recast (Recast.refl _) rfl|(refine Frz.one rfl rfl ?_;skip)|(refine Frz.tup ?_;skip))
theorem c_EFredholm (a:MM) (b v c0:List (Int×Int)) (ha:mOK a) (hb:b.length≤maxLen∧∀q∈b,qOK q) (hv:v.length≤maxLen∧∀q∈v,qOK q) (hc:c0.length≤maxLen∧∀q∈c0,qOK q):
  CallOK Tryz.prog 10 [mQ a,mvec 2 qA b,mvec 2 qA v,mvec 2 qA c0] [] (.val (.bool true)) [] []:=by
 have kw:=l_works14
 have kf:=c_few14L [a] (by simp) (by intro m hm;simp only[List.mem_cons,List.not_mem_nil,or_false]at hm;obtain rfl:=hm;assumption)
 cases hF:[a].all fun m=>decide (m.2.2.length≤40)
 ·rw[hF]at kf
  refine callV (Z:=[4,37]) tabOK mixedOK Tryz.func10 rfl (by kernel_rfl) rfl rfl (by kernel_rfl) rfl ?_
  intro W0 w0 ρ0 hE
  conv=>whnf
  (repeat((first|refine step_w1 rfl rfl ?_|refine step_w2 rfl rfl ?_|refine g_c (by assumption) ?_|refine g_o (op_pickT rfl (ev_ok rfl) (ev_ok rfl)) ?_|refine g_o (op_loadA rfl (ev_ok rfl) (tgt rfl) rfl (Nat.succ_ne_zero _) rfl) ?_);conv=>whnf));(first|exact Recast.refl _|exact Frz.recast (Recast.refl _) rfl|(refine Frz.one rfl rfl ?_;skip)|(refine Frz.tup ?_;skip))
 rw[hF]at kf
 by_cases hl:b.length>20
 ·have t1:decide ((b.length:Int)>20)=true:=decide_eq_true (by omega)
  refine callV (Z:=[4,37]) tabOK mixedOK Tryz.func10 rfl (by kernel_rfl) rfl rfl (by kernel_rfl) rfl ?_
  intro W0 w0 ρ0 hE
  conv=>whnf
  (repeat((first|refine step_w1 rfl rfl ?_|refine step_w2 rfl rfl ?_|refine g_c (by assumption) ?_|refine g_o (op_pickT rfl (ev_ok rfl) (ev_ok rfl)) ?_|refine g_o (op_pickF rfl (ev_ok rfl) (ev_ok rfl)) ?_|refine g_o (op_lenM rfl rfl rfl (ev_ok rfl) (tgt rfl) rfl) ?_|refine g_o (op_loadA rfl (ev_ok rfl) (tgt rfl) rfl (Nat.succ_ne_zero _) rfl) ?_|rw[t1]);conv=>whnf));(first|exact Recast.refl _|exact Frz.recast (Recast.refl _) rfl|(refine Frz.one rfl rfl ?_;skip)|(refine Frz.tup ?_;skip))
 have p1:decide ((b.length:Int)>20)=false:=decide_eq_false (by omega)
 by_cases hl2:v.length>20
 ·have t1:decide ((v.length:Int)>20)=true:=decide_eq_true (by omega)
  refine callV (Z:=[4,37]) tabOK mixedOK Tryz.func10 rfl (by kernel_rfl) rfl rfl (by kernel_rfl) rfl ?_
  intro W0 w0 ρ0 hE
  conv=>whnf
  (repeat((first|refine step_w1 rfl rfl ?_|refine step_w2 rfl rfl ?_|refine g_c (by assumption) ?_|refine g_o (op_pickT rfl (ev_ok rfl) (ev_ok rfl)) ?_|refine g_o (op_pickF rfl (ev_ok rfl) (ev_ok rfl)) ?_|refine g_o (op_lenM rfl rfl rfl (ev_ok rfl) (tgt rfl) rfl) ?_|refine g_o (op_loadA rfl (ev_ok rfl) (tgt rfl) rfl (Nat.succ_ne_zero _) rfl) ?_|rw[p1]|rw[t1]);conv=>whnf));(first|exact Recast.refl _|exact Frz.recast (Recast.refl _) rfl|(refine Frz.one rfl rfl ?_;skip)|(refine Frz.tup ?_;skip))
 have p2:decide ((v.length:Int)>20)=false:=decide_eq_false (by omega)
 by_cases hl3:c0.length>8
 ·have t1:decide ((c0.length:Int)>8)=true:=decide_eq_true (by omega)
  refine callV (Z:=[4,37]) tabOK mixedOK Tryz.func10 rfl (by kernel_rfl) rfl rfl (by kernel_rfl) rfl ?_
  intro W0 w0 ρ0 hE
  conv=>whnf
  (repeat((first|refine step_w1 rfl rfl ?_|refine g_c (by assumption) ?_|refine g_o (op_pickF rfl (ev_ok rfl) (ev_ok rfl)) ?_|refine tst_tt t1 ?_|refine g_o (op_lenM rfl rfl rfl (ev_ok rfl) (tgt rfl) rfl) ?_|refine g_o (op_loadA rfl (ev_ok rfl) (tgt rfl) rfl (Nat.succ_ne_zero _) rfl) ?_|rw[p1]|rw[p2]);conv=>whnf));(first|exact Recast.refl _|exact Frz.recast (Recast.refl _) rfl|(refine Frz.one rfl rfl ?_;skip)|(refine Frz.tup ?_;skip))
 have p3:decide ((c0.length:Int)>8)=false:=decide_eq_false (by omega)
 have km:=c_MOf a ha
 have n6:=side_le a.1
 have k6:=side_le a.2.1
 generalize (a.1 % 7).toNat=r at*
 generalize (a.2.1 % 7).toNat=c at*
 have hX:=OKM_some a.2.2 (r:=r) (c:=c) (by omega) (by omega)
 have sX:=Sm_some ha.2.2.2 (r*c)
 generalize someL a.2.2 (r*c)=X at*
 have v1:=c_vec14 b hb.1 hb.2 (n:=r) (by omega)
 have v2:=c_vec14 v hv.1 hv.2 (n:=c) (by omega)
 have ly:=someL_len b r
 have lx:=someL_len v c
 have sy:=Sm_some hb.2 r
 have sx:=Sm_some hv.2 c
 generalize someL b r=y at*
 generalize someL v c=x at*
 have o1:=m_Apply 6 hX lx sX sx k6 (by decide)
 have sM:Sm 1562 (mapply r c X x):=Sm_apply hX.n lx sX sx k6
 have lM:(mapply r c X x).length=r:=mapply_len
 have hsol:Sol r c X (mapply r c X x) fun q=>x.getD q 0:=Sol.of
 obtain⟨T,lT,sT,hT,zT,k2⟩:=e_SolveS hX (by omega) (by omega) (Sm_le (by decide) sX) (by decide) (by decide) lM sM ⟨_,hsol⟩
 replace sT:Sm 7000000 T:=Sm_le (by decide) sT
 have k3:=c_solves hX n6 k6 sX lM lT sT hT zT ⟨by omega,hc.2⟩
 have k4:=e_ReduceS hX (by omega) (by omega) sX (by decide) (by decide)
 have hU0:Upto r c X (mapply r c X x) x 0 T:=⟨lT,hT,fun q hq hn=>by rw[if_neg (Nat.not_lt_zero q)];exact zT q hq hn⟩
 have hskip:=fun k U (h:Upto r c X (mapply r c X x) x k U)=>h.skip
 have hstep:=fun k U w (h:Upto r c X (mapply r c X x) x k U)=>h.step (w:=w)
 have hdone:=fun k U (h:Upto r c X (mapply r c X x) x k U)=>h.done lx hsol
 have lfr:=KL_len r c X
 have cnt:=KL_cnt r c X
 have hVl:=fun i=>KL_vlen (r:=r) (c:=c) (a:=X) (i:=i)
 have hVs:=fun i=>KL_sm (i:=i) hX (by omega) sX (by decide)
 have hlp:((pivL r c X).map ofN).length=(pivL r c X).length:=List.length_map _
 have hpc:(pivL r c X).length≤6:=by have:=rnk_le_c r c (el X c);rw[←pivL_rnk]at this;omega
 by_cases hs:∃z,Sol r c X y z
 ·obtain⟨S,lS,sS,hS,zS,k5⟩:=e_SolveS hX (by omega) (by omega) sX (by decide) (by decide) ly sy hs
  have k6':=e_AgainstN hX ly (by omega) (by omega) sX sy (by decide) (by decide) hs
  have k7:=c_solves hX n6 k6 sX ly lS (Sm_le (by decide) sS) hS zS ⟨by omega,hc.2⟩
  clear lS sS hS zS hs hT zT sX sy
  generalize RL r c X=RX at*
  generalize KL r c X=L at*
  generalize pivL r c X=pv at*
  generalize mapply r c X x=MD at*
  refine callV (Z:=[4,37]) tabOK mixedOK Tryz.func10 rfl (by kernel_rfl) rfl rfl (by kernel_rfl) rfl ?_
  intro W0 w0 ρ0 hE
  conv=>whnf
  (repeat((first|refine step_w1 rfl rfl ?_|refine step_w2 rfl rfl ?_|refine g_c (by assumption) ?_|refine g_o (op_pickT rfl (ev_ok rfl) (ev_ok rfl)) ?_|refine g_o (op_pickF rfl (ev_ok rfl) (ev_ok rfl)) ?_|rw[beq_self_eq_true]|rw[bne_self_eq_false]|refine tst_ff p3 ?_|refine g_o (op_lenM rfl rfl rfl (ev_ok rfl) (tgt rfl) rfl) ?_|refine g_o (op_loadA rfl (ev_ok rfl) (tgt rfl) rfl (Nat.succ_ne_zero _) rfl) ?_|rw[p1]|rw[p2]|rw[p3]|rw[Nat.zero_add]);conv=>whnf))
  refine SW_loopN hE (fun k=>k) [9,23,26,29,31,32,33] [9,26] (fun M fr hp=>∃(k:Nat) (U:List Rat),M=c - k∧k≤c∧Upto r c X MD x k U∧Sm (7000000+k*700000) U∧
   fr=[(9,.ptr 9 0 0 0),(23,fvec x),(26,.ptr 26 0 0 0),(29,ivec .i64 (pv.map ofN)),(31,fvec U),(32,iv (freeF pv k).length),(33,iv k)]∧hp=[(9,⟨24,true,.one (mC r c X)⟩),(26,⟨38,true,.one [fvec T,mvec 1 fvec L]⟩)]) c ?_ ?_ ?_
  ·kernel_rfl
  ·exact⟨0,T,rfl,Nat.zero_le _,hU0,sT,rfl,rfl⟩
  clear k2 k3 k4 k5 k6' k7 o1 v1 v2 km kf sM lM hX hU0
  rintro M _ _ ⟨k,U,rfl,hk,hU,sU,rfl,rfl⟩
  conv=>whnf
  have lU:=hU.len
  have hfl:=freeF_len pv k
  by_cases hkc:k<c
  ·have t2:=dlt hkc
   have t9:=winc (i:=k) (by omega)
   by_cases hat:(freeF pv k).length<L.length
   ·have t6:=dlt hat
    have w6:=winc (i:=(freeF pv k).length) (by omega)
    clear kw
    (repeat((first|refine g_o (op_pickT rfl (ev_ok rfl) (ev_ok rfl)) ?_|refine tst_tt t2 ?_|refine tst_tt t6 ?_|refine g_o (op_lenM rfl rfl rfl (ev_ok rfl) (tgt rfl) rfl) ?_|rw[t2]|rw[t6]|rw[Nat.zero_add]);conv=>whnf))
    refine SW_loopN hE (fun k=>k) [9,23,26,29,31,32,33,34,35] [9,26] (fun M fr hp=>∃(u:Nat) (al:Bool),M=pv.length - u∧u≤pv.length∧al=decide (k∈pv.take u)∧
     fr=[(9,.ptr 9 0 0 0),(23,fvec x),(26,.ptr 26 0 0 0),(29,ivec .i64 (pv.map ofN)),(31,fvec U),(32,iv (freeF pv k).length),(33,iv k),(34,.val (.bool al)),(35,iv u)]∧hp=[(9,⟨24,true,.one (mC r c X)⟩),(26,⟨38,true,.one [fvec T,mvec 1 fvec L]⟩)]) pv.length ?_ ?_ ?_
    ·kernel_rfl
    ·exact⟨0,false,rfl,Nat.zero_le _,by simp,rfl,rfl⟩
    rintro M _ _ ⟨u,al,rfl,hu,hal,rfl,rfl⟩
    conv=>whnf
    by_cases hul:u<pv.length
    ·have s3:=dlt (show u<(pv.map ofN).length by omega)
     have s4:=winc (i:=u) (by omega)
     have g1:=pv_get hul
     have hmt:=mem_takeN (k:=k) hul
     cases al
     ·have hno:k∉pv.take u:=fun h=>by rw[decide_eq_true h]at hal;cases hal
      generalize pv.getD u 0=y at*
      by_cases hyk:y=k
      ·have s5:((y:Int)==(k:Int))=true:=by rw[hyk];exact beq_self_eq_true _
       (repeat((first|refine step_w1 rfl rfl ?_|refine g_o (op_pickF rfl (ev_ok rfl) (ev_ok rfl)) ?_|refine tst_tt s3 ?_|refine g_o (op_lenM rfl rfl rfl (ev_ok rfl) (tgt rfl) rfl) ?_|refine g_o (op_loadA rfl (ev_ok rfl) (tgt rfl) rfl (Nat.succ_ne_zero _) rfl) ?_|refine g_o (op_indexN (α:=Int) (d:=0) rfl (ev_ok rfl) (ev_ok rfl) (tgt rfl) rfl (tgt rfl) rfl (by omega)) ?_|rw[s3]|rw[g1]|rw[s5]|rw[s4]);conv=>whnf))
       exact⟨pv.length - (u+1),fun k=>k,[9,23,26,29,31,32,33,34,35],[9,26],by omega,by kernel_rfl,u+1,true,rfl,hul,(decide_eq_true (hmt.2 (.inr hyk))).symm,rfl,rfl⟩
      ·have s5:((y:Int)==(k:Int))=false:=beq_eq_false_iff_ne.2 (by omega)
       (repeat((first|refine step_w1 rfl rfl ?_|refine g_o (op_pickF rfl (ev_ok rfl) (ev_ok rfl)) ?_|refine tst_tt s3 ?_|refine g_o (op_lenM rfl rfl rfl (ev_ok rfl) (tgt rfl) rfl) ?_|refine g_o (op_loadA rfl (ev_ok rfl) (tgt rfl) rfl (Nat.succ_ne_zero _) rfl) ?_|refine g_o (op_indexN (α:=Int) (d:=0) rfl (ev_ok rfl) (ev_ok rfl) (tgt rfl) rfl (tgt rfl) rfl (by omega)) ?_|rw[s3]|rw[g1]|rw[s5]|rw[s4]);conv=>whnf))
       exact⟨pv.length - (u+1),fun k=>k,[9,23,26,29,31,32,33,34,35],[9,26],by omega,by kernel_rfl,u+1,false,rfl,hul,(decide_eq_false fun h=>(hmt.1 h).elim hno hyk).symm,rfl,rfl⟩
     ·have hyes:k∈pv.take u:=of_decide_eq_true hal.symm
      (repeat((first|refine step_w2 rfl rfl ?_|refine g_o (op_pickT rfl (ev_ok rfl) (ev_ok rfl)) ?_|refine tst_tt s3 ?_|refine g_o (op_lenM rfl rfl rfl (ev_ok rfl) (tgt rfl) rfl) ?_|rw[s3]|rw[s4]);conv=>whnf))
      exact⟨pv.length - (u+1),fun k=>k,[9,23,26,29,31,32,33,34,35],[9,26],by omega,by kernel_rfl,u+1,true,rfl,hul,(decide_eq_true (hmt.2 (.inl hyes))).symm,rfl,rfl⟩
    ·have t3:=dge (show ¬u<(pv.map ofN).length by omega)
     rw[List.take_of_length_le (by omega)]at hal
     by_cases hkp:k∈pv
     ·rw[decide_eq_true hkp]at hal
      subst hal
      have e2:(freeF pv (k+1)).length=(freeF pv k).length:=by rw[freeF_succ,if_pos hkp,List.append_nil]
      have n1:=hskip k U hU hkp
      (repeat((first|refine step_w2 rfl rfl ?_|refine tst_ff t3 ?_|refine g_o (op_lenM rfl rfl rfl (ev_ok rfl) (tgt rfl) rfl) ?_|rw[t3]|rw[t9]);conv=>whnf))
      exact⟨c - (k+1),fun k=>k,[9,23,26,29,31,32,33],[9,26],by omega,by kernel_rfl,k+1,U,rfl,hkc,n1,Sm_le (by rw[Nat.succ_mul];omega) sU,by rw[e2];rfl,rfl⟩
     ·rw[decide_eq_false hkp]at hal
      subst hal
      have e2:(freeF pv (k+1)).length=(freeF pv k).length+1:=by rw[freeF_succ,if_neg hkp,List.length_append];rfl
      have lV:=hVl _ hat
      have sV:=hVs _ hat
      have fx:=sx k (by omega)
      have n1:=hstep k U (vaxpy (x.getD k 0) (L.getD (freeF pv k).length []) U) hU hkc hkp (axpy_len lV lU) (fun q hq=>axpy_get lV lU hq)
      have n3:=axpy_sm lV lU fx sV sU
      have kx:=v_Axpy (x.getD k 0) (L.getD (freeF pv k).length []) U (lV.trans lU.symm) (by omega) (axpy_fit lV lU fx sV sU (M:=1073741824) (by omega))
      have hxk:k<x.length:=by omega
      clear hU sU sV lV hVl hVs hskip hstep hdone
      (repeat((first|refine step_w1 rfl rfl ?_|refine step_i (by kernel_rfl) ?_|refine g_c (by assumption) ?_|refine tst_ff t3 ?_|refine g_o (op_lenM rfl rfl rfl (ev_ok rfl) (tgt rfl) rfl) ?_|refine g_o (op_indexN (α:=Rat) (d:=0) rfl (ev_ok rfl) (ev_ok rfl) (tgt rfl) rfl (tgt rfl) rfl (by omega)) ?_|refine g_o (op_loadA rfl (ev_ok rfl) (tgt rfl) rfl (Nat.succ_ne_zero _) rfl) ?_|refine g_o (op_indexN (α:=List Rat) (d:=[]) rfl (ev_ok rfl) (ev_ok rfl) (tgt rfl) rfl (tgt rfl) rfl (by omega)) ?_|rw[t3]|rw[t9]|rw[w6]|rw[Nat.zero_add]);conv=>whnf))
      exact⟨c - (k+1),fun k=>k,[9,23,26,29,31,32,33],[9,26],by omega,by kernel_rfl,k+1,_,rfl,hkc,n1,Sm_le (by rw[Nat.succ_mul];omega) n3,by rw[e2];rfl,rfl⟩
   ·have t6:=dge hat
    obtain rfl:=hdone k U hU hk (by omega)
    have e0:(freeF pv k).length=L.length:=by
     have:=free_mono (sp:=pv) c hk
     omega
    have t7:(((freeF pv k).length:Int)==(L.length:Int))=true:=by rw[e0];exact beq_self_eq_true _
    have t8:((U.length:Int)==(c:Int))=true:=by rw[lU];exact beq_self_eq_true _
    have oz:=s_same (a:=U) (n:=c) lU lU (by omega) rfl
    clear hU sU hVl hVs hskip hstep hdone
    (repeat((first|refine step_w1 rfl rfl ?_|refine g_c (by assumption) ?_|refine g_o (op_pickT rfl (ev_ok rfl) (ev_ok rfl)) ?_|refine tst_tt t2 ?_|refine tst_ff t6 ?_|refine tst_tt t7 ?_|refine tst_tt t8 ?_|refine g_o (op_lenM rfl rfl rfl (ev_ok rfl) (tgt rfl) rfl) ?_|rw[t2]|rw[t6]|rw[t7]|rw[t8]);conv=>whnf));(first|exact Recast.refl _|exact Frz.recast (Recast.refl _) rfl|(refine Frz.one rfl rfl ?_;skip)|(refine Frz.tup ?_;skip))
  ·have t2:=dge hkc
   obtain rfl:k=c:=by omega
   obtain rfl:=hdone k U hU hk (by omega)
   have t7:(((freeF pv k).length:Int)==(L.length:Int))=true:=by rw[lfr];exact beq_self_eq_true _
   have t8:((U.length:Int)==(k:Int))=true:=by rw[lU];exact beq_self_eq_true _
   have oz:=s_same (a:=U) (n:=k) lU lU (by omega) rfl
   clear hU sU hVl hVs hskip hstep hdone
   (repeat((first|refine step_w1 rfl rfl ?_|refine step_w2 rfl rfl ?_|refine g_c (by assumption) ?_|refine g_o (op_pickT rfl (ev_ok rfl) (ev_ok rfl)) ?_|refine g_o (op_pickF rfl (ev_ok rfl) (ev_ok rfl)) ?_|refine tst_ff t2 ?_|refine tst_tt t7 ?_|refine tst_tt t8 ?_|refine g_o (op_lenM rfl rfl rfl (ev_ok rfl) (tgt rfl) rfl) ?_|rw[t2]|rw[t7]|rw[t8]);conv=>whnf));(first|exact Recast.refl _|exact Frz.recast (Recast.refl _) rfl|(refine Frz.one rfl rfl ?_;skip)|(refine Frz.tup ?_;skip))
 ·have k5:=e_SolveN hX (by omega) (by omega) sX (by decide) (by decide) ly sy hs
  obtain⟨Y,lY,sY,h1,h2,k6'⟩:=e_AgainstS hX ly (by omega) (by omega) sX sy (by decide) (by decide) hs
  have hlY:decide ((Y.length:Int)>0)=true∨True:=.inr trivial
  have o2:=m_Turn hX
  have o3:=m_Apply 6 (OKM_turn hX) lY (Sm_turn hX.n sX) sY n6 (by decide)
  have e1:mapply c r (mturn r c X) Y=List.replicate c 0:=apply_zero fun i hi=>(sum_congr r fun q hq=>by rw[turn_el hi hq]).trans (h1 i hi)
  rw[e1]at o3
  have o4:=v_Zero c (by omega)
  have oz0:=s_same (a:=List.replicate c (0:Rat)) (n:=c) (by simp) (by simp) (by omega) rfl
  have hs2:fsL (vmul Y y)≤_:=fsL_Sm (Sm_zip fs_mul sY sy (lY.trans ly.symm))
  rw[zip_len lY ly]at hs2
  have hs3:=Nat.mul_le_mul_right (8192*130+130) n6
  have o5:=v_Dot Y y (lY.trans ly.symm) (by omega) (Fit_Sm sY sy (lY.trans ly.symm) (by decide)) (by omega)
  rw[vdot_sum lY ly,h2]at o5
  have ki:CallOK Tryz.prog 41 [iv 1] [] (.frac 1) [] []:=c_fInt 1 (by decide) (by decide)
  clear hs hT zT sX sy sY h1 h2 e1 hs2 hs3 hlY
  generalize RL r c X=RX at*
  generalize KL r c X=L at*
  generalize pivL r c X=pv at*
  generalize mapply r c X x=MD at*
  generalize mturn r c X=TX at*
  refine callV (Z:=[4,37]) tabOK mixedOK Tryz.func10 rfl (by kernel_rfl) rfl rfl (by kernel_rfl) rfl ?_
  intro W0 w0 ρ0 hE
  conv=>whnf
  (repeat((first|refine step_w1 rfl rfl ?_|refine step_w2 rfl rfl ?_|refine step_i (by kernel_rfl) ?_|refine g_c (by assumption) ?_|refine g_o (op_pickT rfl (ev_ok rfl) (ev_ok rfl)) ?_|refine g_o (op_pickF rfl (ev_ok rfl) (ev_ok rfl)) ?_|rw[beq_self_eq_true]|rw[bne_self_eq_false]|refine tst_ff p3 ?_|refine g_o (op_lenM rfl rfl rfl (ev_ok rfl) (tgt rfl) rfl) ?_|refine g_o (op_loadA rfl (ev_ok rfl) (tgt rfl) rfl (Nat.succ_ne_zero _) rfl) ?_|refine⟨_,op_neAgg tabOK goodOK rfl (ev_ok rfl) (ev_ok rfl) rfl rfl rfl rfl (q_eq (rfl)) q_guard, ?_⟩|rw[p1]|rw[p2]|rw[p3]|rw[Nat.zero_add]);conv=>whnf))
  refine SW_loopN hE (fun k=>k) [9,23,26,29,31,32,33] [9,26] (fun M fr hp=>∃(k:Nat) (U:List Rat),M=c - k∧k≤c∧Upto r c X MD x k U∧Sm (7000000+k*700000) U∧
   fr=[(9,.ptr 9 0 0 0),(23,fvec x),(26,.ptr 26 0 0 0),(29,ivec .i64 (pv.map ofN)),(31,fvec U),(32,iv (freeF pv k).length),(33,iv k)]∧hp=[(9,⟨24,true,.one (mC r c X)⟩),(26,⟨38,true,.one [fvec T,mvec 1 fvec L]⟩)]) c ?_ ?_ ?_
  ·kernel_rfl
  ·exact⟨0,T,rfl,Nat.zero_le _,hU0,sT,rfl,rfl⟩
  clear k2 k3 k4 k5 k6' o1 o2 o3 o4 o5 oz0 ki v1 v2 km kf sM lM hX hU0
  rintro M _ _ ⟨k,U,rfl,hk,hU,sU,rfl,rfl⟩
  conv=>whnf
  have lU:=hU.len
  have hfl:=freeF_len pv k
  by_cases hkc:k<c
  ·have t2:=dlt hkc
   have t9:=winc (i:=k) (by omega)
   by_cases hat:(freeF pv k).length<L.length
   ·have t6:=dlt hat
    have w6:=winc (i:=(freeF pv k).length) (by omega)
    clear kw
    (repeat((first|refine g_o (op_pickT rfl (ev_ok rfl) (ev_ok rfl)) ?_|refine tst_tt t2 ?_|refine tst_tt t6 ?_|refine g_o (op_lenM rfl rfl rfl (ev_ok rfl) (tgt rfl) rfl) ?_|rw[t2]|rw[t6]|rw[Nat.zero_add]);conv=>whnf))
    refine SW_loopN hE (fun k=>k) [9,23,26,29,31,32,33,34,35] [9,26] (fun M fr hp=>∃(u:Nat) (al:Bool),M=pv.length - u∧u≤pv.length∧al=decide (k∈pv.take u)∧
     fr=[(9,.ptr 9 0 0 0),(23,fvec x),(26,.ptr 26 0 0 0),(29,ivec .i64 (pv.map ofN)),(31,fvec U),(32,iv (freeF pv k).length),(33,iv k),(34,.val (.bool al)),(35,iv u)]∧hp=[(9,⟨24,true,.one (mC r c X)⟩),(26,⟨38,true,.one [fvec T,mvec 1 fvec L]⟩)]) pv.length ?_ ?_ ?_
    ·kernel_rfl
    ·exact⟨0,false,rfl,Nat.zero_le _,by simp,rfl,rfl⟩
    rintro M _ _ ⟨u,al,rfl,hu,hal,rfl,rfl⟩
    conv=>whnf
    by_cases hul:u<pv.length
    ·have s3:=dlt (show u<(pv.map ofN).length by omega)
     have s4:=winc (i:=u) (by omega)
     have g1:=pv_get hul
     have hmt:=mem_takeN (k:=k) hul
     cases al
     ·have hno:k∉pv.take u:=fun h=>by rw[decide_eq_true h]at hal;cases hal
      generalize pv.getD u 0=y at*
      by_cases hyk:y=k
      ·have s5:((y:Int)==(k:Int))=true:=by rw[hyk];exact beq_self_eq_true _
       (repeat((first|refine step_w1 rfl rfl ?_|refine g_o (op_pickF rfl (ev_ok rfl) (ev_ok rfl)) ?_|refine tst_tt s3 ?_|refine g_o (op_lenM rfl rfl rfl (ev_ok rfl) (tgt rfl) rfl) ?_|refine g_o (op_loadA rfl (ev_ok rfl) (tgt rfl) rfl (Nat.succ_ne_zero _) rfl) ?_|refine g_o (op_indexN (α:=Int) (d:=0) rfl (ev_ok rfl) (ev_ok rfl) (tgt rfl) rfl (tgt rfl) rfl (by omega)) ?_|rw[s3]|rw[g1]|rw[s5]|rw[s4]);conv=>whnf))
       exact⟨pv.length - (u+1),fun k=>k,[9,23,26,29,31,32,33,34,35],[9,26],by omega,by kernel_rfl,u+1,true,rfl,hul,(decide_eq_true (hmt.2 (.inr hyk))).symm,rfl,rfl⟩
      ·have s5:((y:Int)==(k:Int))=false:=beq_eq_false_iff_ne.2 (by omega)
       (repeat((first|refine step_w1 rfl rfl ?_|refine g_o (op_pickF rfl (ev_ok rfl) (ev_ok rfl)) ?_|refine tst_tt s3 ?_|refine g_o (op_lenM rfl rfl rfl (ev_ok rfl) (tgt rfl) rfl) ?_|refine g_o (op_loadA rfl (ev_ok rfl) (tgt rfl) rfl (Nat.succ_ne_zero _) rfl) ?_|refine g_o (op_indexN (α:=Int) (d:=0) rfl (ev_ok rfl) (ev_ok rfl) (tgt rfl) rfl (tgt rfl) rfl (by omega)) ?_|rw[s3]|rw[g1]|rw[s5]|rw[s4]);conv=>whnf))
       exact⟨pv.length - (u+1),fun k=>k,[9,23,26,29,31,32,33,34,35],[9,26],by omega,by kernel_rfl,u+1,false,rfl,hul,(decide_eq_false fun h=>(hmt.1 h).elim hno hyk).symm,rfl,rfl⟩
     ·have hyes:k∈pv.take u:=of_decide_eq_true hal.symm
      (repeat((first|refine step_w2 rfl rfl ?_|refine g_o (op_pickT rfl (ev_ok rfl) (ev_ok rfl)) ?_|refine tst_tt s3 ?_|refine g_o (op_lenM rfl rfl rfl (ev_ok rfl) (tgt rfl) rfl) ?_|rw[s3]|rw[s4]);conv=>whnf))
      exact⟨pv.length - (u+1),fun k=>k,[9,23,26,29,31,32,33,34,35],[9,26],by omega,by kernel_rfl,u+1,true,rfl,hul,(decide_eq_true (hmt.2 (.inl hyes))).symm,rfl,rfl⟩
    ·have t3:=dge (show ¬u<(pv.map ofN).length by omega)
     rw[List.take_of_length_le (by omega)]at hal
     by_cases hkp:k∈pv
     ·rw[decide_eq_true hkp]at hal
      subst hal
      have e2:(freeF pv (k+1)).length=(freeF pv k).length:=by rw[freeF_succ,if_pos hkp,List.append_nil]
      have n1:=hskip k U hU hkp
      (repeat((first|refine step_w2 rfl rfl ?_|refine tst_ff t3 ?_|refine g_o (op_lenM rfl rfl rfl (ev_ok rfl) (tgt rfl) rfl) ?_|rw[t3]|rw[t9]);conv=>whnf))
      exact⟨c - (k+1),fun k=>k,[9,23,26,29,31,32,33],[9,26],by omega,by kernel_rfl,k+1,U,rfl,hkc,n1,Sm_le (by rw[Nat.succ_mul];omega) sU,by rw[e2];rfl,rfl⟩
     ·rw[decide_eq_false hkp]at hal
      subst hal
      have e2:(freeF pv (k+1)).length=(freeF pv k).length+1:=by rw[freeF_succ,if_neg hkp,List.length_append];rfl
      have lV:=hVl _ hat
      have sV:=hVs _ hat
      have fx:=sx k (by omega)
      have n1:=hstep k U (vaxpy (x.getD k 0) (L.getD (freeF pv k).length []) U) hU hkc hkp (axpy_len lV lU) (fun q hq=>axpy_get lV lU hq)
      have n3:=axpy_sm lV lU fx sV sU
      have kx:=v_Axpy (x.getD k 0) (L.getD (freeF pv k).length []) U (lV.trans lU.symm) (by omega) (axpy_fit lV lU fx sV sU (M:=1073741824) (by omega))
      have hxk:k<x.length:=by omega
      clear hU sU sV lV hVl hVs hskip hstep hdone
      (repeat((first|refine step_w1 rfl rfl ?_|refine step_i (by kernel_rfl) ?_|refine g_c (by assumption) ?_|refine tst_ff t3 ?_|refine g_o (op_lenM rfl rfl rfl (ev_ok rfl) (tgt rfl) rfl) ?_|refine g_o (op_indexN (α:=Rat) (d:=0) rfl (ev_ok rfl) (ev_ok rfl) (tgt rfl) rfl (tgt rfl) rfl (by omega)) ?_|refine g_o (op_loadA rfl (ev_ok rfl) (tgt rfl) rfl (Nat.succ_ne_zero _) rfl) ?_|refine g_o (op_indexN (α:=List Rat) (d:=[]) rfl (ev_ok rfl) (ev_ok rfl) (tgt rfl) rfl (tgt rfl) rfl (by omega)) ?_|rw[t3]|rw[t9]|rw[w6]|rw[Nat.zero_add]);conv=>whnf))
      exact⟨c - (k+1),fun k=>k,[9,23,26,29,31,32,33],[9,26],by omega,by kernel_rfl,k+1,_,rfl,hkc,n1,Sm_le (by rw[Nat.succ_mul];omega) n3,by rw[e2];rfl,rfl⟩
   ·have t6:=dge hat
    obtain rfl:=hdone k U hU hk (by omega)
    have e0:(freeF pv k).length=L.length:=by
     have:=free_mono (sp:=pv) c hk
     omega
    have t7:(((freeF pv k).length:Int)==(L.length:Int))=true:=by rw[e0];exact beq_self_eq_true _
    have t8:((U.length:Int)==(c:Int))=true:=by rw[lU];exact beq_self_eq_true _
    have oz:=s_same (a:=U) (n:=c) lU lU (by omega) rfl
    clear hU sU hVl hVs hskip hstep hdone
    (repeat((first|refine step_w1 rfl rfl ?_|refine g_c (by assumption) ?_|refine g_o (op_pickT rfl (ev_ok rfl) (ev_ok rfl)) ?_|refine tst_tt t2 ?_|refine tst_ff t6 ?_|refine tst_tt t7 ?_|refine tst_tt t8 ?_|refine g_o (op_lenM rfl rfl rfl (ev_ok rfl) (tgt rfl) rfl) ?_|rw[t2]|rw[t6]|rw[t7]|rw[t8]);conv=>whnf));(first|exact Recast.refl _|exact Frz.recast (Recast.refl _) rfl|(refine Frz.one rfl rfl ?_;skip)|(refine Frz.tup ?_;skip))
  ·have t2:=dge hkc
   obtain rfl:k=c:=by omega
   obtain rfl:=hdone k U hU hk (by omega)
   have t7:(((freeF pv k).length:Int)==(L.length:Int))=true:=by rw[lfr];exact beq_self_eq_true _
   have t8:((U.length:Int)==(k:Int))=true:=by rw[lU];exact beq_self_eq_true _
   have oz:=s_same (a:=U) (n:=k) lU lU (by omega) rfl
   clear hU sU hVl hVs hskip hstep hdone
   (repeat((first|refine step_w1 rfl rfl ?_|refine step_w2 rfl rfl ?_|refine g_c (by assumption) ?_|refine g_o (op_pickT rfl (ev_ok rfl) (ev_ok rfl)) ?_|refine g_o (op_pickF rfl (ev_ok rfl) (ev_ok rfl)) ?_|refine tst_ff t2 ?_|refine tst_tt t7 ?_|refine tst_tt t8 ?_|refine g_o (op_lenM rfl rfl rfl (ev_ok rfl) (tgt rfl) rfl) ?_|rw[t2]|rw[t7]|rw[t8]);conv=>whnf));(first|exact Recast.refl _|exact Frz.recast (Recast.refl _) rfl|(refine Frz.one rfl rfl ?_;skip)|(refine Frz.tup ?_;skip))
theorem law_ElimsFredholm (a0:MM) (a1 a2 a3:List (Int×Int)) (w0:MWf a0) (w1:QWf a1) (w2:QWf a2) (w3:QWf a3):
  CallOK Tryz.prog 10 [mQ a0,mvec 2 qA a1,mvec 2 qA a2,mvec 2 qA a3] [] (.val (.bool true)) [] []:=c_EFredholm a0 a1 a2 a3 (mOK_of w0) ⟨w1.1,qOK_of w1⟩ ⟨w2.1,qOK_of w2⟩ ⟨w3.1,qOK_of w3⟩
end Go.Proofs.YtbopchpncgdaaaaGreatDoor
