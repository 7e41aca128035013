/- The texts Ba. -/
import Derived.Test.YtbopchpncgdaaaaGreatDoorQLElimsKernel1
namespace Go.Proofs.YtbopchpncgdaaaaGreatDoor
open Go.Sx
set_option linter.unusedSimpArgs false
set_option linter.unusedVariables false
set_option maxRecDepth 100000
set_option maxHeartbeats 40000000
theorem fs_small (i:Nat) (h:i≤8):fs (((i:Nat):Int):Rat)≤130:=by
 have:∀i,i<9→fs (((i:Nat):Int):Rat)≤130:=by decide+kernel
 exact this i (by omega)
theorem axpy_len {n:Nat} {t:Rat} {a b:List Rat} (ha:a.length=n) (hb:b.length=n):(vaxpy t a b).length=n:=zip_len ha hb
theorem axpy_get {n q:Nat} {t:Rat} {a b:List Rat} (ha:a.length=n) (hb:b.length=n) (hq:q<n):(vaxpy t a b).getD q 0=t*a.getD q 0+b.getD q 0:=zip_get (by omega) (by omega)
theorem axpy_sm {n A B C:Nat} {t:Rat} {a b:List Rat} (ha:a.length=n) (hb:b.length=n) (ht:fs t≤C) (sa:Sm A a) (sb:Sm B b):Sm (C+A+B) (vaxpy t a b):=by
 intro q hq
 rw[axpy_len ha hb]at hq
 rw[axpy_get ha hb hq]
 have h1:=sa q (by omega)
 have h2:=sb q (by omega)
 have h3:=fs_mul t (a.getD q 0)
 have h4:=fs_add (t*a.getD q 0) (b.getD q 0)
 omega
theorem axpy_ker {r c:Nat} {w:Mx} {t:Rat} {a b:List Rat} (ha:a.length=c) (hb:b.length=c) (h1:Ker r c w fun q=>a.getD q 0) (h2:Ker r c w fun q=>b.getD q 0):Ker r c w fun q=>(vaxpy t a b).getD q 0:=
 (ker_ext fun q hq=>axpy_get ha hb hq).2 (ker_comb t h1 h2)
theorem axpy_fit {n A B C M:Nat} {t:Rat} {a b:List Rat} (ha:a.length=n) (hb:b.length=n) (ht:fs t≤C) (sa:Sm A a) (sb:Sm B b) (h:C+A+B≤M):∀i,i<a.length→fs t+fs (a.getD i 0)+fs (b.getD i 0)≤M:=fun i hi=>by
 have h1:=sa i hi
 have h2:=sb i (by omega)
 omega
theorem pv_get {sp:List Nat} {u:Nat} (hu:u<sp.length):(sp.map ofN).getD u 0=((sp.getD u 0:Nat):Int):=by simp[List.getD_eq_getElem?_getD,hu]
theorem free_snoc {sp:List Nat} {k:Nat} (hk:k∉sp):(freeF sp (k+1)).map ofN=(freeF sp k).map ofN++[(k:Int)]:=by rw[freeF_succ,if_neg hk,List.map_append];rfl
theorem free_same {sp:List Nat} {k:Nat} (hk:k∈sp):(freeF sp (k+1)).map ofN=(freeF sp k).map ofN:=by rw[freeF_succ,if_pos hk,List.append_nil]
theorem mem_takeN {l:List Nat} {u k:Nat} (hu:u<l.length):k∈l.take (u+1)↔k∈l.take u∨l.getD u 0=k:=by
 have e:l.getD u 0=l[u]:=by rw[List.getD_eq_getElem?_getD,List.getElem?_eq_getElem hu];rfl
 rw[e,List.take_add_one,List.getElem?_eq_getElem hu,List.mem_append,Option.toList_some,List.mem_singleton,eq_comm (a:=k)]
theorem c_EKernel (a:MM) (v:List (Int×Int)) (ha:mOK a) (hv:v.length≤maxLen∧∀q∈v,qOK q):
  CallOK Tryz.prog 9 [mQ a,mvec 2 qA v] [] (.val (.bool true)) [] []:=by
 have kw:=l_works14
 have kf:=c_few14L [a] (by simp) (by intro m hm;simp only[List.mem_cons,List.not_mem_nil,or_false]at hm;obtain rfl:=hm;assumption)
 cases hF:[a].all fun m=>decide (m.2.2.length≤40)
 ·rw[hF]at kf
  refine callV (Z:=[2,27]) tabOK mixedOK Tryz.func9 rfl (by kernel_rfl) rfl rfl (by kernel_rfl) rfl ?_
  intro W0 w0 ρ0 hE
  conv=>whnf
  (repeat((first|refine step_w1 rfl rfl ?_|refine step_w2 rfl rfl ?_|refine g_c (by assumption) ?_|refine g_o (op_pickT rfl (ev_ok rfl) (ev_ok rfl)) ?_|refine g_o (op_loadA rfl (ev_ok rfl) (tgt rfl) rfl (Nat.succ_ne_zero _) rfl) ?_);conv=>whnf));(first|exact Recast.refl _|exact Frz.recast (Recast.refl _) rfl|(refine Frz.one rfl rfl ?_;skip)|(refine Frz.tup ?_;skip))
 rw[hF]at kf
 by_cases hl:v.length>8
 ·have t1:decide ((v.length:Int)>8)=true:=decide_eq_true (by omega)
  refine callV (Z:=[2,27]) tabOK mixedOK Tryz.func9 rfl (by kernel_rfl) rfl rfl (by kernel_rfl) rfl ?_
  intro W0 w0 ρ0 hE
  conv=>whnf
  (repeat((first|refine step_w1 rfl rfl ?_|refine g_c (by assumption) ?_|refine g_o (op_pickF rfl (ev_ok rfl) (ev_ok rfl)) ?_|refine tst_tt t1 ?_|refine g_o (op_lenM rfl rfl rfl (ev_ok rfl) (tgt rfl) rfl) ?_|refine g_o (op_loadA rfl (ev_ok rfl) (tgt rfl) rfl (Nat.succ_ne_zero _) rfl) ?_);conv=>whnf));(first|exact Recast.refl _|exact Frz.recast (Recast.refl _) rfl|(refine Frz.one rfl rfl ?_;skip)|(refine Frz.tup ?_;skip))
 have t1:decide ((v.length:Int)>8)=false:=decide_eq_false (by omega)
 have km:=c_MOf a ha
 have n6:=side_le a.1
 have k6:=side_le a.2.1
 generalize (a.1 % 7).toNat=r at*
 generalize (a.2.1 % 7).toNat=c at*
 have hX:=OKM_some a.2.2 (r:=r) (c:=c) (by omega) (by omega)
 have sX:=Sm_some ha.2.2.2 (r*c)
 generalize someL a.2.2 (r*c)=X at*
 have k1:=e_KernelS hX (by omega) (by omega) sX (by decide) (by decide)
 have k2:=e_ReduceS hX (by omega) (by omega) sX (by decide) (by decide)
 have cnt:=KL_cnt r c X
 have lfr:=KL_len r c X
 have hVl:=fun i=>KL_vlen (r:=r) (c:=c) (a:=X) (i:=i)
 have hVk:=fun i=>KL_ker (r:=r) (c:=c) (a:=X) (i:=i)
 have hVf:=fun i k=>KL_free (r:=r) (c:=c) (a:=X) (i:=i) (k:=k)
 have hVs:=fun i=>KL_sm (i:=i) hX (by omega) sX (by decide)
 have hfg:=fun i=>free_get (sp:=pivL r c X) (c:=c) (i:=i)
 have hlp:((pivL r c X).map ofN).length=(pivL r c X).length:=List.length_map _
 have hpc:(pivL r c X).length≤6:=by have:=rnk_le_c r c (el X c);rw[←pivL_rnk]at this;omega
 generalize RL r c X=RX at*
 generalize KL r c X=L at*
 generalize pivL r c X=pv at*
 have kz:=v_Zero r (by omega)
 refine callF (Z:=[2,27,100021]) tabOK mixedOK Tryz.func9 rfl (by kernel_rfl) (by first|rfl|(simp[keylessL,keyless,keylessL_map, *];done)) (by first|rfl|(simp[keylessL,keyless,keylessL_map, *];done)) (by kernel_rfl) rfl ?_
 intro w0 ρ0 hE
 conv=>whnf
 (repeat((first|refine step_w1 rfl rfl ?_|refine g_c (by assumption) ?_|refine g_o (op_pickF rfl (ev_ok rfl) (ev_ok rfl)) ?_|refine tst_ff t1 ?_|refine g_o (op_lenM rfl rfl rfl (ev_ok rfl) (tgt rfl) rfl) ?_|refine g_o (op_loadA rfl (ev_ok rfl) (tgt rfl) rfl (Nat.succ_ne_zero _) rfl) ?_|rw[t1]);conv=>whnf))
 refine SWx_adopt (t:=11) (k:=2001) (s:=1) (blk:=iblkM []) rfl rfl rfl ?_
 refine SW_loopN hE (fun k=>k) [1,5,6,7,9,10,11,12] [5,2001] (fun m fr hp=>∃k n:Nat,m=c - k∧k≤c∧n=(freeF pv k).length∧
  fr=[(1,mvec 2 qA v),(5,.ptr 5 0 0 0),(6,mvec 1 fvec L),(7,iv 0),(9,ivec .i64 (pv.map ofN)),(10,iv 0),(11,.slc 2001 1 0 n),(12,iv k)]∧hp=[(5,⟨24,true,.one (mC r c X)⟩),(2001,iblkM ((freeF pv k).map ofN))]) c ?_ ?_ ?_
 ·kernel_rfl
 ·exact⟨0,0,rfl,Nat.zero_le _,rfl,rfl,rfl⟩
 rintro m _ _ ⟨k,n,rfl,hk,hn,rfl,rfl⟩
 conv=>whnf
 by_cases hlt:k<c
 ·have t2:=dlt hlt
  have t9:=winc (i:=k) (by omega)
  clear k1 k2 kz kf km hVl hVk hVf hVs hfg
  (repeat(first|(refine tst_tt t2 ?_;conv=>whnf)|(rw[t2];conv=>whnf)|(rw[Nat.zero_add];conv=>whnf)))
  refine SW_loopN hE (fun k=>k) [1,5,6,7,9,10,11,12,13,14] [5,2001] (fun M fr hp=>∃(u:Nat) (al:Bool),M=pv.length - u∧u≤pv.length∧al=decide (k∈pv.take u)∧
   fr=[(1,mvec 2 qA v),(5,.ptr 5 0 0 0),(6,mvec 1 fvec L),(7,iv 0),(9,ivec .i64 (pv.map ofN)),(10,iv 0),(11,.slc 2001 1 0 n),(12,iv k),(13,.val (.bool al)),(14,iv u)]∧hp=[(5,⟨24,true,.one (mC r c X)⟩),(2001,iblkM ((freeF pv k).map ofN))]) pv.length ?_ ?_ ?_
  ·kernel_rfl
  ·exact⟨0,false,rfl,Nat.zero_le _,by simp,rfl,rfl⟩
  rintro M _ _ ⟨u,al,rfl,hu,hal,rfl,rfl⟩
  conv=>whnf
  by_cases hul:u<pv.length
  ·have t3:=dlt (show u<(pv.map ofN).length by omega)
   have t4:=winc (i:=u) (by omega)
   have g1:=pv_get hul
   have hmt:=mem_takeN (k:=k) hul
   cases al
   ·have hno:k∉pv.take u:=fun h=>by rw[decide_eq_true h]at hal;cases hal
    generalize pv.getD u 0=y at*
    by_cases hyk:y=k
    ·have t5:((y:Int)==(k:Int))=true:=by rw[hyk];exact beq_self_eq_true _
     (repeat((first|refine step_w1 rfl rfl ?_|refine g_o (op_pickF rfl (ev_ok rfl) (ev_ok rfl)) ?_|refine tst_tt t3 ?_|refine g_o (op_lenM rfl rfl rfl (ev_ok rfl) (tgt rfl) rfl) ?_|refine g_o (op_loadA rfl (ev_ok rfl) (tgt rfl) rfl (Nat.succ_ne_zero _) rfl) ?_|refine g_o (op_indexN (α:=Int) (d:=0) rfl (ev_ok rfl) (ev_ok rfl) (tgt rfl) rfl (tgt rfl) rfl (by omega)) ?_|rw[t3]|rw[g1]|rw[t5]|rw[t4]);conv=>whnf))
     exact⟨pv.length - (u+1),fun k=>k,[1,5,6,7,9,10,11,12,13,14],[5,2001],by omega,by kernel_rfl,u+1,true,rfl,hul,(decide_eq_true (hmt.2 (.inr hyk))).symm,rfl,rfl⟩
    ·have t5:((y:Int)==(k:Int))=false:=beq_eq_false_iff_ne.2 (by omega)
     (repeat((first|refine step_w1 rfl rfl ?_|refine g_o (op_pickF rfl (ev_ok rfl) (ev_ok rfl)) ?_|refine tst_tt t3 ?_|refine g_o (op_lenM rfl rfl rfl (ev_ok rfl) (tgt rfl) rfl) ?_|refine g_o (op_loadA rfl (ev_ok rfl) (tgt rfl) rfl (Nat.succ_ne_zero _) rfl) ?_|refine g_o (op_indexN (α:=Int) (d:=0) rfl (ev_ok rfl) (ev_ok rfl) (tgt rfl) rfl (tgt rfl) rfl (by omega)) ?_|rw[t3]|rw[g1]|rw[t5]|rw[t4]);conv=>whnf))
     exact⟨pv.length - (u+1),fun k=>k,[1,5,6,7,9,10,11,12,13,14],[5,2001],by omega,by kernel_rfl,u+1,false,rfl,hul,(decide_eq_false fun h=>(hmt.1 h).elim hno hyk).symm,rfl,rfl⟩
   ·have hyes:k∈pv.take u:=of_decide_eq_true hal.symm
    (repeat((first|refine step_w2 rfl rfl ?_|refine g_o (op_pickT rfl (ev_ok rfl) (ev_ok rfl)) ?_|refine tst_tt t3 ?_|refine g_o (op_lenM rfl rfl rfl (ev_ok rfl) (tgt rfl) rfl) ?_|rw[t3]|rw[t4]);conv=>whnf))
    exact⟨pv.length - (u+1),fun k=>k,[1,5,6,7,9,10,11,12,13,14],[5,2001],by omega,by kernel_rfl,u+1,true,rfl,hul,(decide_eq_true (hmt.2 (.inl hyes))).symm,rfl,rfl⟩
  ·have t3:=dge (show ¬u<(pv.map ofN).length by omega)
   rw[List.take_of_length_le (by omega)]at hal
   have lfm:((freeF pv k).map ofN).length=n:=by rw[List.length_map];exact hn.symm
   have hfl:=freeF_len pv k
   by_cases hkp:k∈pv
   ·rw[decide_eq_true hkp]at hal
    subst hal
    have e1:=free_same hkp
    have e2:n=(freeF pv (k+1)).length:=by rw[freeF_succ,if_pos hkp,List.append_nil];exact hn
    (repeat((first|refine step_w2 rfl rfl ?_|refine tst_ff t3 ?_|refine g_o (op_lenM rfl rfl rfl (ev_ok rfl) (tgt rfl) rfl) ?_|rw[t3]|rw[t9]);conv=>whnf))
    exact⟨c - (k+1),fun k=>k,[1,5,6,7,9,10,11,12],[5,2001],by omega,by kernel_rfl,k+1,n,rfl,hlt,e2,rfl,by rw[e1];rfl⟩
   ·rw[decide_eq_false hkp]at hal
    subst hal
    have e7:=app_int (l:=(freeF pv k).map ofN) (x:=(k:Int))
    rw[lfm,←free_snoc hkp]at e7
    have e2:n+1=(freeF pv (k+1)).length:=by rw[freeF_succ,if_neg hkp,List.length_append,←hn];rfl
    (repeat((first|refine step_w1 rfl rfl ?_|refine step_oA (by first|omega|decide|(simp only[tl0,dlen,List.length_replicate,List.length_set,List.length_map,List.length_zipWith,List.length_take,List.length_append,List.length_cons,List.length_nil];omega)) ?_|refine tst_ff t3 ?_|refine g_o (op_lenM rfl rfl rfl (ev_ok rfl) (tgt rfl) rfl) ?_|rw[t3]|rw[t9]);conv=>whnf))
    refine⟨c - (k+1),renBy [(75,2001)],[1,5,6,7,9,10,11,12],[5,75],by omega,by kernel_rfl,k+1,n+1,rfl,hlt,e2,rfl, ?_⟩
    rw[e7];rfl
 ·have t2:=dge hlt
  obtain rfl:k=c:=by omega
  have hn2:n=L.length:=by rw[lfr];exact hn
  have t3:((L.length:Int) != (n:Int))=false:=by rw[hn2];exact bne_self_eq_false _
  have lfm:((freeF pv k).map ofN).length=n:=by rw[List.length_map];exact hn.symm
  have hlL:L.length≤6:=by omega
  clear k1 k2 kf km
  (repeat((first|refine step_w1 rfl rfl ?_|refine step_oA (by first|omega|decide|(simp only[tl0,dlen,List.length_replicate,List.length_set,List.length_map,List.length_zipWith,List.length_take,List.length_append,List.length_cons,List.length_nil];omega)) ?_|refine g_c (by assumption) ?_|refine g_o (op_pickF rfl (ev_ok rfl) (ev_ok rfl)) ?_|rw[bne_self_eq_false]|refine tst_ff t2 ?_|refine tst_ff t3 ?_|refine g_o (op_lenM rfl rfl rfl (ev_ok rfl) (tgt rfl) rfl) ?_|rw[t2]|rw[t3]|rw[Int.toNat_natCast]|rw[Nat.zero_add]);conv=>whnf))
  refine SWx_freezeF 17 97 (fun _ h=>h) rfl rfl (show k=(List.replicate k (0:Rat)).length by simp) ?_
  refine SWx_go hE ?_
  conv=>whnf
  skip
  refine SW_loopN hE (fun k=>k) [1,5,6,11,15,17,18] [5,2001] (fun M fr hp=>∃(i:Nat) (S:List Rat),M=L.length - i∧i≤L.length∧S.length=k∧Ker r k (el X k) (fun q=>S.getD q 0)∧Sm (2+i*600000) S∧
   fr=[(1,mvec 2 qA v),(5,.ptr 5 0 0 0),(6,mvec 1 fvec L),(11,.slc 2001 1 0 n),(15,fvec (List.replicate r 0)),(17,fvec S),(18,iv i)]∧hp=[(5,⟨24,true,.one (mC r k X)⟩),(2001,iblkM ((freeF pv k).map ofN))]) L.length ?_ ?_ ?_
  ·kernel_rfl
  ·exact⟨0,List.replicate k 0,rfl,Nat.zero_le _,by simp,(ker_ext fun q hq=>get_zero hq).2 ker_nil,Sm_zero _,rfl,rfl⟩
  clear kz
  rintro M _ _ ⟨i,S,rfl,hi,lS,kS,sS,rfl,rfl⟩
  conv=>whnf
  by_cases hil:i<L.length
  ·have t4:=dlt hil
   have t5:=winc (i:=i) (by omega)
   have lV:=hVl i hil
   have kV:=hVk i hil
   have sV:=hVs i hil
   have hf:=fun q (hq:q<n)=>hVf i q hil (by omega)
   have t6:(((L.getD i []).length:Int) != (k:Int))=false:=by rw[lV];exact bne_self_eq_false _
   have hLi:i<L.length:=hil
   have ox:=m_Apply 6 hX lV sX sV k6 (by decide)
   rw[apply_zero kV]at ox
   have oz:=s_same (a:=List.replicate r (0:Rat)) (n:=r) (by simp) (by simp) (by omega) rfl
   have t10:(!decide (i<v.length))=(!decide (i<v.length)):=rfl
   clear t10 hVl hVk hVf hVs
   (repeat((first|refine step_i (by kernel_rfl) ?_|refine tst_tt t4 ?_|refine tst_ff t6 ?_|refine g_o (op_lenM rfl rfl rfl (ev_ok rfl) (tgt rfl) rfl) ?_|refine g_o (op_loadA rfl (ev_ok rfl) (tgt rfl) rfl (Nat.succ_ne_zero _) rfl) ?_|refine g_o (op_indexN (α:=List Rat) (d:=[]) rfl (ev_ok rfl) (ev_ok rfl) (tgt rfl) rfl (tgt rfl) rfl (by omega)) ?_|rw[t4]|rw[t6]|rw[Nat.zero_add]);conv=>whnf))
   generalize hV:L.getD i []=V at*
   refine SW_loopN hE (fun k=>k) [1,5,6,11,15,17,18,19] [5,2001] (fun M fr hp=>∃q:Nat,M=n - q∧q≤n∧
    fr=[(1,mvec 2 qA v),(5,.ptr 5 0 0 0),(6,mvec 1 fvec L),(11,.slc 2001 1 0 n),(15,fvec (List.replicate r 0)),(17,fvec S),(18,iv i),(19,iv q)]∧hp=[(5,⟨24,true,.one (mC r k X)⟩),(2001,iblkM ((freeF pv k).map ofN))]) n ?_ ?_ ?_
   ·kernel_rfl
   ·exact⟨0,rfl,Nat.zero_le _,rfl,rfl⟩
   rintro M _ _ ⟨q,rfl,hq,rfl,rfl⟩
   conv=>whnf
   by_cases hqn:q<n
   ·have t7:=dlt hqn
    have t8:=winc (i:=q) (by omega)
    have hql:q<((freeF pv k).map ofN).length:=by omega
    have g1:=pv_get (sp:=freeF pv k) (u:=q) (by omega)
    have g2:=(hfg q (by omega)).1
    have g3:=hf q hqn
    have ki:CallOK Tryz.prog 41 [iv 1] [] (.frac 1) [] []:=c_fInt 1 (by decide) (by decide)
    clear ox oz hf hfg kV sV kS sS
    generalize (freeF pv k).map ofN=FI at*
    generalize (freeF pv k).getD q 0=y at*
    by_cases e:q=i
    ·have t9:((q:Int)==(i:Int))=true:=by rw[e];exact beq_self_eq_true _
     rw[if_pos e]at g3
     (repeat((first|refine step_w2 rfl rfl ?_|refine step_i (by kernel_rfl) ?_|refine step_oL (by first|omega|decide|(simp only[tl0,dlen,List.length_replicate,List.length_set,List.length_map,List.length_zipWith,List.length_take,List.length_append,List.length_cons,List.length_nil];omega)) ?_|refine step_oA (by first|omega|decide|(simp only[tl0,dlen,List.length_replicate,List.length_set,List.length_map,List.length_zipWith,List.length_take,List.length_append,List.length_cons,List.length_nil];omega)) ?_|refine g_c (by assumption) ?_|refine tst_tt t7 ?_|refine tst_tt t9 ?_|refine g_o (op_loadA rfl (ev_ok rfl) (tgt rfl) rfl (Nat.succ_ne_zero _) rfl) ?_|refine g_o (op_indexM (α:=Rat) (d:=0) rfl (ev_ok rfl) (ev_ok rfl) (tgt rfl) rfl (tgt rfl) rfl (by omega)) ?_|refine g_o (op_indexN (α:=List Rat) (d:=[]) rfl (ev_ok rfl) (ev_ok rfl) (tgt rfl) rfl (tgt rfl) rfl (by omega)) ?_|refine⟨_,op_neAgg tabOK goodOK rfl (ev_ok rfl) (ev_ok rfl) rfl rfl rfl rfl (q_eq (g3)) q_guard, ?_⟩|rw[t7]|rw[t9]|rw[g1]|rw[hV]|rw[t8]|rw[Int.toNat_natCast]|rw[Nat.zero_add]);conv=>whnf))
     exact⟨n - (q+1),fun k=>k,[1,5,6,11,15,17,18,19],[5,2001],by omega,by kernel_rfl,q+1,rfl,hqn,rfl,rfl⟩
    ·have t9:((q:Int)==(i:Int))=false:=beq_eq_false_iff_ne.2 (by omega)
     rw[if_neg e]at g3
     (repeat((first|refine step_w2 rfl rfl ?_|refine step_i (by kernel_rfl) ?_|refine step_oL (by first|omega|decide|(simp only[tl0,dlen,List.length_replicate,List.length_set,List.length_map,List.length_zipWith,List.length_take,List.length_append,List.length_cons,List.length_nil];omega)) ?_|refine step_oA (by first|omega|decide|(simp only[tl0,dlen,List.length_replicate,List.length_set,List.length_map,List.length_zipWith,List.length_take,List.length_append,List.length_cons,List.length_nil];omega)) ?_|refine tst_tt t7 ?_|refine tst_ff t9 ?_|refine g_o (op_loadA rfl (ev_ok rfl) (tgt rfl) rfl (Nat.succ_ne_zero _) rfl) ?_|refine g_o (op_indexM (α:=Rat) (d:=0) rfl (ev_ok rfl) (ev_ok rfl) (tgt rfl) rfl (tgt rfl) rfl (by omega)) ?_|refine g_o (op_indexN (α:=List Rat) (d:=[]) rfl (ev_ok rfl) (ev_ok rfl) (tgt rfl) rfl (tgt rfl) rfl (by omega)) ?_|refine⟨_,op_neAgg tabOK goodOK rfl (ev_ok rfl) (ev_ok rfl) rfl rfl rfl rfl (q_eq (g3)) q_guard, ?_⟩|rw[t7]|rw[t9]|rw[g1]|rw[hV]|rw[t8]|rw[Int.toNat_natCast]|rw[Nat.zero_add]);conv=>whnf))
     exact⟨n - (q+1),fun k=>k,[1,5,6,11,15,17,18,19],[5,2001],by omega,by kernel_rfl,q+1,rfl,hqn,rfl,rfl⟩
   ·have t7:=dge hqn
    have ki:=c_fInt (i:Int) (by omega) (by omega)
    have fi:=fs_small i (by omega)
    have hbd:130+532480+(2+i*600000)≤1073741824:=by omega
    by_cases hiv:i<v.length
    ·have t8:=dlt hiv
     have kq:=c_QOf (v.getD i (0,0)) (qOK_at hv.2 i)
     have fq:=fs_qV (qOK_at hv.2 i)
     generalize qV (v.getD i (0,0))=w at*
     have kx:=v_Axpy w V S (lV.trans lS.symm) (by omega) (axpy_fit lV lS fq sV sS hbd)
     have n1:=axpy_len (t:=w) lV lS
     have n2:=axpy_ker (t:=w) lV lS kV kS
     have n3:=axpy_sm lV lS fq sV sS
     clear hf hfg kV kS sV sS
     (repeat((first|refine step_w1 rfl rfl ?_|refine step_w2 rfl rfl ?_|refine step_i (by kernel_rfl) ?_|refine g_c (by assumption) ?_|refine g_o (op_pickF rfl (ev_ok rfl) (ev_ok rfl)) ?_|rw[bne_self_eq_false]|refine tst_ff t7 ?_|refine tst_tt t8 ?_|refine g_o (op_lenM rfl rfl rfl (ev_ok rfl) (tgt rfl) rfl) ?_|refine g_o (op_loadA rfl (ev_ok rfl) (tgt rfl) rfl (Nat.succ_ne_zero _) rfl) ?_|refine g_o (op_indexN (α:=Int×Int) (d:=(0,0)) rfl (ev_ok rfl) (ev_ok rfl) (tgt rfl) rfl (tgt rfl) rfl (by omega)) ?_|refine g_o (op_indexN (α:=List Rat) (d:=[]) rfl (ev_ok rfl) (ev_ok rfl) (tgt rfl) rfl (tgt rfl) rfl (by omega)) ?_|rw[t7]|rw[t8]|rw[hV]|rw[t5]);conv=>whnf))
     exact⟨L.length - (i+1),fun k=>k,[1,5,6,11,15,17,18],[5,2001],by omega,by kernel_rfl,i+1,_,rfl,hil,n1,n2,Sm_le (by rw[Nat.succ_mul];omega) n3,rfl,rfl⟩
    ·have t8:=dge hiv
     have kx:=v_Axpy ((i:Int):Rat) V S (lV.trans lS.symm) (by omega) (axpy_fit lV lS fi sV sS hbd)
     have n1:=axpy_len (t:=((i:Int):Rat)) lV lS
     have n2:=axpy_ker (t:=((i:Int):Rat)) lV lS kV kS
     have n3:=axpy_sm lV lS fi sV sS
     clear hf hfg kV kS sV sS
     (repeat((first|refine step_w1 rfl rfl ?_|refine step_w2 rfl rfl ?_|refine step_i (by kernel_rfl) ?_|refine g_c (by assumption) ?_|refine g_o (op_pickF rfl (ev_ok rfl) (ev_ok rfl)) ?_|rw[bne_self_eq_false]|refine tst_ff t7 ?_|refine tst_ff t8 ?_|refine g_o (op_lenM rfl rfl rfl (ev_ok rfl) (tgt rfl) rfl) ?_|refine g_o (op_loadA rfl (ev_ok rfl) (tgt rfl) rfl (Nat.succ_ne_zero _) rfl) ?_|refine g_o (op_indexN (α:=List Rat) (d:=[]) rfl (ev_ok rfl) (ev_ok rfl) (tgt rfl) rfl (tgt rfl) rfl (by omega)) ?_|rw[t7]|rw[t8]|rw[hV]|rw[t5]);conv=>whnf))
     exact⟨L.length - (i+1),fun k=>k,[1,5,6,11,15,17,18],[5,2001],by omega,by kernel_rfl,i+1,_,rfl,hil,n1,n2,Sm_le (by rw[Nat.succ_mul];omega) n3,rfl,rfl⟩
  ·have t4:=dge hil
   have ox:=m_Apply 6 hX lS sX sS k6 (by omega)
   rw[apply_zero kS]at ox
   have oz:=s_same (a:=List.replicate r (0:Rat)) (n:=r) (by simp) (by simp) (by omega) rfl
   have t5:((S.length:Int)==(k:Int))=true:=by rw[lS];exact beq_self_eq_true _
   clear hVl hVk hVf hVs hfg kS sS
   (repeat((first|refine step_w1 rfl rfl ?_|refine g_c (by assumption) ?_|refine g_o (op_pickT rfl (ev_ok rfl) (ev_ok rfl)) ?_|rw[beq_self_eq_true]|refine tst_ff t4 ?_|refine tst_tt t5 ?_|refine g_o (op_lenM rfl rfl rfl (ev_ok rfl) (tgt rfl) rfl) ?_|rw[t4]|rw[t5]);conv=>whnf));(first|exact Recast.refl _|exact Frz.recast (Recast.refl _) rfl|(refine Frz.one rfl rfl ?_;skip)|(refine Frz.tup ?_;skip))
theorem law_ElimsKernel (a0:MM) (a1:List (Int×Int)) (w0:MWf a0) (w1:QWf a1):
  CallOK Tryz.prog 9 [mQ a0,mvec 2 qA a1] [] (.val (.bool true)) [] []:=c_EKernel a0 a1 (mOK_of w0) ⟨w1.1,qOK_of w1⟩
end Go.Proofs.YtbopchpncgdaaaaGreatDoor
