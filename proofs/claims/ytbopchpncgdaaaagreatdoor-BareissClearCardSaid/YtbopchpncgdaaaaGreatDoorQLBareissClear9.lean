/- The texts Bb. -/
import Derived.Test.YtbopchpncgdaaaaGreatDoorQLBareissClear8
namespace Go.Proofs.YtbopchpncgdaaaaGreatDoor
open Go.Sx
set_option linter.unusedSimpArgs false
set_option linter.unusedVariables false
set_option maxRecDepth 100000
set_option maxHeartbeats 40000000
theorem row_mem {r c i k:Nat} {a:List Rat} (ha:a.length=r*c) (hi:i<r) (hk:k<c):el a c i k∈rowL a c i:=by
 rw[←rowL_get hk];exact getD_mem (by rw[rowL_len hi ha];exact hk)
theorem mlF_szL {l:List Rat} {B:Nat} (h:Sm B l):sz (mlF l)≤1+l.length*B:=by
 have:=mlF_sz h l.length (Nat.le_refl _)
 rwa [List.take_length]at this
theorem times_whole {r c i k:Nat} {a:List Rat} (ha:a.length=r*c) (hi:i<r) (hk:k<c):∃z:Int,el a c i k*(((mlF (rowL a c i):Nat):Int):Rat)=(z:Rat):=whole_mul ((mlF_dvd (rowL a c i) 1).2 _ (row_mem ha hi hk))
theorem clZ_cast {r c i k:Nat} {a:List Rat} (ha:a.length=r*c) (hi:i<r) (hk:k<c):((elz (clZ r c a) c i k:Int):Rat)=(((mlF (rowL a c i):Nat):Int):Rat)*el a c i k:=by
 rw[mkz_el hi hk]
 obtain⟨z,hz⟩:=times_whole ha hi hk
 show(((el a c i k*(((mlF (rowL a c i):Nat):Int):Rat)).num:Int):Rat)=_
 rw[hz,Rat.num_intCast,Rat.mul_comm,hz]
theorem clZ_sm {r c:Nat} {a:List Rat} (ha:OKM r c a) (sa:Sm 130 a) (hc:c≤6):Zm 920 (clZ r c a):=Zm_mk fun i k hi hk=>by
 have h1:=el_sm sa ha.n hi hk
 have h2:=mlF_szL (Sm_row sa ha.n hi)
 rw[rowL_len hi ha.n]at h2
 have h3:c*130≤6*130:=Nat.mul_le_mul_right 130 hc
 have h4:=fs_zs ((mlF (rowL a c i):Nat):Int)
 have h5:zs ((mlF (rowL a c i):Nat):Int)=sz (mlF (rowL a c i))+1:=rfl
 have h6:=fs_mul (el a c i k) (((mlF (rowL a c i):Nat):Int):Rat)
 have h7:=fsz_num (el a c i k*(((mlF (rowL a c i):Nat):Int):Rat))
 show sz (el a c i k*(((mlF (rowL a c i):Nat):Int):Rat)).num.natAbs+1≤920
 unfold fs at h6 h4 h1
 omega
theorem clZ_det {k:Nat} {a:List Rat} (ha:a.length=k*k):((detZ k (elz (clZ k k a) k):Int):Rat)=prodR k (fun i=>(((byL k k a).getD i 0:Nat):Int))*det k (el a k):=by
 rw[detZ_cast,←det_rows]
 refine det_congr fun i j hi hj=> ?_
 show((elz (clZ k k a) k i j:Int):Rat)=_
 rw[clZ_cast ha hi hj,byL_at a hi]
theorem c_BClear (a:MM) (n:Int) (ha:mOK a) (hn:0≤n∧n<256):CallOK Tryz.prog 7 [mQ a,iel .u8 n] [] (.val (.bool true)) [] []:=by
 have kw:=l_works15
 by_cases hl:a.2.2.length>40
 ·have t1:decide ((a.2.2.length:Int)>40)=true:=decide_eq_true (by omega)
  refine callV (Z:=[2]) tabOK mixedOK Tryz.func7 rfl (by kernel_rfl) rfl rfl (by kernel_rfl) rfl ?_
  intro W0 w0 ρ0 hE
  conv=>whnf
  (repeat((first|refine g_c (by assumption) ?_|refine tst_tt t1 ?_|refine g_o (op_lenM rfl rfl rfl (ev_ok rfl) (tgt rfl) rfl) ?_|refine g_o (op_loadA rfl (ev_ok rfl) (tgt rfl) rfl (Nat.succ_ne_zero _) rfl) ?_|refine g_o (op_fieldA rfl (ev_ok rfl) (tgt rfl) rfl rfl (Nat.succ_ne_zero _) rfl) ?_);conv=>whnf));(first|exact Recast.refl _|exact Frz.recast (Recast.refl _) rfl|(refine Frz.one rfl rfl ?_;skip)|(refine Frz.tup ?_;skip))
 have t1:decide ((a.2.2.length:Int)>40)=false:=decide_eq_false (by omega)
 have ks:=c_Sides a ha
 have km:=c_MOf a ha
 have n6:=side_le a.1
 have k6:=side_le a.2.1
 generalize (a.1 % 7).toNat=r at*
 generalize (a.2.1 % 7).toNat=c at*
 have hX:=OKM_some a.2.2 (r:=r) (c:=c) (by omega) (by omega)
 have sX:=Sm_some ha.2.2.2 (r*c)
 generalize someL a.2.2 (r*c)=X at*
 have kc:=b_Clear hX sX (by decide) (by have:=Nat.mul_le_mul_right 130 (show c+3≤9 by omega);omega)
 obtain⟨e1,e2⟩:=u8_mod n hn 6 (by decide)
 have hk5:(n % 6).toNat≤5:=by omega
 generalize (n % 6).toNat=k at*
 have ky:=c_Some a ha (r:=k) (c:=k) (by omega) (by omega)
 have hY:=OKM_some a.2.2 (r:=k) (c:=k) (by omega) (by omega)
 have sY:=Sm_some ha.2.2.2 (k*k)
 generalize someL a.2.2 (k*k)=Y at*
 have kcy:=b_Clear hY sY (by decide) (by have:=Nat.mul_le_mul_right 130 (show k+3≤8 by omega);omega)
 have zZ:=clZ_sm hY sY (by omega)
 have okZ:OKZ k k (clZ k k Y):=OKZ.mk' (by omega) (by omega) _
 have kd:=b_Det okZ zZ (by decide) (by decide) (by omega) (by have:4^k≤1024:=Nat.pow_le_pow_right (n:=4) (by decide) hk5;omega)
 have kdy:=e_DetW hY (by omega) sY (by decide) (by decide)
 have zD:=detZ_zsB (n:=k) (B:=920) (A:=elz (clZ k k Y) k) hk5 (by decide) fun i j hi hj=>elz_zm zZ okZ.n hi hj
 have kfr:=lw_frac (detZ k (elz (clZ k k Y) k)) (by omega)
 rw[clZ_det hY.n]at kfr
 have dsz:=det_fs hY (by omega) sY (by decide)
 have lbX:=byL_len r c X
 have lbY:=byL_len k k Y
 have nbY:∀i,i<k→sz ((byL k k Y).getD i 0)≤700:=fun i hi=>by
  rw[byL_at Y hi]
  have:=mlF_szL (Sm_row sY hY.n hi)
  rw[rowL_len hi hY.n]at this
  have:=Nat.mul_le_mul_right 130 hk5
  omega
 have nbX:∀i,i<r→sz ((byL r c X).getD i 0)≤800∧0<(byL r c X).getD i 0:=fun i hi=>by
  rw[byL_at X hi]
  have h1:=mlF_szL (Sm_row sX hX.n hi)
  rw[rowL_len hi hX.n]at h1
  have:=Nat.mul_le_mul_right 130 k6
  exact⟨by omega,mlF_pos _ 1 (by decide)⟩
 have hwh:∀i j,i<r→j<c→(X.getD (i*c+j) 0*((((byL r c X).getD i 0:Nat):Int):Rat)).den=1∧(X.getD (i*c+j) 0*((((byL r c X).getD i 0:Nat):Int):Rat)).num=(clZ r c X).getD (i*c+j) 0:=fun i j hi hj=>by
  rw[byL_at X hi]
  obtain⟨z,hz⟩:=times_whole hX.n hi hj
  refine⟨by rw[show X.getD (i*c+j) 0=el X c i j from rfl,hz];exact Rat.den_intCast z, ?_⟩
  exact(mkz_el (r:=r) (c:=c) (f:=fun i k=>(el X c i k*(mlF (rowL X c i):Rat)).num) hi hj).symm
 have hg1:∀i G,i<r→G ∣ (byL r c X).getD i 0→(∀j,j<c→G ∣ ((clZ r c X).getD (i*c+j) 0).natAbs)→G=1:=fun i G hi h1 h2=>by
  refine clear_gcd (l:=rowL X c i) (by rw[←byL_at X hi];exact h1) (fun x hx=> ?_) (by rw[←byL_at X hi];exact(nbX i hi).2)
  obtain⟨j,hj,rfl⟩:=List.getElem_of_mem hx
  rw[rowL_len hi hX.n]at hj
  have h3:=h2 j hj
  rw[←(hwh i j hi hj).2,byL_at X hi]at h3
  have h4:(rowL X c i)[j]=X.getD (i*c+j) 0:=by
   have:=rowL_get (a:=X) (i:=i) hj
   rw[List.getD_eq_getElem?_getD,List.getElem?_eq_getElem (by rw[rowL_len hi hX.n];exact hj)]at this
   exact this
  rw[h4];exact h3
 have hXl:=hX.n
 have lZ:(clZ r c X).length=r*c:=mkz_len ..
 have hrc:r*c≤6*6:=Nat.mul_le_mul n6 k6
 have w0:IntKind.i64.wrap ((r:Int)*(c:Int))=((r*c:Nat):Int):=(idx_w (i:=r) (k:=0) (c:=c) (by omega) (by omega) (by omega)).1
 have f1:((r:Int) != (r:Int))=false:=bne_self_eq_false _
 have f2:((c:Int) != (c:Int))=false:=bne_self_eq_false _
 have f3:(((clZ r c X).length:Int) != ((r*c:Nat):Int))=false:=by rw[lZ];exact bne_self_eq_false _
 have f4:(((byL r c X).length:Int) != (r:Int))=false:=by rw[lbX];exact bne_self_eq_false _
 have sXe:∀p,p<r*c→fs (X.getD p 0)≤130:=fun p hp=>sX p (by omega)
 clear zD zZ okZ sY hY sX
 generalize clZ r c X=Z at*
 generalize byL r c X=N at*
 generalize clZ k k Y=ZY at*
 generalize byL k k Y=NY at*
 generalize det k (el Y k)=D at*
 generalize detZ k (elz ZY k)=DZ at*
 refine callV (Z:=[2]) tabOK mixedOK Tryz.func7 rfl (by kernel_rfl) rfl rfl (by kernel_rfl) rfl ?_
 intro W0 w0' ρ0 hE
 conv=>whnf
 (repeat((first|refine step_w1 rfl rfl ?_|refine g_c (by assumption) ?_|refine g_o (op_pickF rfl (ev_ok rfl) (ev_ok rfl)) ?_|rw[bne_self_eq_false]|refine tst_ff t1 ?_|refine tst_ff f4 ?_|refine g_o (op_lenM rfl rfl rfl (ev_ok rfl) (tgt rfl) rfl) ?_|refine g_o (op_loadA rfl (ev_ok rfl) (tgt rfl) rfl (Nat.succ_ne_zero _) rfl) ?_|refine g_o (op_fieldA rfl (ev_ok rfl) (tgt rfl) rfl rfl (Nat.succ_ne_zero _) rfl) ?_|rw[t1]|rw[w0]|rw[f3]|rw[f4]|rw[Nat.zero_add]);conv=>whnf))
 refine SW_loopN hE (fun k=>k) [1,2,5,6,7,8,9,11] [7,8] (fun M fr hp=>∃i:Nat,M=r - i∧i≤r∧
  fr=[(1,iel .u8 n),(2,ptrA [iel .u8 a.1,iel .u8 a.2.1,mvec 2 qA a.2.2]),(5,iv r),(6,iv c),(7,.ptr 7 0 0 0),(8,.ptr 8 0 0 0),(9,nvec N),(11,iv i)]∧hp=[(7,⟨24,true,.one (mC r c X)⟩),(8,⟨101,true,.one (wC r c Z)⟩)]) r ?_ ?_ ?_
 ·kernel_rfl
 ·exact⟨0,rfl,Nat.zero_le _,rfl,rfl⟩
 rintro M _ _ ⟨i,rfl,hi,rfl,rfl⟩
 conv=>whnf
 by_cases hlt:i<r
 ·have t2:=dlt hlt
  have t3:=winc (i:=i) (by omega)
  obtain⟨nb1,nb2⟩:=nbX i hlt
  have hiN:i<N.length:=by omega
  have hw:=fun j hj=>hwh i j hlt hj
  have hg:=fun G=>hg1 i G hlt
  clear hwh hg1 nbX nbY kd kdy kfr kcy ky ks km kc kw
  (repeat((first|refine tst_tt t2 ?_|refine g_o (op_loadA rfl (ev_ok rfl) (tgt rfl) rfl (Nat.succ_ne_zero _) rfl) ?_|refine g_o (op_indexN (α:=Nat) (d:=0) rfl (ev_ok rfl) (ev_ok rfl) (tgt rfl) rfl (tgt rfl) rfl (by omega)) ?_|rw[t2]);conv=>whnf))
  refine SW_loopN hE (fun k=>k) [1,2,5,6,7,8,9,11,12,13] [7,8,12] (fun M fr hp=>∃(j G:Nat),M=c - j∧j≤c∧G ∣ N.getD i 0∧(∀q,q<j→G ∣ (Z.getD (i*c+q) 0).natAbs)∧
   fr=[(1,iel .u8 n),(2,ptrA [iel .u8 a.1,iel .u8 a.2.1,mvec 2 qA a.2.2]),(5,iv r),(6,iv c),(7,.ptr 7 0 0 0),(8,.ptr 8 0 0 0),(9,nvec N),(11,iv i),(12,.ptr 12 0 0 0),(13,iv j)]∧hp=[(7,⟨24,true,.one (mC r c X)⟩),(8,⟨101,true,.one (wC r c Z)⟩),(12,⟨47,true,.one [.nat G]⟩)]) c ?_ ?_ ?_
  ·kernel_rfl
  ·exact⟨0,N.getD i 0,rfl,Nat.zero_le _,Nat.dvd_refl _,(fun q hq=>absurd hq (Nat.not_lt_zero q)),rfl,rfl⟩
  rintro M _ _ ⟨j,G,rfl,hj,hG,hGz,rfl,rfl⟩
  conv=>whnf
  have hGs:sz G≤800:=Nat.le_trans (sz_mono (Nat.le_of_dvd nb2 hG)) nb1
  by_cases hjl:j<c
  ·have t4:=dlt hjl
   have t5:=winc (i:=j) (by omega)
   obtain⟨w1,w2⟩:=idx_w (i:=i) (k:=j) (c:=c) (by omega) (by omega) (by omega)
   have hix:=idx_lt hlt hjl
   have b1:i*c+j<X.length:=by omega
   have b2:i*c+j<Z.length:=by omega
   obtain⟨h1,h2⟩:=hw j hjl
   have hx:=sXe (i*c+j) hix
   have hz1:zs ((N.getD i 0:Nat):Int)=sz (N.getD i 0)+1:=rfl
   have hz2:=fs_zs ((N.getD i 0:Nat):Int)
   have k1:CallOK Tryz.prog 48 [.val (.bool false),.nat (N.getD i 0)] [] (.int ((N.getD i 0:Nat):Int)) [] []:=c_From false (N.getD i 0)
   have k2:=lw_frac ((N.getD i 0:Nat):Int) (by omega)
   have k3:=f_Mul (X.getD (i*c+j) 0) (((N.getD i 0:Nat):Int):Rat) (by omega)
   have k4:=c_Whole (X.getD (i*c+j) 0*(((N.getD i 0:Nat):Int):Rat))
   rw[decide_eq_true h1]at k4
   have k5:=c_Num (X.getD (i*c+j) 0*(((N.getD i 0:Nat):Int):Rat))
   rw[h2]at k5
   have hzs:sz (Z.getD (i*c+j) 0).natAbs≤1000:=by
    have g1:=fsz_num (X.getD (i*c+j) 0*(((N.getD i 0:Nat):Int):Rat))
    have g2:=fs_mul (X.getD (i*c+j) 0) (((N.getD i 0:Nat):Int):Rat)
    rw[h2]at g1
    unfold fs at g2 hx hz2
    omega
   have k6:=c_Abs (Z.getD (i*c+j) 0)
   have k7:=natBig.gcd G (Z.getD (i*c+j) 0).natAbs (by omega) (by omega)
   have t6:(!decide (Z.getD (i*c+j) 0=Z.getD (i*c+j) 0))=false:=by rw[decide_eq_true rfl];rfl
   have hG1:Nat.gcd G (Z.getD (i*c+j) 0).natAbs ∣ N.getD i 0:=Nat.dvd_trans (Nat.gcd_dvd_left _ _) hG
   have hG2:∀q,q<j+1→Nat.gcd G (Z.getD (i*c+j) 0).natAbs ∣ (Z.getD (i*c+q) 0).natAbs:=fun q hq=>by
    by_cases e:q=j
    ·rw[e];exact Nat.gcd_dvd_right _ _
    ·exact Nat.dvd_trans (Nat.gcd_dvd_left _ _) (hGz q (by omega))
   clear hw hg hGz h1 h2 hx hz1 hz2
   (repeat((first|refine step_w1 rfl rfl ?_|refine step_i (by kernel_rfl) ?_|refine g_c (by assumption) ?_|refine g_o (op_pickF rfl (ev_ok rfl) (ev_ok rfl)) ?_|refine tst_tt t4 ?_|refine tst_ff t6 ?_|refine g_o (op_loadA rfl (ev_ok rfl) (tgt rfl) rfl (Nat.succ_ne_zero _) rfl) ?_|refine g_o (op_indexM (α:=Rat) (d:=0) rfl (ev_ok rfl) (ev_ok rfl) (tgt rfl) rfl (tgt rfl) rfl (by omega)) ?_|refine g_o (op_indexM (α:=Int) (d:=0) rfl (ev_ok rfl) (ev_ok rfl) (tgt rfl) rfl (tgt rfl) rfl (by omega)) ?_|refine g_o (op_indexN (α:=Nat) (d:=0) rfl (ev_ok rfl) (ev_ok rfl) (tgt rfl) rfl (tgt rfl) rfl (by omega)) ?_|refine⟨_,op_neAgg tabOK goodOK rfl (ev_ok rfl) (ev_ok rfl) rfl rfl rfl rfl (zq_same _ _) zq_guard, ?_⟩|rw[t4]|rw[t5]|rw[w1]|rw[w2]|rw[t6]|rw[Int.toNat_natCast]|rw[Nat.zero_add]);conv=>whnf))
   exact⟨c - (j+1),fun k=>k,[1,2,5,6,7,8,9,11,12,13],[7,8,12],by omega,by kernel_rfl,j+1,_,rfl,hjl,hG1,hG2,rfl,rfl⟩
  ·have t4:=dge hjl
   obtain rfl:j=c:=by omega
   obtain rfl:=hg G hG hGz
   have k1:=c_nOf 1 (by decide)
   have t5:(!decide ((1:Nat)=1))=false:=rfl
   by_cases hc0:j=0
   ·have t6:((j:Int)==0)=true:=by rw[hc0];rfl
    have hN1:N.getD i 0=1:=hg _ (Nat.dvd_refl _) (fun q hq=>by omega)
    have t7:(!decide (N.getD i 0=1))=false:=by rw[hN1];rfl
    clear hw hg hGz
    (repeat((first|refine step_w1 rfl rfl ?_|refine step_w2 rfl rfl ?_|refine step_i (by kernel_rfl) ?_|refine g_c (by assumption) ?_|refine g_o (op_pickT rfl (ev_ok rfl) (ev_ok rfl)) ?_|refine g_o (op_pickF rfl (ev_ok rfl) (ev_ok rfl)) ?_|refine tst_ff t4 ?_|refine tst_tt t6 ?_|refine tst_ff t7 ?_|refine g_o (op_loadA rfl (ev_ok rfl) (tgt rfl) rfl (Nat.succ_ne_zero _) rfl) ?_|refine g_o (op_indexN (α:=Nat) (d:=0) rfl (ev_ok rfl) (ev_ok rfl) (tgt rfl) rfl (tgt rfl) rfl (by omega)) ?_|refine⟨_,op_neAgg tabOK goodOK rfl (ev_ok rfl) (ev_ok rfl) rfl rfl rfl rfl (nq_same _ _) nq_guard, ?_⟩|rw[t4]|rw[t5]|rw[t6]|rw[t7]|rw[t3]);conv=>whnf))
    exact⟨r - (i+1),fun k=>k,[1,2,5,6,7,8,9,11],[7,8],by omega,by kernel_rfl,i+1,rfl,hlt,rfl,rfl⟩
   ·have t6:((j:Int)==0)=false:=beq_eq_false_iff_ne.2 (by omega)
    clear hw hg hGz
    (repeat((first|refine step_w1 rfl rfl ?_|refine step_w2 rfl rfl ?_|refine step_i (by kernel_rfl) ?_|refine g_c (by assumption) ?_|refine g_o (op_pickF rfl (ev_ok rfl) (ev_ok rfl)) ?_|refine tst_ff t4 ?_|refine tst_ff t6 ?_|refine⟨_,op_neAgg tabOK goodOK rfl (ev_ok rfl) (ev_ok rfl) rfl rfl rfl rfl (nq_same _ _) nq_guard, ?_⟩|rw[t4]|rw[t5]|rw[t6]|rw[t3]);conv=>whnf))
    exact⟨r - (i+1),fun k=>k,[1,2,5,6,7,8,9,11],[7,8],by omega,by kernel_rfl,i+1,rfl,hlt,rfl,rfl⟩
 ·have t2:=dge hlt
  clear hwh hg1 nbX ks km kc
  (repeat((first|refine step_oN (by first|omega|decide|(simp only[tl0,dlen,List.length_replicate,List.length_set,List.length_map,List.length_zipWith,List.length_take,List.length_append,List.length_cons,List.length_nil];omega)) ?_|refine g_c (by assumption) ?_|refine tst_ff t2 ?_|refine g_o (op_loadA rfl (ev_ok rfl) (tgt rfl) rfl (Nat.succ_ne_zero _) rfl) ?_|rw[t2]|rw[e2]);conv=>whnf))
  refine SW_loopN hE (fun k=>k) [18,19,20,21,22,23,24] [20,22] (fun M fr hp=>∃q:Nat,M=k - q∧q≤k∧fs (prodR q (fun i=>((NY.getD i 0:Nat):Int))*D)≤600000+q*1000∧
   fr=[(18,nvec NY),(19,iv 0),(20,.ptr 20 0 0 0),(21,iv 0),(22,.ptr 22 0 0 0),(23,iv 0),(24,iv q)]∧hp=[(20,⟨51,true,.one [.int DZ]⟩),(22,⟨53,true,.one [.frac (prodR q (fun i=>((NY.getD i 0:Nat):Int))*D)]⟩)]) k ?_ ?_ ?_
  ·kernel_rfl
  ·have e0:prodR 0 (fun i=>((NY.getD i 0:Nat):Int))*D=D:=by rw[prodR];grind
   exact⟨0,rfl,Nat.zero_le _,by rw[e0];omega,rfl,by rw[e0];rfl⟩
  rintro M _ _ ⟨q,rfl,hq,hW,rfl,rfl⟩
  conv=>whnf
  by_cases hqk:q<k
  ·have t3:=dlt (show q<NY.length by omega)
   have t4:=winc (i:=q) (by omega)
   have hb:=nbY q hqk
   have hz1:zs ((NY.getD q 0:Nat):Int)=sz (NY.getD q 0)+1:=rfl
   have hz2:=fs_zs ((NY.getD q 0:Nat):Int)
   have k1:CallOK Tryz.prog 48 [.val (.bool false),.nat (NY.getD q 0)] [] (.int ((NY.getD q 0:Nat):Int)) [] []:=c_From false (NY.getD q 0)
   have k2:=lw_frac ((NY.getD q 0:Nat):Int) (by omega)
   have hs:prodR (q+1) (fun i=>((NY.getD i 0:Nat):Int))*D=(prodR q (fun i=>((NY.getD i 0:Nat):Int))*D)*(((NY.getD q 0:Nat):Int):Rat):=by rw[prodR];grind
   have hq5:q*1000≤5*1000:=Nat.mul_le_mul_right 1000 (by omega)
   generalize prodR q (fun i=>((NY.getD i 0:Nat):Int))*D=V at*
   have k3:=f_Mul V (((NY.getD q 0:Nat):Int):Rat) (by omega)
   have g3:=fs_mul V (((NY.getD q 0:Nat):Int):Rat)
   have hql:q<NY.length:=by omega
   clear kd kdy kfr kcy ky nbY kw
   (repeat((first|refine step_i (by kernel_rfl) ?_|refine g_c (by assumption) ?_|refine tst_tt t3 ?_|refine g_o (op_lenM rfl rfl rfl (ev_ok rfl) (tgt rfl) rfl) ?_|refine g_o (op_loadA rfl (ev_ok rfl) (tgt rfl) rfl (Nat.succ_ne_zero _) rfl) ?_|refine g_o (op_indexN (α:=Nat) (d:=0) rfl (ev_ok rfl) (ev_ok rfl) (tgt rfl) rfl (tgt rfl) rfl (by omega)) ?_|rw[t3]|rw[t4]);conv=>whnf))
   exact⟨k - (q+1),fun k=>k,[18,19,20,21,22,23,24],[20,22],by omega,by kernel_rfl,q+1,rfl,hqk,by rw[hs,Nat.succ_mul];omega,rfl,by rw[hs];rfl⟩
  ·have t3:=dge (show ¬q<NY.length by omega)
   obtain rfl:q=k:=by omega
   (repeat((first|refine step_w1 rfl rfl ?_|refine step_i (by kernel_rfl) ?_|refine g_c (by assumption) ?_|refine g_o (op_pickT rfl (ev_ok rfl) (ev_ok rfl)) ?_|rw[beq_self_eq_true]|refine tst_ff t3 ?_|refine g_o (op_lenM rfl rfl rfl (ev_ok rfl) (tgt rfl) rfl) ?_|refine⟨_,op_eqAgg tabOK goodOK rfl (ev_ok rfl) (ev_ok rfl) rfl rfl rfl rfl (q_eq (rfl)) q_guard, ?_⟩);conv=>whnf));(first|exact Recast.refl _|exact Frz.recast (Recast.refl _) rfl|(refine Frz.one rfl rfl ?_;skip)|(refine Frz.tup ?_;skip))
theorem law_BareissClear (a0:MM) (a1:Int) (w0:MWf a0) (w1:(Lit.int .u8 a1).wf=true):
  CallOK Tryz.prog 7 [mQ a0,iel .u8 a1] [] (.val (.bool true)) [] []:=c_BClear a0 a1 (mOK_of w0) (wf_u8 w1)
end Go.Proofs.YtbopchpncgdaaaaGreatDoor
