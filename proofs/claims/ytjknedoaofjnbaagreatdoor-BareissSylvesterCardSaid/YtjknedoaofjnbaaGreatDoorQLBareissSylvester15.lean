/- The texts Pc. -/
import Derived.Test.YtjknedoaofjnbaaGreatDoorQLBareissSylvester14
namespace Go.Proofs.YtjknedoaofjnbaaGreatDoor
open Go.Sx
set_option linter.unusedSimpArgs false
set_option linter.unusedVariables false
set_option maxRecDepth 100000
set_option maxHeartbeats 40000000
theorem b_FracS {n B:Nat} {a:List Int} (hn:n≤40) (ha:OKZ n n a) (za:Zm B a) (hB:B≤536870912):CallOK Tryz.prog 67 [wA n n a] [] (.tup [mA n n (ofInts a),iv 0]) [] []:=by
 have h:n*n≤40*40:=Nat.mul_le_mul hn hn
 have k:=b_Frac n n a (by have:=ha.n;omega) fun i hi=>Nat.le_trans (za i hi) hB
 rw[check_ok ha.r ha.c ha.n,if_pos rfl]at k
 exact k
theorem cast_pow (x:Int):∀n:Nat,((x^n:Int):Rat)=(x:Rat)^n
 |0=>by rw[Int.pow_zero,Rat.pow_zero];rfl
 |n+1=>by rw[Int.pow_succ,Rat.pow_succ,Rat.intCast_mul,cast_pow x n]
theorem sylv_st {r s:Nat} {X:List Int} (hs:s<r):detZ (r - s) (elz (stM r r s X) (r - s))=detZ r (elz X r)*detZ s (elz X r)^(r - s - 1):=by
 apply cast_inj
 rw[Rat.intCast_mul,cast_pow,detZ_cast,detZ_cast,detZ_cast]
 obtain⟨m,hm⟩:∃m,r - s=m+1:=⟨r - s - 1,by omega⟩
 have e:det (r - s) (toR (elz (stM r r s X) (r - s)))=det (r - s) (bm s (toR (elz X r))):=det_congr fun i k hi hk=>by
  show((elz (stM r r s X) (r - s) i k:Int):Rat)=_
  rw[←bmZ_cast]
  exact congrArg _ (mkz_el hi hk)
 rw[e,hm,sylvester s m,Nat.add_sub_cancel,show s+(m+1)=r by omega]
theorem part_det {r s:Nat} {X:List Int} (hX:X.length=r*r) (hs:s≤r):det s (el (mpart r (ofInts X) (upN s) (upN s)) s)=((detZ s (elz X r):Int):Rat):=by
 rw[detZ_cast]
 refine det_congr fun i k hi hk=> ?_
 have e:=mk_el (r:=(upN s).length) (c:=(upN s).length) (f:=fun i k=>el (ofInts X) r ((upN s).getD i 0).toNat ((upN s).getD k 0).toNat) (i:=i) (k:=k) (by rw[upN_len];exact hi) (by rw[upN_len];exact hk)
 simp only[upN_len]at e
 show el (mk (upN s).length (upN s).length _) s i k=_
 rw[upN_len]
 rw[e,upN_at hi,upN_at hk]
 exact el_ofInts hX (by simpa using(by omega:i<r)) (by simpa using(by omega:k<r))
theorem c_BSylvester (a:WW) (n sv:Int) (ha:wOK a) (hn:0≤n∧n<256) (hs:0≤sv∧sv<256):CallOK Tryz.prog 12 [wQ a,iel .u8 n,iel .u8 sv] [] (.val (.bool true)) [] []:=by
 have kw:=l_works15
 have kf:=c_fewW [a] (by simp) (by intro m hm;simp only[List.mem_cons,List.not_mem_nil,or_false]at hm;obtain rfl:=hm;exact ha.2.2.1)
 cases hF:[a].all fun m=>decide (m.2.2.length≤40)
 ·rw[hF]at kf
  refine callV (Z:=[3,29]) tabOK mixedOK Tryz.func12 rfl (by kernel_rfl) rfl rfl (by kernel_rfl) rfl ?_
  intro W0 w0 ρ0 hE
  conv=>whnf
  (repeat(first|(refine step_w1 rfl rfl ?_;conv=>whnf)|(refine g_c (by assumption) ?_;conv=>whnf)|(refine g_o (op_loadA rfl (ev_ok rfl) (tgt rfl) rfl (Nat.succ_ne_zero _) rfl) ?_;conv=>whnf)));(first|exact Recast.refl _|exact Frz.recast (Recast.refl _) rfl|(refine Frz.one rfl rfl ?_;skip)|(refine Frz.tup ?_;skip))
 rw[hF]at kf
 have hr:(n % 6).toNat<6:=by omega
 have e1:IntKind.u8.wrap (n.tmod 6)=n.tmod 6:=by rw[Int.tmod_eq_emod_of_nonneg hn.1,wrap_u8 (by omega) (by omega)]
 have e2:IntKind.i64.wrap (n.tmod 6)=(((n % 6).toNat:Nat):Int):=by rw[Int.tmod_eq_emod_of_nonneg hn.1,wrap_i64 (by omega) (by omega)];omega
 have e3:IntKind.i64.wrap sv=sv:=wrap_i64 (by omega) (by omega)
 generalize (n % 6).toNat=r at*
 rcases Nat.eq_zero_or_pos r with h0|h0
 ·subst h0
  refine callV (Z:=[3,29]) tabOK mixedOK Tryz.func12 rfl (by kernel_rfl) rfl rfl (by kernel_rfl) rfl ?_
  intro W0 w0 ρ0 hE
  conv=>whnf
  (repeat((first|refine step_w1 rfl rfl ?_|refine step_w2 rfl rfl ?_|refine step_oN (by first|omega|decide|(simp only[tl0,dlen,List.length_replicate,List.length_set,List.length_map,List.length_zipWith,List.length_take,List.length_append,List.length_cons,List.length_nil];omega)) ?_|refine g_c (by assumption) ?_|refine g_o (op_loadA rfl (ev_ok rfl) (tgt rfl) rfl (Nat.succ_ne_zero _) rfl) ?_|rw[e2]);conv=>whnf));(first|exact Recast.refl _|exact Frz.recast (Recast.refl _) rfl|(refine Frz.one rfl rfl ?_;skip)|(refine Frz.tup ?_;skip))
 have e0:decide ((r:Int)=0)=false:=decide_eq_false (by omega)
 obtain⟨s,hsr,e5⟩:∃s:Nat,s<r∧sv.tmod (r:Int)=(s:Int):=by
  have h1:=Int.tmod_eq_emod_of_nonneg (b:=(r:Int)) hs.1
  have h2:=Int.emod_nonneg sv (show(r:Int)≠0 by omega)
  have h3:=Int.emod_lt_of_pos sv (show 0<(r:Int) by omega)
  exact⟨(sv % (r:Int)).toNat,by omega,by omega⟩
 have e6:IntKind.i64.wrap (s:Int)=(s:Int):=wrap_i64 (by omega) (by omega)
 have k2:=c_WOf a ha (r:=r) (c:=r) (by omega) (by omega)
 have okx:=OKZ_zLw a.2.2 (r:=r) (c:=r) (by omega) (by omega)
 have zx:=Zm_zLw ha.2.2.2 (r*r)
 generalize zLw a.2.2 (r*r)=X at*
 have hX:=okx.n
 have hst:=fun(t:Nat) (ht:t≤r)=>b_Stage (s:=t) okx zx (by decide) (by omega) (by have:=pow6 (k:=5) (by decide);have h:4^(t+1)≤4^6:=Nat.pow_le_pow_right (by decide) (by omega);omega) ht ht
 have k3:=b_Det okx zx (by decide) (by decide) (by omega) (pow6 (by omega))
 have k4:=hst s (by omega)
 have zM:Zm 300000 (stM r r s X):=Zm_mk fun i j hi hj=>detZ_zs (by omega) (by decide) fun x y hx hy=>elz_zm zx hX (by unfold at1;split<;>omega) (by unfold at1;split<;>omega)
 have okM:OKZ (r - s) (r - s) (stM r r s X):=OKZ.mk' (by omega) (by omega) _
 have h45:4^(r - s)≤1024:=Nat.pow_le_pow_right (n:=4) (by decide) (show r - s≤5 by omega)
 have k5:=b_Det okM zM (by decide) (by decide) (by omega) (by omega)
 rw[sylv_st hsr]at k5
 have k6:=b_FracS (by omega) okx zx (by decide)
 have okF:OKM r r (ofInts X):=⟨okx.r,okx.c,by rw[ofInts_len,hX]⟩
 have k7:=m_Part okF (upN s) (upN s) (by rw[upN_len];omega) (by rw[upN_len];omega) (by intro x hx;simp only[upN,List.mem_map,List.mem_range]at hx;obtain⟨i,hi,rfl⟩:=hx;omega) (by intro x hx;simp only[upN,List.mem_map,List.mem_range]at hx;obtain⟨i,hi,rfl⟩:=hx;omega)
 have k8:=e_DetW (n:=s) (A:=66) (a:=mpart r (ofInts X) (upN s) (upN s)) ⟨by omega,by omega,by rw[mk_len,upN_len]⟩ (by omega) (Sm_mk fun i k hi hk=>by
  rw[upN_len]at hi hk
  rw[upN_at hi,upN_at hk]
  exact el_sm (ofInts_Sm zx) okF.n (by simpa using(by omega:i<r)) (by simpa using(by omega:k<r))) (by decide) (by decide)
 rw[part_det hX (by omega)]at k8
 rw[upN_len]at k7
 have k9:=c_Whole ((detZ s (elz X r):Int):Rat)
 rw[Rat.den_intCast,decide_eq_true rfl]at k9
 have k10:=c_Num ((detZ s (elz X r):Int):Rat)
 rw[Rat.num_intCast]at k10
 have zs1:zs (detZ s (elz X r))≤300000:=detZ_zs (by omega) (by decide) fun x y hx hy=>elz_zm zx hX (by omega) (by omega)
 have zs2:zs (detZ r (elz X r))≤300000:=detZ_zs (by omega) (by decide) fun x y hx hy=>elz_zm zx hX (by omega) (by omega)
 have k11:=lw_power (detZ s (elz X r)) (r - s - 1) (by omega) (by omega)
 have k12:=zz_Mul (detZ r (elz X r)) (detZ s (elz X r)^(r - s - 1)) (by have:=zs_pow (detZ s (elz X r)) (r - s - 1);have h2:(r - s - 1)*zs (detZ s (elz X r))≤5*300000:=Nat.mul_le_mul (by omega) zs1;omega)
 have k13:=hst (r - 1) (by omega)
 have l13:(stM r r (r - 1) X).length=1:=by rw[st_len,show r - (r - 1)=1 by omega]
 have g13:(stM r r (r - 1) X).getD 0 0=detZ r (elz X r):=by
  have:=st_el (r:=r) (s:=r - 1) (X:=X) (i:=0) (k:=0) (by omega) (by omega)
  rw[Nat.zero_mul,bmZ_first,show r - 1+1=r by omega]at this
  exact this
 have k14:=hst r (Nat.le_refl _)
 rw[show stM r r r X=[] by show mkz (r - r) (r - r) _=[];rw[Nat.sub_self];rfl,Nat.sub_self]at k14
 have k15:=l_goes okx zx (by omega) h0
 have w1:IntKind.i64.wrap ((r:Int) - (s:Int))=((r - s:Nat):Int):=by rw[wrap_i64 (by omega) (by omega)];omega
 have w2:IntKind.i64.wrap (((r - s:Nat):Int) - 1)=((r - s - 1:Nat):Int):=by rw[wrap_i64 (by omega) (by omega)];omega
 have w3:IntKind.i64.wrap ((r:Int) - 1)=((r - 1:Nat):Int):=by rw[wrap_i64 (by omega) (by omega)];omega
 have lu:=upN_len s
 clear hst zM okM h45 okF zs1 zs2 zx okx hX
 generalize stM r r s X=M at*
 generalize stM r r (r - 1) X=L at*
 generalize mpart r (ofInts X) (upN s) (upN s)=PM at*
 generalize ofInts X=FX at*
 generalize detZ s (elz X r)=Ds at*
 generalize detZ r (elz X r)=D at*
 have w5:(!decide (D*Ds^(r - s - 1)=D*Ds^(r - s - 1)))=false:=by simp
 have w6:(!decide (D=D))=false:=by simp
 have g14:L.getD (Int.toNat 0) 0=D:=g13
 generalize D*Ds^(r - s - 1)=SD at*
 generalize Ds^(r - s - 1)=DP at*
 refine callF (Z:=[3,29,100016,100019,100023]) tabOK mixedOK Tryz.func12 rfl (by kernel_rfl) (by first|rfl|(simp[keylessL,keyless,keylessL_map, *];done)) (by first|rfl|(simp[keylessL,keyless,keylessL_map, *];done)) (by kernel_rfl) rfl ?_
 intro w0 ρ0 hE
 conv=>whnf
 (repeat((first|refine step_w2 rfl rfl ?_|refine step_oN (by first|omega|decide|(simp only[tl0,dlen,List.length_replicate,List.length_set,List.length_map,List.length_zipWith,List.length_take,List.length_append,List.length_cons,List.length_nil];omega)) ?_|refine g_c (by assumption) ?_|refine tst_ff e0 ?_|refine g_o (op_loadA rfl (ev_ok rfl) (tgt rfl) rfl (Nat.succ_ne_zero _) rfl) ?_|rw[e2]|rw[e3]|rw[e5]);conv=>whnf))
 refine SWx_adopt (t:=16) (k:=2002) (s:=1) (blk:=iblkM []) rfl rfl rfl ?_
 refine SW_loopN hE (fun k=>k) [3,6,7,8,9,10,11,12,13,14,15,16,17] [9,10,12,14,2002] (fun m fr hp=>∃i:Nat,m=s - i∧i≤s∧
  fr=[(3,ptrA [iel .u8 a.1,iel .u8 a.2.1,ivec .i64 a.2.2]),(6,.val (.bool false)),(7,iv r),(8,iv s),(9,.ptr 9 0 0 0),(10,.ptr 10 0 0 0),(11,iv 0),(12,.ptr 12 0 0 0),(13,iv 0),(14,.ptr 14 0 0 0),(15,iv 0),(16,.slc 2002 1 0 i),(17,iv (i:Nat))]∧
  hp=[(9,⟨112,true,.one (wC r r X)⟩),(10,zIb D),(12,⟨112,true,.one (wC (r - s:Nat) (r - s:Nat) M)⟩),(14,zIb SD),(2002,iblkM (upN i))]) s ?_ ?_ ?_
 ·kernel_rfl
 ·exact⟨0,rfl,Nat.zero_le _,rfl,rfl⟩
 rintro m _ _ ⟨i,rfl,hi,rfl,rfl⟩
 conv=>whnf
 by_cases hlt:i<s
 ·have lq:=upN_len i
  have t1:=dlt hlt
  have t2:=winc (i:=i) (by omega)
  have e7:=app_int (l:=upN i) (x:=(i:Int))
  rw[lq,←upN_succ]at e7
  clear k2 k3 k4 k5 k6 k7 k8 k9 k10 k11 k12 k13 k14 k15 kw kf
  (repeat((first|refine step_oA (by first|omega|decide|(simp only[tl0,dlen,List.length_replicate,List.length_set,List.length_map,List.length_zipWith,List.length_take,List.length_append,List.length_cons,List.length_nil];omega)) ?_|refine tst_tt t1 ?_|rw[t1]|rw[t2]);conv=>whnf))
  refine⟨s - (i+1),renBy [(71,2002)],[3,6,7,8,9,10,11,12,13,14,15,16,17],[9,10,12,14,71],by omega,by kernel_rfl,i+1,rfl,hlt,rfl, ?_⟩
  rw[e7];rfl
 ·have t1:=dge hlt
  obtain rfl:i=s:=by omega
  (repeat(first|(refine tst_ff t1 ?_;conv=>whnf)|(rw[t1];conv=>whnf)))
  refine SWx_freezeI 16 2002 (fun _ h=>h) rfl rfl lu.symm ?_
  refine SWx_go hE ?_
  conv=>whnf
  (repeat(first|(refine g_c (by assumption) ?_;conv=>whnf)))
  refine SWx_then (fr1:= ?fr1) (hp1:= ?hp1) (fun K hK=>SWx_go hE ?ra1) ?rb1
  case ra1=>
   conv=>whnf
   (repeat((first|refine step_w1 rfl rfl ?_|refine step_i (by kernel_rfl) ?_|refine g_c (by assumption) ?_|refine g_o (op_pickF rfl (ev_ok rfl) (ev_ok rfl)) ?_|rw[bne_self_eq_false]|refine⟨_,op_neAgg tabOK goodOK rfl (ev_ok rfl) (ev_ok rfl) rfl rfl rfl rfl (zq_same _ _) zq_guard, ?_⟩|rw[w1]|rw[w2]|rw[w5]);conv=>whnf))
   exact hK
  conv=>whnf
  (repeat(first|(refine step_w2 rfl rfl ?_;conv=>whnf)|(refine g_c (by assumption) ?_;conv=>whnf)|(rw[w3];conv=>whnf)))
  refine SWx_then (fr1:= ?fr2) (hp1:= ?hp2) (fun K hK=>SWx_go hE ?ra2) ?rb2
  case ra2=>
   conv=>whnf
   (repeat((first|refine step_w1 rfl rfl ?_|refine step_i (by kernel_rfl) ?_|refine g_o (op_pickF rfl (ev_ok rfl) (ev_ok rfl)) ?_|rw[bne_self_eq_false]|refine g_o (op_lenM rfl rfl rfl (ev_ok rfl) (tgt rfl) rfl) ?_|refine g_o (op_loadA rfl (ev_ok rfl) (tgt rfl) rfl (Nat.succ_ne_zero _) rfl) ?_|refine g_o (op_indexM (α:=Int) (d:=0) rfl (ev_ok rfl) (ev_ok rfl) (tgt rfl) rfl (tgt rfl) rfl (by omega)) ?_|refine⟨_,op_neAgg tabOK goodOK rfl (ev_ok rfl) (ev_ok rfl) rfl rfl rfl rfl (zq_same _ _) zq_guard, ?_⟩|rw[l13]|rw[g14]|rw[w6]|rw[Nat.zero_add]);conv=>whnf))
   exact hK
  conv=>whnf
  (repeat((first|refine step_w1 rfl rfl ?_|refine step_w2 rfl rfl ?_|refine g_c (by assumption) ?_|refine g_o (op_pickT rfl (ev_ok rfl) (ev_ok rfl)) ?_);conv=>whnf));(first|exact Recast.refl _|exact Frz.recast (Recast.refl _) rfl|(refine Frz.one rfl rfl ?_;skip)|(refine Frz.tup ?_;skip))
theorem law_BareissSylvester (a0:WW) (a1 a2:Int) (w0:WWf a0) (w1:(Lit.int .u8 a1).wf=true) (w2:(Lit.int .u8 a2).wf=true):
  CallOK Tryz.prog 12 [wQ a0,iel .u8 a1,iel .u8 a2] [] (.val (.bool true)) [] []:=c_BSylvester a0 a1 a2 (wOK_of w0) (wf_u8 w1) (wf_u8 w2)
end Go.Proofs.YtjknedoaofjnbaaGreatDoor
