/- The texts Bc. -/
import Derived.Test.YtbopchpncgdaaaaGreatDoorQLBareissCramer14
namespace Go.Proofs.YtbopchpncgdaaaaGreatDoor
open Go.Sx
set_option linter.unusedSimpArgs false
set_option linter.unusedVariables false
set_option maxRecDepth 100000
set_option maxHeartbeats 40000000
theorem b_FracC {r c B:Nat} {a:List Int} (hrc:r*c≤1600) (ha:OKZ r c a) (za:Zm B a) (hB:B≤536870912):CallOK Tryz.prog 65 [wA r c a] [] (.tup [mA r c (ofInts a),iv 0]) [] []:=by
 have k:=b_Frac r c a (by have:=ha.n;omega) fun i hi=>Nat.le_trans (za i hi) hB
 rw[check_ok ha.r ha.c ha.n,if_pos rfl]at k
 exact k
theorem crM_cast {n:Nat} {X b:List Int} (hX:X.length=n*n) (hb:b.length=n) (c:Nat):((detZ n (crM n X b c):Int):Rat)=det n (setCol (el (ofInts X) n) c fun i=>(ofInts b).getD i 0):=by
 rw[detZ_cast]
 refine det_congr fun i k hi hk=> ?_
 show((crM n X b c i k:Int):Rat)=_
 unfold crM setCol
 by_cases e:k=c
 ·rw[if_pos e,if_pos e];exact(ofInts_at (show i<b.length by omega)).symm
 ·rw[if_neg e,if_neg e,el_ofInts hX hi hk]
theorem crL_at {n i:Nat} {a b:List Int} (hi:i<n):(crL n a b).getD i 0=detZ n (crM n a b i):=by
 simp[crL,upN,List.getD_eq_getElem?_getD,hi]
theorem crL_len (n:Nat) (a b:List Int):(crL n a b).length=n:=by simp[crL,upN]
theorem c_BCramer (a:WW) (n:Int) (b:List Int) (ha:wOK a) (hn:0≤n∧n<256) (hb:wOK (0,0,b)):CallOK Tryz.prog 11 [wQ a,iel .u8 n,ivec .i64 b] [] (.val (.bool true)) [] []:=by
 have kw:=l_works15
 have kf:=c_fewW [a] (by simp) (by intro m hm;simp only[List.mem_cons,List.not_mem_nil,or_false]at hm;obtain rfl:=hm;exact ha.2.2.1)
 cases hF:[a].all fun m=>decide (m.2.2.length≤40)
 ·rw[hF]at kf
  refine callV (Z:=[3,25]) tabOK mixedOK Tryz.func11 rfl (by kernel_rfl) rfl rfl (by kernel_rfl) rfl ?_
  intro W0 w0 ρ0 hE
  conv=>whnf
  (repeat((first|refine step_w1 rfl rfl ?_|refine step_w2 rfl rfl ?_|refine g_c (by assumption) ?_|refine g_o (op_pickT rfl (ev_ok rfl) (ev_ok rfl)) ?_|refine g_o (op_loadA rfl (ev_ok rfl) (tgt rfl) rfl (Nat.succ_ne_zero _) rfl) ?_);conv=>whnf));(first|exact Recast.refl _|exact Frz.recast (Recast.refl _) rfl|(refine Frz.one rfl rfl ?_;skip)|(refine Frz.tup ?_;skip))
 rw[hF]at kf
 by_cases hl:b.length>20
 ·have t1:decide ((b.length:Int)>20)=true:=decide_eq_true (by omega)
  refine callV (Z:=[3,25]) tabOK mixedOK Tryz.func11 rfl (by kernel_rfl) rfl rfl (by kernel_rfl) rfl ?_
  intro W0 w0 ρ0 hE
  conv=>whnf
  (repeat((first|refine step_w1 rfl rfl ?_|refine g_c (by assumption) ?_|refine g_o (op_pickF rfl (ev_ok rfl) (ev_ok rfl)) ?_|refine tst_tt t1 ?_|refine g_o (op_lenM rfl rfl rfl (ev_ok rfl) (tgt rfl) rfl) ?_|refine g_o (op_loadA rfl (ev_ok rfl) (tgt rfl) rfl (Nat.succ_ne_zero _) rfl) ?_);conv=>whnf));(first|exact Recast.refl _|exact Frz.recast (Recast.refl _) rfl|(refine Frz.one rfl rfl ?_;skip)|(refine Frz.tup ?_;skip))
 have t1:decide ((b.length:Int)>20)=false:=decide_eq_false (by omega)
 have hr:(n % 6).toNat<6:=by omega
 have e1:IntKind.u8.wrap (n.tmod 6)=n.tmod 6:=by rw[Int.tmod_eq_emod_of_nonneg hn.1,wrap_u8 (by omega) (by omega)]
 have e2:IntKind.i64.wrap (n.tmod 6)=(((n % 6).toNat:Nat):Int):=by rw[Int.tmod_eq_emod_of_nonneg hn.1,wrap_i64 (by omega) (by omega)];omega
 generalize (n % 6).toNat=r at*
 have k1:=c_WOf a ha (r:=r) (c:=r) (by omega) (by omega)
 have k2:=c_WOf (0,0,b) hb (r:=r) (c:=1) (by omega) (by decide)
 have okx:=OKZ_zLw a.2.2 (r:=r) (c:=r) (by omega) (by omega)
 have zx:=Zm_zLw ha.2.2.2 (r*r)
 have okb:=OKZ_zLw b (r:=r) (c:=1) (by omega) (by decide)
 have zb:Zm 65 (zLw b (r*1)):=Zm_zLw hb.2.2.2 (r*1)
 generalize zLw a.2.2 (r*r)=X at*
 replace k2:CallOK Tryz.prog 63 [wQ (0,0,b),iv r,iv 1] [] (wA r 1 (zLw b (r*1))) [] []:=k2
 generalize zLw b (r*1)=Y at*
 have hX:=okx.n
 have hY:Y.length=r:=by have:=okb.n;omega
 have k3:=b_Cramer okx zx hY zb (by decide) (by decide) (by omega) (pow6 (by omega))
 have k4:=b_Det okx zx (by decide) (by decide) (by omega) (pow6 (by omega))
 have k5:=b_FracC (by have:r*r≤6*6:=Nat.mul_le_mul (by omega) (by omega);omega) okx zx (by decide)
 have k6:=b_FracC (by omega) okb zb (by decide)
 replace k6:CallOK Tryz.prog 65 [wA r 1 Y] [] (.tup [mA r 1 (ofInts Y),iv 0]) [] []:=k6
 have okF:OKM r r (ofInts X):=⟨okx.r,okx.c,by rw[ofInts_len,hX]⟩
 have sF:Sm 66 (ofInts X):=ofInts_Sm zx
 have lB:(ofInts Y).length=r:=by rw[ofInts_len,hY]
 have sB:Sm 66 (ofInts Y):=ofInts_Sm zb
 have hdet:det r (el (ofInts X) r)=((detZ r (elz X r):Int):Rat):=by
  rw[detZ_cast];exact det_congr fun i k hi hk=>el_ofInts hX hi hk
 have kS:=c_Sign (detZ r (elz X r))
 by_cases hD:detZ r (elz X r)=0
 ·rw[if_pos hD]at k3
  have f1:((detZ r (elz X r)).sign != 0)=false:=by rw[hD];rfl
  obtain⟨S,L,g,k7⟩:∃(S:List Rat) (L:List (List Rat)) (g:Int),CallOK Tryz.prog 18 [mA r r (ofInts X),fvec (ofInts Y)] [] (.tup [.agg [fvec S,mvec 1 fvec L],iv g]) [] []:=by
   by_cases hs:∃x,Sol r r (ofInts X) (ofInts Y) x
   ·obtain⟨S,_,_,_,_,k⟩:=e_SolveS okF (by omega) (by omega) sF (by decide) (by decide) lB sB hs
    exact⟨_,_,_,k⟩
   ·exact⟨_,_,_,e_SolveN okF (by omega) (by omega) sF (by decide) (by decide) lB sB hs⟩
  clear okx zx okb zb okF sF lB sB hdet hD hX hY
  generalize detZ r (elz X r)=D at*
  generalize ofInts X=FX at*
  generalize ofInts Y=FY at*
  refine callV (Z:=[3,25]) tabOK mixedOK Tryz.func11 rfl (by kernel_rfl) rfl rfl (by kernel_rfl) rfl ?_
  intro W0 w0 ρ0 hE
  conv=>whnf
  (repeat((first|refine step_w1 rfl rfl ?_|refine step_w2 rfl rfl ?_|refine step_oN (by first|omega|decide|(simp only[tl0,dlen,List.length_replicate,List.length_set,List.length_map,List.length_zipWith,List.length_take,List.length_append,List.length_cons,List.length_nil];omega)) ?_|refine g_c (by assumption) ?_|refine g_o (op_pickT rfl (ev_ok rfl) (ev_ok rfl)) ?_|refine g_o (op_pickF rfl (ev_ok rfl) (ev_ok rfl)) ?_|rw[bne_self_eq_false]|refine tst_ff t1 ?_|refine g_o (op_lenM rfl rfl rfl (ev_ok rfl) (tgt rfl) rfl) ?_|refine g_o (op_loadA rfl (ev_ok rfl) (tgt rfl) rfl (Nat.succ_ne_zero _) rfl) ?_|refine⟨_,op_neAgg tabOK goodOK rfl (ev_ok rfl) (ev_ok rfl) rfl rfl rfl rfl (zq_same _ _) zq_guard, ?_⟩|rw[t1]|rw[e2]|rw[f1]);conv=>whnf));(first|exact Recast.refl _|exact Frz.recast (Recast.refl _) rfl|(refine Frz.one rfl rfl ?_;skip)|(refine Frz.tup ?_;skip))
 ·rw[if_neg hD]at k3
  have f1:((detZ r (elz X r)).sign != 0)=true:=bne_iff_ne.2 fun g=>hD (Int.sign_eq_zero_iff_zero.1 g)
  have hDR:((detZ r (elz X r):Int):Rat)≠0:=fun g=>hD (Rat.intCast_eq_zero_iff.1 g)
  have hdn:det r (el (ofInts X) r)≠0:=by rw[hdet];exact hDR
  obtain⟨B,_,_,hB,_⟩:=e_InverseS okF (by omega) sF (by decide) (by decide) hdn
  obtain⟨S,lS,sS,hS,_,k7⟩:=e_SolveS okF (by omega) (by omega) sF (by decide) (by decide) lB sB ⟨_,sol_ex lB (invL_right hB)⟩
  have hK:KL r r (ofInts X)=[]:=by
   have:=KL_cnt r r (ofInts X)
   rw[rank_full.2 hdn]at this
   exact List.length_eq_zero_iff.1 (by omega)
  rw[hK]at k7
  have hcr:∀i,i<r→(((crL r X Y).getD i 0:Int):Rat)/((detZ r (elz X r):Int):Rat)=S.getD i 0:=fun i hi=>by
   rw[crL_at hi,crM_cast hX hY i,cramer (x:=fun q=>S.getD q 0) hi hS,hdet,Rat.div_def,Rat.mul_assoc,Rat.mul_inv_cancel _ hDR,Rat.mul_one]
  have zD:zs (detZ r (elz X r))≤300000:=detZ_zs (by omega) (by decide) fun x y hx hy=>elz_zm zx hX hx hy
  have zC:∀i,i<r→zs ((crL r X Y).getD i 0)≤300000:=fun i hi=>by
   rw[crL_at hi]
   exact detZ_zs (by omega) (by decide:65≤69) fun x y hx hy=>by
    have:=elz_zm (crM_zs okx zx hY zb i) (mkz_len ..) hx hy
    rwa [mkz_el hx hy]at this
  have lC:=crL_len r X Y
  have f2:(((crL r X Y).length:Int) != (r:Int))=false:=by rw[lC];exact bne_self_eq_false _
  have f3:((S.length:Int) != (r:Int))=false:=by rw[lS];exact bne_self_eq_false _
  have f4:(!decide (detZ r (elz X r)=detZ r (elz X r)))=false:=by rw[decide_eq_true rfl];rfl
  have kD:=lw_frac (detZ r (elz X r)) (by omega)
  clear okx zx okb zb okF sF lB sB hdet hD hX hY hdn hB hS hK sS
  generalize detZ r (elz X r)=D at*
  generalize ofInts X=FX at*
  generalize ofInts Y=FY at*
  generalize crL r X Y=C at*
  refine callV (Z:=[3,25]) tabOK mixedOK Tryz.func11 rfl (by kernel_rfl) rfl rfl (by kernel_rfl) rfl ?_
  intro W0 w0 ρ0 hE
  conv=>whnf
  (repeat((first|refine step_w1 rfl rfl ?_|refine step_w2 rfl rfl ?_|refine step_oN (by first|omega|decide|(simp only[tl0,dlen,List.length_replicate,List.length_set,List.length_map,List.length_zipWith,List.length_take,List.length_append,List.length_cons,List.length_nil];omega)) ?_|refine g_c (by assumption) ?_|refine g_o (op_pickF rfl (ev_ok rfl) (ev_ok rfl)) ?_|rw[beq_self_eq_true]|rw[bne_self_eq_false]|refine tst_ff t1 ?_|refine g_o (op_lenM rfl rfl rfl (ev_ok rfl) (tgt rfl) rfl) ?_|refine g_o (op_loadA rfl (ev_ok rfl) (tgt rfl) rfl (Nat.succ_ne_zero _) rfl) ?_|refine⟨_,op_neAgg tabOK goodOK rfl (ev_ok rfl) (ev_ok rfl) rfl rfl rfl rfl (zq_same _ _) zq_guard, ?_⟩|rw[t1]|rw[e2]|rw[f1]|rw[f2]|rw[f3]|rw[f4]|rw[Nat.zero_add]);conv=>whnf))
  refine SW_loopN hE (fun k=>k) [7,10,11,19,21] [10,19] (fun M fr hp=>∃i:Nat,M=r - i∧i≤r∧fr=[(7,iv r),(10,.ptr 10 0 0 0),(11,zvec C),(19,.ptr 19 0 0 0),(21,iv i)]∧hp=[(10,⟨51,true,.one [.int D]⟩),(19,⟨38,true,.one [fvec S,mvec 1 fvec []]⟩)]) r ?_ ?_ ?_
  ·kernel_rfl
  ·exact⟨0,rfl,Nat.zero_le _,rfl,rfl⟩
  rintro M _ _ ⟨i,rfl,hi,rfl,rfl⟩
  conv=>whnf
  by_cases hlt:i<r
  ·have t2:=dlt hlt
   have t3:=winc (i:=i) (by omega)
   have z1:=zC i hlt
   have z2:=fs_zs (C.getD i 0)
   have z3:=fs_zs D
   have kC:=lw_frac (C.getD i 0) (by omega)
   have kq:=f_Div ((C.getD i 0:Int):Rat) (D:Rat) hDR (by omega)
   rw[hcr i hlt]at kq
   have b1:i<C.length:=by omega
   have b2:i<S.length:=by omega
   clear k1 k2 k3 k4 k5 k6 k7 kw kf hcr zC
   (repeat((first|refine step_w1 rfl rfl ?_|refine step_w2 rfl rfl ?_|refine step_i (by kernel_rfl) ?_|refine g_c (by assumption) ?_|refine g_o (op_pickF rfl (ev_ok rfl) (ev_ok rfl)) ?_|rw[bne_self_eq_false]|refine tst_tt t2 ?_|refine g_o (op_indexN (α:=Rat) (d:=0) rfl (ev_ok rfl) (ev_ok rfl) (tgt rfl) rfl (tgt rfl) rfl (by omega)) ?_|refine g_o (op_loadA rfl (ev_ok rfl) (tgt rfl) rfl (Nat.succ_ne_zero _) rfl) ?_|refine g_o (op_indexN (α:=Int) (d:=0) rfl (ev_ok rfl) (ev_ok rfl) (tgt rfl) rfl (tgt rfl) rfl (by omega)) ?_|refine⟨_,op_neAgg tabOK goodOK rfl (ev_ok rfl) (ev_ok rfl) rfl rfl rfl rfl (q_eq (rfl)) q_guard, ?_⟩|rw[t2]|rw[t3]|rw[Nat.zero_add]);conv=>whnf))
   exact⟨r - (i+1),fun k=>k,[7,10,11,19,21],[10,19],by omega,by kernel_rfl,i+1,rfl,hlt,rfl,rfl⟩
  ·have t2:=dge hlt
   (repeat(first|(refine g_c (by assumption) ?_;conv=>whnf)|(refine tst_ff t2 ?_;conv=>whnf)));(first|exact Recast.refl _|exact Frz.recast (Recast.refl _) rfl|(refine Frz.one rfl rfl ?_;skip)|(refine Frz.tup ?_;skip))
theorem law_BareissCramer (a0:WW) (a1:Int) (a2:List Int) (w0:WWf a0) (w1:(Lit.int .u8 a1).wf=true) (w2:a2.length≤maxLen∧∀x∈a2,(Lit.int .i64 x).wf=true):
  CallOK Tryz.prog 11 [wQ a0,iel .u8 a1,ivec .i64 a2] [] (.val (.bool true)) [] []:=
 c_BCramer a0 a1 a2 (wOK_of w0) (wf_u8 w1) (wOK_of (m:=(0,0,a2)) ⟨(by decide:(Lit.int .u8 0).wf=true),(by decide:(Lit.int .u8 0).wf=true),w2⟩)
end Go.Proofs.YtbopchpncgdaaaaGreatDoor
