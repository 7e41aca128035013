/- The texts Bd. -/
import Derived.Test.YtbopchpncgdaaaaGreatDoorQLElimsDet3
namespace Go.Proofs.YtbopchpncgdaaaaGreatDoor
open Go.Sx
set_option linter.unusedSimpArgs false
set_option linter.unusedVariables false
set_option maxRecDepth 100000
set_option maxHeartbeats 40000000
theorem part_ok {r c n A:Nat} {a:List Rat} (ha:OKM r c a) (sa:Sm A a) (hnr:n≤r) (hnc:n≤c):OKM n n (mpart c a (upN n) (upN n))∧Sm A (mpart c a (upN n) (upN n))∧det n (el (mpart c a (upN n) (upN n)) n)=det n (el a c):=by
 have lu:=upN_len n
 have hrr:=ha.r
 have hpe:∀i k,i<n→k<n→el (mpart c a (upN n) (upN n)) n i k=el a c i k:=fun i k hi hk=>by
  have e:=mk_el (r:=(upN n).length) (c:=(upN n).length) (f:=fun i k=>el a c ((upN n).getD i 0).toNat ((upN n).getD k 0).toNat) (i:=i) (k:=k) (by omega) (by omega)
  rw[upN_at hi,upN_at hk]at e
  rw[lu]at e
  show el (mk (upN n).length (upN n).length _) n i k=_
  rw[lu]
  simpa using e
 have hl:(mpart c a (upN n) (upN n)).length=n*n:=by rw[mk_len,lu]
 refine⟨⟨by omega,by omega,hl⟩, ?_,det_congr hpe⟩
 intro p hp
 rw[hl]at hp
 obtain⟨d1,d2,d3⟩:=idx_split hp
 have:=hpe _ _ d1 d2
 unfold el at this
 rw[d3]at this
 rw[this]
 exact el_sm sa ha.n (by omega) (by omega)
theorem twinP_sm {n p q t B:Nat} {a:List Rat} (ha:OKM n n a) (sa:Sm B a) (hq:q<n):Sm B (twinP n a p q t):=Sm_mk fun i k hi hk=>by
 split
 ·exact el_sm sa ha.n hq hk
 ·exact el_sm sa ha.n hi hk
theorem twinP_at {n p q t:Nat} {a:List Rat} (hq:q<n) (ht:t<n) (h:p≠q):(twinP n a p q t).getD (q*n+t) 0=el a n q t:=by
 have:=mk_el (r:=n) (c:=n) (f:=fun i k=>if i=p∧k<t then el a n q k else el a n i k) hq ht
 rw[if_neg fun g=>h g.1.symm]at this
 exact this
theorem c_EDet (a b:MM) (n i0 k0:Int) (c:Int×Int) (ha:mOK a) (hb:mOK b) (hn:0≤n∧n<256) (hi0:0≤i0∧i0<256) (hk0:0≤k0∧k0<256) (hc:qOK c):
  CallOK Tryz.prog 6 [mQ a,mQ b,iel .u8 n,iel .u8 i0,iel .u8 k0,qA c] [] (.val (.bool true)) [] []:=by
 have kw:=l_works14
 have kf:=c_few14L [a,b] (by simp) (by intro m hm;simp only[List.mem_cons,List.not_mem_nil,or_false]at hm;rcases hm with rfl|rfl<;>assumption)
 cases hF:[a,b].all fun m=>decide (m.2.2.length≤40)
 ·rw[hF]at kf
  refine callF (Z:=[6,7,11,59,100035,100043]) tabOK mixedOK Tryz.func6 rfl (by kernel_rfl) (by first|rfl|(simp[keylessL,keyless,keylessL_map, *];done)) (by first|rfl|(simp[keylessL,keyless,keylessL_map, *];done)) (by kernel_rfl) rfl ?_
  intro w0 ρ0 hE
  conv=>whnf
  (repeat(first|(refine step_w1 rfl rfl ?_;conv=>whnf)|(refine g_c (by assumption) ?_;conv=>whnf)|(refine g_o (op_loadA rfl (ev_ok rfl) (tgt rfl) rfl (Nat.succ_ne_zero _) rfl) ?_;conv=>whnf)));(first|exact Recast.refl _|exact Frz.recast (Recast.refl _) rfl|(refine Frz.one rfl rfl ?_;skip)|(refine Frz.tup ?_;skip))
 rw[hF]at kf
 obtain⟨e1,e2⟩:=u8_mod n hn 6 (by decide)
 have r5:(n % 6).toNat≤5:=by omega
 generalize (n % 6).toNat=r at*
 have x1:=c_Some a ha (r:=r) (c:=r) (by omega) (by omega)
 have y1:=c_Some b hb (r:=r) (c:=r) (by omega) (by omega)
 have hx:=OKM_some a.2.2 (r:=r) (c:=r) (by omega) (by omega)
 have hy:=OKM_some b.2.2 (r:=r) (c:=r) (by omega) (by omega)
 have sx:=Sm_some ha.2.2.2 (r*r)
 have sy:=Sm_some hb.2.2.2 (r*r)
 generalize someL a.2.2 (r*r)=x at*
 generalize someL b.2.2 (r*r)=y at*
 have kD:=e_DetW hx (by omega) sx (by decide) (by decide)
 have kE:=e_DetW hy (by omega) sy (by decide) (by decide)
 have d1:=det_fs hx (by omega) sx (by decide)
 have d2:=det_fs hy (by omega) sy (by decide)
 have o2:=m_Mul 5 hx hy sx sy r5 (by decide)
 have hxy:=OKM_mul hx hy
 have sxy:Sm 1302 (mmul r r r x y):=Sm_mul hx.n hy.n sx sy r5
 have kP:=e_DetW hxy (by omega) sxy (by decide) (by decide)
 rw[detL_mul]at kP
 have o3:=m_Turn hx
 have kT:=e_DetW (OKM_turn hx) (by omega) (Sm_turn hx.n sx) (by decide) (by decide)
 rw[detL_turn]at kT
 have ki:CallOK Tryz.prog 41 [iv 1] [] (.frac 1) [] []:=c_fInt 1 (by decide) (by decide)
 rcases Nat.eq_zero_or_pos r with h0|h0
 ·subst h0
  have f0:=f_Mul (det 0 (el x 0)) (det 0 (el y 0)) (by omega)
  have g0:∀A:Mx,det 0 A=1:=fun _=>rfl
  rw[g0]at kD kE kT
  rw[g0,g0,Rat.mul_one]at kP f0
  clear g0
  refine callF (Z:=[6,7,11,59,100035,100043]) tabOK mixedOK Tryz.func6 rfl (by kernel_rfl) (by first|rfl|(simp[keylessL,keyless,keylessL_map, *];done)) (by first|rfl|(simp[keylessL,keyless,keylessL_map, *];done)) (by kernel_rfl) rfl ?_
  intro w0 ρ0 hE
  conv=>whnf
  (repeat((first|refine step_w1 rfl rfl ?_|refine step_w2 rfl rfl ?_|refine step_i (by kernel_rfl) ?_|refine step_oN (by first|omega|decide|(simp only[tl0,dlen,List.length_replicate,List.length_set,List.length_map,List.length_zipWith,List.length_take,List.length_append,List.length_cons,List.length_nil];omega)) ?_|refine g_c (by assumption) ?_|refine g_o (op_pickT rfl (ev_ok rfl) (ev_ok rfl)) ?_|refine g_o (op_pickF rfl (ev_ok rfl) (ev_ok rfl)) ?_|rw[bne_self_eq_false]|refine g_o (op_loadA rfl (ev_ok rfl) (tgt rfl) rfl (Nat.succ_ne_zero _) rfl) ?_|refine⟨_,op_eqAgg tabOK goodOK rfl (ev_ok rfl) (ev_ok rfl) rfl rfl rfl rfl (q_eq (rfl)) q_guard, ?_⟩|refine⟨_,op_neAgg tabOK goodOK rfl (ev_ok rfl) (ev_ok rfl) rfl rfl rfl rfl (q_eq (rfl)) q_guard, ?_⟩|rw[e2]);conv=>whnf));(first|exact Recast.refl _|exact Frz.recast (Recast.refl _) rfl|(refine Frz.one rfl rfl ?_;skip)|(refine Frz.tup ?_;skip))
 obtain⟨p,hp,p1,p2,p3⟩:=rem_of hi0 h0 (by omega)
 obtain⟨q,hq,q1,q2,q3⟩:=rem_of hk0 h0 (by omega)
 have f0:=f_Mul (det r (el x r)) (det r (el y r)) (by omega)
 have kC1:=c_changed (x:=0) hx sx hp hq (by omega) (by omega) (by rw[fs_zero];decide)
 have kV1:=e_DetW (OKM_chg (i:=p) (k:=q) (x:=0) hx) (by omega) (chgL_sm (x:=0) hx sx (Nat.le_of_eq fs_zero) hp hq) (by decide) (by decide)
 rw[chgL_det hp hq,if_pos rfl]at kV1
 have kQ:=c_QOf c hc
 have fw:=fs_qV hc
 generalize qV c=w at*
 have kC2:=c_changed (x:=w) hx sx hp hq (by omega) (by omega) (by omega)
 have kV2:=e_DetW (OKM_chg (i:=p) (k:=q) (x:=w) hx) (by omega) (chgL_sm (x:=w) hx sx fw hp hq) (by decide) (by decide)
 rw[chgL_det hp hq]at kV2
 have kN:=c_fNeg (det r (el x r))
 have kM:=f_Mul w (det r (el x r)) (by omega)
 have kS:=c_fSign w
 obtain⟨a1,a2,a3⟩:=part_ok hx sx (Nat.le_of_lt hp) (Nat.le_of_lt hp)
 have hu:∀z∈upN p,0≤z∧z<(r:Int):=by intro z hz;simp only[upN,List.mem_map,List.mem_range]at hz;obtain⟨i,hi,rfl⟩:=hz;omega
 have lu:=upN_len p
 have o4:=m_Part hx (upN p) (upN p) (by omega) (by omega) hu hu
 rw[lu]at o4
 have kL:=e_DetW a1 (by omega) a2 (by decide) (by decide)
 rw[a3]at kL
 have m1:=e_Minor (n:=p) hx (by omega) (by omega) (by omega) sx (by decide) (by decide)
 have m2:=e_Minor (n:=r) hx (by omega) (Nat.le_refl _) (Nat.le_refl _) sx (by decide) (by decide)
 have m3:=e_MinorE hx ((r+1:Nat):Int) (by omega)
 have m4:=e_MinorE hx (-1) (by omega)
 have m5:=e_Minor (n:=0) hx (by omega) (by omega) (by omega) sx (by decide) (by decide)
 replace m5:CallOK Tryz.prog 22 [mA r r x,iv 0] [] (.tup [.frac 1,iv 0]) [] []:=m5
 have w3:=winc (i:=r) (by omega)
 have hal:=hx.n
 have hrr:r*r≤6*6:=Nat.mul_le_mul (by omega) (by omega)
 have c0:((r:Int)==0)=false:=beq_eq_false_iff_ne.2 (by omega)
 have sTw:=fun t=>twinP_sm (p:=p) (q:=q) (t:=t) hx sx hq
 have tdet:=fun h:p≠q=>twinP_det (a:=x) hp hq h
 have okr:=hx.r
 clear hy sy sxy hxy d1 d2 a1 a2 a3 hu sx hx
 generalize mpart r x (upN p) (upN p)=PM at*
 generalize mmul r r r x y=XY at*
 generalize mturn r r x=TX at*
 generalize det p (el x r)=DP at*
 generalize det r (el x r)=D at*
 generalize det r (el y r)=E at*
 by_cases hpq:p=q
 ·subst hpq
  have c1:((p:Int)==(p:Int))=true:=beq_self_eq_true _
  have c2:((p:Int) != (p:Int))=false:=bne_self_eq_false _
  rw[if_pos rfl]at kV1
  by_cases hw:w=0
  ·subst hw
   have c3:((0:Rat).num.sign==0)=true:=rfl
   rw[if_pos rfl,if_pos rfl]at kV2
   refine callF (Z:=[6,7,11,59,100035,100043]) tabOK mixedOK Tryz.func6 rfl (by kernel_rfl) (by first|rfl|(simp[keylessL,keyless,keylessL_map, *];done)) (by first|rfl|(simp[keylessL,keyless,keylessL_map, *];done)) (by kernel_rfl) rfl ?_
   intro w0 ρ0 hE
   conv=>whnf
   (repeat((first|refine step_w1 rfl rfl ?_|refine step_w2 rfl rfl ?_|refine step_i (by kernel_rfl) ?_|refine step_oN (by first|omega|decide|(simp only[tl0,dlen,List.length_replicate,List.length_set,List.length_map,List.length_zipWith,List.length_take,List.length_append,List.length_cons,List.length_nil];omega)) ?_|refine g_c (by assumption) ?_|refine g_o (op_pickF rfl (ev_ok rfl) (ev_ok rfl)) ?_|rw[beq_self_eq_true]|rw[bne_self_eq_false]|refine tst_ff c0 ?_|refine g_o (op_loadA rfl (ev_ok rfl) (tgt rfl) rfl (Nat.succ_ne_zero _) rfl) ?_|refine⟨_,op_neAgg tabOK goodOK rfl (ev_ok rfl) (ev_ok rfl) rfl rfl rfl rfl (q_eq (rfl)) q_guard, ?_⟩|rw[e2]|rw[c0]|rw[p1]|rw[p2]|rw[q1]|rw[q2]|rw[c3]);conv=>whnf))
   refine SWx_adopt (t:=41) (k:=2002) (s:=1) (blk:=iblkM []) rfl rfl rfl ?_
   refine SW_loopN hE (fun k=>k) [13,14,16,28,41,42] [14,16,2002] (fun m fr hp=>∃i:Nat,m=p - i∧i≤p∧fr=[(13,iv r),(14,.ptr 14 0 0 0),(16,.ptr 16 0 0 0),(28,iv p),(41,.slc 2002 1 0 i),(42,iv i)]∧
    hp=[(14,⟨24,true,.one (mC r r x)⟩),(16,⟨53,true,.one [.frac D]⟩),(2002,iblkM (upN i))]) p ?_ ?_ ?_
   ·kernel_rfl
   ·exact⟨0,rfl,Nat.zero_le _,rfl,rfl⟩
   rintro m _ _ ⟨i,rfl,hi,rfl,rfl⟩
   conv=>whnf
   by_cases hlt:i<p
   ·have lq:=upN_len i
    have s4:=dlt hlt
    have s5:=winc (i:=i) (by omega)
    have e7:=app_int (l:=upN i) (x:=(i:Int))
    rw[lq,←upN_succ]at e7
    clear kw kf x1 y1 kD kE o2 kP o3 kT kC1 kC2 kV1 kV2 m1 m2 m3 m4 m5 o4 kL
    (repeat((first|refine step_oA (by first|omega|decide|(simp only[tl0,dlen,List.length_replicate,List.length_set,List.length_map,List.length_zipWith,List.length_take,List.length_append,List.length_cons,List.length_nil];omega)) ?_|refine tst_tt s4 ?_|rw[s4]|rw[s5]);conv=>whnf))
    refine⟨p - (i+1),renBy [(236,2002)],[13,14,16,28,41,42],[14,16,236],by omega,by kernel_rfl,i+1,rfl,hlt,rfl, ?_⟩
    rw[e7];rfl
   ·have s4:=dge hlt
    obtain rfl:i=p:=by omega
    (repeat(first|(refine tst_ff s4 ?_;conv=>whnf)|(rw[s4];conv=>whnf)))
    refine SWx_freezeI 41 2002 (fun _ h=>h) rfl rfl lu.symm ?_
    refine SWx_go hE ?_
    conv=>whnf
    (repeat((first|refine step_w1 rfl rfl ?_|refine step_i (by kernel_rfl) ?_|refine g_c (by assumption) ?_|refine g_o (op_pickT rfl (ev_ok rfl) (ev_ok rfl)) ?_|rw[beq_self_eq_true]|refine⟨_,op_eqAgg tabOK goodOK rfl (ev_ok rfl) (ev_ok rfl) rfl rfl rfl rfl (q_eq (rfl)) q_guard, ?_⟩|rw[w3]);conv=>whnf));(first|exact Recast.refl _|exact Frz.recast (Recast.refl _) rfl|(refine Frz.one rfl rfl ?_;skip)|(refine Frz.tup ?_;skip))
  ·have c3:(w.num.sign==0)=false:=beq_eq_false_iff_ne.2 fun g=>hw (Rat.num_eq_zero.1 (Int.sign_eq_zero_iff_zero.1 g))
   rw[if_neg hw,if_pos rfl]at kV2
   refine callF (Z:=[6,7,11,59,100035,100043]) tabOK mixedOK Tryz.func6 rfl (by kernel_rfl) (by first|rfl|(simp[keylessL,keyless,keylessL_map, *];done)) (by first|rfl|(simp[keylessL,keyless,keylessL_map, *];done)) (by kernel_rfl) rfl ?_
   intro w0 ρ0 hE
   conv=>whnf
   (repeat((first|refine step_w1 rfl rfl ?_|refine step_w2 rfl rfl ?_|refine step_i (by kernel_rfl) ?_|refine step_oN (by first|omega|decide|(simp only[tl0,dlen,List.length_replicate,List.length_set,List.length_map,List.length_zipWith,List.length_take,List.length_append,List.length_cons,List.length_nil];omega)) ?_|refine g_c (by assumption) ?_|refine g_o (op_pickF rfl (ev_ok rfl) (ev_ok rfl)) ?_|rw[beq_self_eq_true]|rw[bne_self_eq_false]|refine tst_ff c0 ?_|refine tst_ff c3 ?_|refine g_o (op_loadA rfl (ev_ok rfl) (tgt rfl) rfl (Nat.succ_ne_zero _) rfl) ?_|refine⟨_,op_neAgg tabOK goodOK rfl (ev_ok rfl) (ev_ok rfl) rfl rfl rfl rfl (q_eq (rfl)) q_guard, ?_⟩|rw[e2]|rw[c0]|rw[p1]|rw[p2]|rw[q1]|rw[q2]|rw[c3]);conv=>whnf))
   refine SWx_adopt (t:=41) (k:=2002) (s:=1) (blk:=iblkM []) rfl rfl rfl ?_
   refine SW_loopN hE (fun k=>k) [13,14,16,28,41,42] [14,16,2002] (fun m fr hp=>∃i:Nat,m=p - i∧i≤p∧fr=[(13,iv r),(14,.ptr 14 0 0 0),(16,.ptr 16 0 0 0),(28,iv p),(41,.slc 2002 1 0 i),(42,iv i)]∧
    hp=[(14,⟨24,true,.one (mC r r x)⟩),(16,⟨53,true,.one [.frac D]⟩),(2002,iblkM (upN i))]) p ?_ ?_ ?_
   ·kernel_rfl
   ·exact⟨0,rfl,Nat.zero_le _,rfl,rfl⟩
   rintro m _ _ ⟨i,rfl,hi,rfl,rfl⟩
   conv=>whnf
   by_cases hlt:i<p
   ·have lq:=upN_len i
    have s4:=dlt hlt
    have s5:=winc (i:=i) (by omega)
    have e7:=app_int (l:=upN i) (x:=(i:Int))
    rw[lq,←upN_succ]at e7
    clear kw kf x1 y1 kD kE o2 kP o3 kT kC1 kC2 kV1 kV2 m1 m2 m3 m4 m5 o4 kL
    (repeat((first|refine step_oA (by first|omega|decide|(simp only[tl0,dlen,List.length_replicate,List.length_set,List.length_map,List.length_zipWith,List.length_take,List.length_append,List.length_cons,List.length_nil];omega)) ?_|refine tst_tt s4 ?_|rw[s4]|rw[s5]);conv=>whnf))
    refine⟨p - (i+1),renBy [(236,2002)],[13,14,16,28,41,42],[14,16,236],by omega,by kernel_rfl,i+1,rfl,hlt,rfl, ?_⟩
    rw[e7];rfl
   ·have s4:=dge hlt
    obtain rfl:i=p:=by omega
    (repeat(first|(refine tst_ff s4 ?_;conv=>whnf)|(rw[s4];conv=>whnf)))
    refine SWx_freezeI 41 2002 (fun _ h=>h) rfl rfl lu.symm ?_
    refine SWx_go hE ?_
    conv=>whnf
    (repeat((first|refine step_w1 rfl rfl ?_|refine step_i (by kernel_rfl) ?_|refine g_c (by assumption) ?_|refine g_o (op_pickT rfl (ev_ok rfl) (ev_ok rfl)) ?_|rw[beq_self_eq_true]|refine⟨_,op_eqAgg tabOK goodOK rfl (ev_ok rfl) (ev_ok rfl) rfl rfl rfl rfl (q_eq (rfl)) q_guard, ?_⟩|rw[w3]);conv=>whnf));(first|exact Recast.refl _|exact Frz.recast (Recast.refl _) rfl|(refine Frz.one rfl rfl ?_;skip)|(refine Frz.tup ?_;skip))
 ·have c1:((p:Int)==(q:Int))=false:=beq_eq_false_iff_ne.2 (by omega)
  have c2:((p:Int) != (q:Int))=true:=bne_iff_ne.2 (by omega)
  have kTw:=e_DetW (a:=twinP r x p q r) ⟨okr,okr,mk_len ..⟩ (by omega) (sTw r) (by decide) (by decide)
  rw[tdet hpq]at kTw
  clear tdet sTw
  rw[if_neg hpq]at kV1
  by_cases hw:w=0
  ·subst hw
   have c3:((0:Rat).num.sign==0)=true:=rfl
   rw[if_pos rfl,if_neg hpq]at kV2
   refine callF (Z:=[6,7,11,59,100035,100043]) tabOK mixedOK Tryz.func6 rfl (by kernel_rfl) (by first|rfl|(simp[keylessL,keyless,keylessL_map, *];done)) (by first|rfl|(simp[keylessL,keyless,keylessL_map, *];done)) (by kernel_rfl) rfl ?_
   intro w0 ρ0 hE
   conv=>whnf
   (repeat(first|(refine step_w1 rfl rfl ?_;conv=>whnf)|(refine step_w2 rfl rfl ?_;conv=>whnf)|(refine step_i (by kernel_rfl) ?_;conv=>whnf)|(refine step_oN (by first|omega|decide|(simp only[tl0,dlen,List.length_replicate,List.length_set,List.length_map,List.length_zipWith,List.length_take,List.length_append,List.length_cons,List.length_nil];omega)) ?_;conv=>whnf)|(refine g_c (by assumption) ?_;conv=>whnf)|(refine g_o (op_pickF rfl (ev_ok rfl) (ev_ok rfl)) ?_;conv=>whnf)|(rw[bne_self_eq_false];conv=>whnf)|(refine tst_ff c0 ?_;conv=>whnf)|(refine tst_ff c1 ?_;conv=>whnf)|(refine tst_tt c2 ?_;conv=>whnf)|(refine g_o (op_loadA rfl (ev_ok rfl) (tgt rfl) rfl (Nat.succ_ne_zero _) rfl) ?_;conv=>whnf)|(refine⟨_,op_neAgg tabOK goodOK rfl (ev_ok rfl) (ev_ok rfl) rfl rfl rfl rfl (q_eq (rfl)) q_guard, ?_⟩;conv=>whnf)|(refine⟨.slc 196 5 0 (r*r),[(193,fblk [])],[(196,fblk x)],[(193,⟨53,true,.dead⟩)],op_appendE rfl rfl rfl (ev_ok rfl) (ev_ok rfl) (rows_fracs x) (tabOK.get (t:=22) rfl) rfl (tabOK.get (t:=22) rfl) rfl (tabOK.get (t:=53) rfl) (List.mem_cons_self ..) rfl rfl (by simp[hal]) (by simp[dlen,hal]) (by simp[dapp];exact List.take_of_length_le (Nat.le_of_eq hal)) (by show(0+_)*ti53.bytes≤_;simp only[tiB53];omega) (by omega),one_fk rfl,one_new rfl,one_upd (List.mem_cons_self ..) rfl rfl rfl, ?_⟩;conv=>whnf)|(rw[e2];conv=>whnf)|(rw[c0];conv=>whnf)|(rw[p1];conv=>whnf)|(rw[p2];conv=>whnf)|(rw[q1];conv=>whnf)|(rw[q2];conv=>whnf)|(rw[c1];conv=>whnf)|(rw[c2];conv=>whnf)|(rw[c3];conv=>whnf)|(rw[Nat.zero_add];conv=>whnf)))
   refine SW_loopN hE (fun k=>k) [13,14,16,28,29,37,38] [14,16,37,196] (fun m fr hp=>∃t:Nat,m=r - t∧t≤r∧fr=[(13,iv r),(14,.ptr 14 0 0 0),(16,.ptr 16 0 0 0),(28,iv p),(29,iv q),(37,.ptr 37 0 0 0),(38,iv t)]∧
    hp=[(14,⟨24,true,.one (mC r r x)⟩),(16,⟨53,true,.one [.frac D]⟩),(37,⟨24,true,.one [iv r,iv r,.slc 196 5 0 (r*r)]⟩),(196,fblk (twinP r x p q t))]) r ?_ ?_ ?_
   ·kernel_rfl
   ·exact⟨0,rfl,Nat.zero_le _,rfl,by rw[twinP_zero hal];rfl⟩
   rintro m _ _ ⟨t,rfl,ht,rfl,rfl⟩
   have hL:(twinP r x p q t).length=r*r:=mk_len ..
   conv=>whnf
   by_cases htr:t<r
   ·have s1:=dlt htr
    have s2:=winc (i:=t) (by omega)
    obtain⟨v1,v2⟩:=idx_w (i:=p) (k:=t) (c:=r) (by omega) (by omega) (by omega)
    obtain⟨v3,v4⟩:=idx_w (i:=q) (k:=t) (c:=r) (by omega) (by omega) (by omega)
    have b1:=idx_lt hp htr
    have b2:=idx_lt hq htr
    have e7:=twinP_succ (a:=x) (q:=q) hp htr
    rw[←twinP_at (p:=p) (a:=x) hq htr hpq]at e7
    clear kw kf x1 y1 kD kE o2 kP o3 kT kC1 kC2 kV1 kV2 m1 m2 m3 m4 m5 o4 kL kTw
    generalize twinP r x p q t=L at*
    (repeat((first|refine step_i (by kernel_rfl) ?_|refine step_oL (by first|omega|decide|(simp only[tl0,dlen,List.length_replicate,List.length_set,List.length_map,List.length_zipWith,List.length_take,List.length_append,List.length_cons,List.length_nil];omega)) ?_|refine step_oA (by first|omega|decide|(simp only[tl0,dlen,List.length_replicate,List.length_set,List.length_map,List.length_zipWith,List.length_take,List.length_append,List.length_cons,List.length_nil];omega)) ?_|refine tst_tt s1 ?_|rw[s1]|rw[s2]|rw[v1]|rw[v2]|rw[v3]|rw[v4]|rw[Int.toNat_natCast]|rw[Nat.zero_add]);conv=>whnf))
    exact⟨r - (t+1),fun k=>k,[13,14,16,28,29,37,38],[14,16,37,196],by omega,by kernel_rfl,t+1,rfl,htr,rfl,by rw[←e7];rfl⟩
   have s1:=dge htr
   obtain rfl:r=t:=by omega
   (repeat(first|(refine tst_ff s1 ?_;conv=>whnf)|(rw[s1];conv=>whnf)))
   refine SWx_freezeCF 37 2 196 (fun _ h=>h) rfl (by decide) rfl rfl hL.symm ?_
   refine SWx_go hE ?_
   conv=>whnf
   (repeat(first|(refine step_w2 rfl rfl ?_;conv=>whnf)|(refine g_c (by assumption) ?_;conv=>whnf)|(refine⟨_,op_neAgg tabOK goodOK rfl (ev_ok rfl) (ev_ok rfl) rfl rfl rfl rfl (q_eq (rfl)) q_guard, ?_⟩;conv=>whnf)))
   refine SWx_adopt (t:=41) (k:=2002) (s:=1) (blk:=iblkM []) rfl rfl rfl ?_
   refine SW_loopN hE (fun k=>k) [13,14,16,28,41,42] [14,16,2002] (fun m fr hp=>∃i:Nat,m=p - i∧i≤p∧fr=[(13,iv r),(14,.ptr 14 0 0 0),(16,.ptr 16 0 0 0),(28,iv p),(41,.slc 2002 1 0 i),(42,iv i)]∧
    hp=[(14,⟨24,true,.one (mC r r x)⟩),(16,⟨53,true,.one [.frac D]⟩),(2002,iblkM (upN i))]) p ?_ ?_ ?_
   ·kernel_rfl
   ·exact⟨0,rfl,Nat.zero_le _,rfl,rfl⟩
   rintro m _ _ ⟨i,rfl,hi,rfl,rfl⟩
   conv=>whnf
   by_cases hlt:i<p
   ·have lq:=upN_len i
    have s4:=dlt hlt
    have s5:=winc (i:=i) (by omega)
    have e7:=app_int (l:=upN i) (x:=(i:Int))
    rw[lq,←upN_succ]at e7
    clear kw kf x1 y1 kD kE o2 kP o3 kT kC1 kC2 kV1 kV2 m1 m2 m3 m4 m5 o4 kL
    (repeat((first|refine step_oA (by first|omega|decide|(simp only[tl0,dlen,List.length_replicate,List.length_set,List.length_map,List.length_zipWith,List.length_take,List.length_append,List.length_cons,List.length_nil];omega)) ?_|refine tst_tt s4 ?_|rw[s4]|rw[s5]);conv=>whnf))
    refine⟨p - (i+1),renBy [(236,2002)],[13,14,16,28,41,42],[14,16,236],by omega,by kernel_rfl,i+1,rfl,hlt,rfl, ?_⟩
    rw[e7];rfl
   ·have s4:=dge hlt
    obtain rfl:i=p:=by omega
    (repeat(first|(refine tst_ff s4 ?_;conv=>whnf)|(rw[s4];conv=>whnf)))
    refine SWx_freezeI 41 2002 (fun _ h=>h) rfl rfl lu.symm ?_
    refine SWx_go hE ?_
    conv=>whnf
    (repeat((first|refine step_w1 rfl rfl ?_|refine step_i (by kernel_rfl) ?_|refine g_c (by assumption) ?_|refine g_o (op_pickT rfl (ev_ok rfl) (ev_ok rfl)) ?_|rw[beq_self_eq_true]|refine⟨_,op_eqAgg tabOK goodOK rfl (ev_ok rfl) (ev_ok rfl) rfl rfl rfl rfl (q_eq (rfl)) q_guard, ?_⟩|rw[w3]);conv=>whnf));(first|exact Recast.refl _|exact Frz.recast (Recast.refl _) rfl|(refine Frz.one rfl rfl ?_;skip)|(refine Frz.tup ?_;skip))
  ·have c3:(w.num.sign==0)=false:=beq_eq_false_iff_ne.2 fun g=>hw (Rat.num_eq_zero.1 (Int.sign_eq_zero_iff_zero.1 g))
   rw[if_neg hw,if_neg hpq]at kV2
   refine callF (Z:=[6,7,11,59,100035,100043]) tabOK mixedOK Tryz.func6 rfl (by kernel_rfl) (by first|rfl|(simp[keylessL,keyless,keylessL_map, *];done)) (by first|rfl|(simp[keylessL,keyless,keylessL_map, *];done)) (by kernel_rfl) rfl ?_
   intro w0 ρ0 hE
   conv=>whnf
   (repeat(first|(refine step_w1 rfl rfl ?_;conv=>whnf)|(refine step_w2 rfl rfl ?_;conv=>whnf)|(refine step_i (by kernel_rfl) ?_;conv=>whnf)|(refine step_oN (by first|omega|decide|(simp only[tl0,dlen,List.length_replicate,List.length_set,List.length_map,List.length_zipWith,List.length_take,List.length_append,List.length_cons,List.length_nil];omega)) ?_;conv=>whnf)|(refine g_c (by assumption) ?_;conv=>whnf)|(refine g_o (op_pickF rfl (ev_ok rfl) (ev_ok rfl)) ?_;conv=>whnf)|(rw[bne_self_eq_false];conv=>whnf)|(refine tst_ff c0 ?_;conv=>whnf)|(refine tst_ff c1 ?_;conv=>whnf)|(refine tst_tt c2 ?_;conv=>whnf)|(refine tst_ff c3 ?_;conv=>whnf)|(refine g_o (op_loadA rfl (ev_ok rfl) (tgt rfl) rfl (Nat.succ_ne_zero _) rfl) ?_;conv=>whnf)|(refine⟨_,op_neAgg tabOK goodOK rfl (ev_ok rfl) (ev_ok rfl) rfl rfl rfl rfl (q_eq (rfl)) q_guard, ?_⟩;conv=>whnf)|(refine⟨.slc 196 5 0 (r*r),[(193,fblk [])],[(196,fblk x)],[(193,⟨53,true,.dead⟩)],op_appendE rfl rfl rfl (ev_ok rfl) (ev_ok rfl) (rows_fracs x) (tabOK.get (t:=22) rfl) rfl (tabOK.get (t:=22) rfl) rfl (tabOK.get (t:=53) rfl) (List.mem_cons_self ..) rfl rfl (by simp[hal]) (by simp[dlen,hal]) (by simp[dapp];exact List.take_of_length_le (Nat.le_of_eq hal)) (by show(0+_)*ti53.bytes≤_;simp only[tiB53];omega) (by omega),one_fk rfl,one_new rfl,one_upd (List.mem_cons_self ..) rfl rfl rfl, ?_⟩;conv=>whnf)|(rw[e2];conv=>whnf)|(rw[c0];conv=>whnf)|(rw[p1];conv=>whnf)|(rw[p2];conv=>whnf)|(rw[q1];conv=>whnf)|(rw[q2];conv=>whnf)|(rw[c1];conv=>whnf)|(rw[c2];conv=>whnf)|(rw[c3];conv=>whnf)|(rw[Nat.zero_add];conv=>whnf)))
   refine SW_loopN hE (fun k=>k) [13,14,16,28,29,37,38] [14,16,37,196] (fun m fr hp=>∃t:Nat,m=r - t∧t≤r∧fr=[(13,iv r),(14,.ptr 14 0 0 0),(16,.ptr 16 0 0 0),(28,iv p),(29,iv q),(37,.ptr 37 0 0 0),(38,iv t)]∧
    hp=[(14,⟨24,true,.one (mC r r x)⟩),(16,⟨53,true,.one [.frac D]⟩),(37,⟨24,true,.one [iv r,iv r,.slc 196 5 0 (r*r)]⟩),(196,fblk (twinP r x p q t))]) r ?_ ?_ ?_
   ·kernel_rfl
   ·exact⟨0,rfl,Nat.zero_le _,rfl,by rw[twinP_zero hal];rfl⟩
   rintro m _ _ ⟨t,rfl,ht,rfl,rfl⟩
   have hL:(twinP r x p q t).length=r*r:=mk_len ..
   conv=>whnf
   by_cases htr:t<r
   ·have s1:=dlt htr
    have s2:=winc (i:=t) (by omega)
    obtain⟨v1,v2⟩:=idx_w (i:=p) (k:=t) (c:=r) (by omega) (by omega) (by omega)
    obtain⟨v3,v4⟩:=idx_w (i:=q) (k:=t) (c:=r) (by omega) (by omega) (by omega)
    have b1:=idx_lt hp htr
    have b2:=idx_lt hq htr
    have e7:=twinP_succ (a:=x) (q:=q) hp htr
    rw[←twinP_at (p:=p) (a:=x) hq htr hpq]at e7
    clear kw kf x1 y1 kD kE o2 kP o3 kT kC1 kC2 kV1 kV2 m1 m2 m3 m4 m5 o4 kL kTw
    generalize twinP r x p q t=L at*
    (repeat((first|refine step_i (by kernel_rfl) ?_|refine step_oL (by first|omega|decide|(simp only[tl0,dlen,List.length_replicate,List.length_set,List.length_map,List.length_zipWith,List.length_take,List.length_append,List.length_cons,List.length_nil];omega)) ?_|refine step_oA (by first|omega|decide|(simp only[tl0,dlen,List.length_replicate,List.length_set,List.length_map,List.length_zipWith,List.length_take,List.length_append,List.length_cons,List.length_nil];omega)) ?_|refine tst_tt s1 ?_|rw[s1]|rw[s2]|rw[v1]|rw[v2]|rw[v3]|rw[v4]|rw[Int.toNat_natCast]|rw[Nat.zero_add]);conv=>whnf))
    exact⟨r - (t+1),fun k=>k,[13,14,16,28,29,37,38],[14,16,37,196],by omega,by kernel_rfl,t+1,rfl,htr,rfl,by rw[←e7];rfl⟩
   have s1:=dge htr
   obtain rfl:r=t:=by omega
   (repeat(first|(refine tst_ff s1 ?_;conv=>whnf)|(rw[s1];conv=>whnf)))
   refine SWx_freezeCF 37 2 196 (fun _ h=>h) rfl (by decide) rfl rfl hL.symm ?_
   refine SWx_go hE ?_
   conv=>whnf
   (repeat(first|(refine step_w2 rfl rfl ?_;conv=>whnf)|(refine g_c (by assumption) ?_;conv=>whnf)|(refine⟨_,op_neAgg tabOK goodOK rfl (ev_ok rfl) (ev_ok rfl) rfl rfl rfl rfl (q_eq (rfl)) q_guard, ?_⟩;conv=>whnf)))
   refine SWx_adopt (t:=41) (k:=2002) (s:=1) (blk:=iblkM []) rfl rfl rfl ?_
   refine SW_loopN hE (fun k=>k) [13,14,16,28,41,42] [14,16,2002] (fun m fr hp=>∃i:Nat,m=p - i∧i≤p∧fr=[(13,iv r),(14,.ptr 14 0 0 0),(16,.ptr 16 0 0 0),(28,iv p),(41,.slc 2002 1 0 i),(42,iv i)]∧
    hp=[(14,⟨24,true,.one (mC r r x)⟩),(16,⟨53,true,.one [.frac D]⟩),(2002,iblkM (upN i))]) p ?_ ?_ ?_
   ·kernel_rfl
   ·exact⟨0,rfl,Nat.zero_le _,rfl,rfl⟩
   rintro m _ _ ⟨i,rfl,hi,rfl,rfl⟩
   conv=>whnf
   by_cases hlt:i<p
   ·have lq:=upN_len i
    have s4:=dlt hlt
    have s5:=winc (i:=i) (by omega)
    have e7:=app_int (l:=upN i) (x:=(i:Int))
    rw[lq,←upN_succ]at e7
    clear kw kf x1 y1 kD kE o2 kP o3 kT kC1 kC2 kV1 kV2 m1 m2 m3 m4 m5 o4 kL
    (repeat((first|refine step_oA (by first|omega|decide|(simp only[tl0,dlen,List.length_replicate,List.length_set,List.length_map,List.length_zipWith,List.length_take,List.length_append,List.length_cons,List.length_nil];omega)) ?_|refine tst_tt s4 ?_|rw[s4]|rw[s5]);conv=>whnf))
    refine⟨p - (i+1),renBy [(236,2002)],[13,14,16,28,41,42],[14,16,236],by omega,by kernel_rfl,i+1,rfl,hlt,rfl, ?_⟩
    rw[e7];rfl
   ·have s4:=dge hlt
    obtain rfl:i=p:=by omega
    (repeat(first|(refine tst_ff s4 ?_;conv=>whnf)|(rw[s4];conv=>whnf)))
    refine SWx_freezeI 41 2002 (fun _ h=>h) rfl rfl lu.symm ?_
    refine SWx_go hE ?_
    conv=>whnf
    (repeat((first|refine step_w1 rfl rfl ?_|refine step_i (by kernel_rfl) ?_|refine g_c (by assumption) ?_|refine g_o (op_pickT rfl (ev_ok rfl) (ev_ok rfl)) ?_|rw[beq_self_eq_true]|refine⟨_,op_eqAgg tabOK goodOK rfl (ev_ok rfl) (ev_ok rfl) rfl rfl rfl rfl (q_eq (rfl)) q_guard, ?_⟩|rw[w3]);conv=>whnf));(first|exact Recast.refl _|exact Frz.recast (Recast.refl _) rfl|(refine Frz.one rfl rfl ?_;skip)|(refine Frz.tup ?_;skip))
theorem law_ElimsDet (a0 a1:MM) (a2 a3 a4:Int) (a5:Int×Int) (w0:MWf a0) (w1:MWf a1) (w2:(Lit.int .u8 a2).wf=true) (w3:(Lit.int .u8 a3).wf=true) (w4:(Lit.int .u8 a4).wf=true) (w5:((Lit.int .i64 a5.1).wf=true)∧((Lit.int .u32 a5.2).wf=true)):
  CallOK Tryz.prog 6 [mQ a0,mQ a1,iel .u8 a2,iel .u8 a3,iel .u8 a4,qA a5] [] (.val (.bool true)) [] []:=c_EDet a0 a1 a2 a3 a4 a5 (mOK_of w0) (mOK_of w1) (wf_u8 w2) (wf_u8 w3) (wf_u8 w4) (qOK_one w5)
end Go.Proofs.YtbopchpncgdaaaaGreatDoor
