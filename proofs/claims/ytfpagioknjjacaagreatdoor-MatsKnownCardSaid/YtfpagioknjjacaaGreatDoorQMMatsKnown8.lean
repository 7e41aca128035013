/- The texts Kv. -/
import Derived.Test.YtfpagioknjjacaaGreatDoorQMMatsKnown7
namespace Go.Proofs.YtfpagioknjjacaaGreatDoor
open Go.Sx
set_option linter.unusedSimpArgs false
set_option linter.unusedVariables false
set_option maxRecDepth 100000
set_option maxHeartbeats 40000000
structure Shut (p:Prop):Prop where
 out:p
theorem by_tail {G:Prop} (h:∃T:Prop,T∧(Shut T→G)):G:=let ⟨_,t,k⟩:=h;k ⟨t⟩
theorem c_MErrOk (R C:Nat) (n i k:Int) (hn:0≤n∧n<256) (hR:R≤2048) (hC:C≤2048) (hN:R*C=(n % 60).toNat):
  CallOK Tryz.prog 13 [iv R,iv C,iel .u8 n,iv i,iv k] [] (.val (.bool true)) [] []:=by
 have kw:=l_works13
 obtain⟨e1,e2⟩:=u8_mod n hn 60 (by decide)
 have hN2:R*C≤59:=by omega
 rw[←hN]at e2
 clear hN
 have hA:=OKM_z hR hC
 have k0:=m_Check0 hA
 have km:=(m_Same R C R C (zL (R*C)) [] (by have:=hA.small;omega) (by decide)).wk (args:=[mA R C (zL (R*C)),.agg [iv R,iv C,.val (.slice none 0 0)]]) (by repeat(first|exact WkL.nil|refine WkL.cons ?_ ?_|exact Wk.nil|exact Wk.refl|refine Wk.agg ?_))
 have tz:=same_zero R C (R*C)
 have t1:decide ((R:Int)<0)=false:=decide_eq_false (by omega)
 have t2:decide ((C:Int)<0)=false:=decide_eq_false (by omega)
 have t3:decide ((R:Int)>2048)=false:=decide_eq_false (by omega)
 have t4:decide ((C:Int)>2048)=false:=decide_eq_false (by omega)
 have hp:=prod_le (show(0≤(R:Int)∧(R:Int)≤2048)∧(0≤(C:Int)∧(C:Int)≤2048) by omega)
 have t5:IntKind.i64.wrap ((R:Int)*(C:Int))=((R*C:Nat):Int):=by rw[wrap_i64 (by omega) (by omega)];push_cast;rfl
 have t6:(((R*C:Nat):Int) != ((zL (R*C)).length:Int))=false:=by rw[zL_len];exact bne_self_eq_false _
 obtain⟨b1,b2,f1,f2,f3⟩:=range3 i R
 obtain⟨b3,b4,g1,g2,g3⟩:=range3 k C
 have kA:=z_At hA f1 f2 g1 g2
 obtain⟨v1,kR⟩:=z_Row hA f1 f2
 obtain⟨v2,kC⟩:=z_Col hA g1 g2
 obtain⟨x1,y1,v3,kP⟩:=z_PartR hA f1 f2
 obtain⟨x2,y2,v4,kQ⟩:=z_PartC hA g1 g2
 obtain⟨s1,kS,hs1⟩:=z_Add hA
 obtain⟨s2,kT,hs2⟩:=z_Sub hA
 obtain⟨s3,kU,hs3⟩:=z_Mul hA
 obtain⟨s4,kV,hs4⟩:=m_ApplyS hA (v:=zL (C+1)) (by rw[zL_len];omega) (by rw[zL_len];omega)
 obtain⟨s5,kX,hs5⟩:=m_FormS hA (v:=zL (R+1)) (w:=zL C) (by rw[zL_len];omega) (by rw[zL_len];omega) (by rw[zL_len];omega)
 rw[zL_len]at hs4 hs5
 have u1:IntKind.i64.wrap ((R:Int)+1)=((R+1:Nat):Int):=winc (by omega)
 have u2:IntKind.i64.wrap ((C:Int)+1)=((C+1:Nat):Int):=winc (by omega)
 have hRC:(R+1)*C≤2107:=by rw[Nat.succ_mul];omega
 have u3:IntKind.i64.wrap (((R+1:Nat):Int)*(C:Int))=(((R+1)*C:Nat):Int):=by rw[←Int.natCast_mul,wrap_i64 (by omega) (by omega)]
 have hL:∀j,j<4→[eI (b1&&b2),eI (b3&&b4),eI (b1&&b2),eI (b3&&b4)].getD j 0=0∨[eI (b1&&b2),eI (b3&&b4),eI (b1&&b2),eI (b3&&b4)].getD j 0=1:=by
  intro j hj
  have hb:∀b:Bool,eI b=0∨eI b=1:=fun b=>by cases b<;>simp[eI]
  obtain rfl|rfl|rfl|rfl:j=0∨j=1∨j=2∨j=3:=by omega
  ·exact hb _
  ·exact hb _
  ·exact hb _
  ·exact hb _
 clear hp
 generalize hLd:[eI (b1&&b2),eI (b3&&b4),eI (b1&&b2),eI (b3&&b4)]=L at hL
 have hLl:L.length=4:=by rw[←hLd];rfl
 generalize hZ1:(R+1)*C=M at*
 generalize hZ2:R*C=N at*
 refine callV (Z:=[100000,131,138,192]) tabOK mixedOK Tryz.func13 rfl (by kernel_rfl) rfl rfl (by kernel_rfl) rfl ?_
 intro W0 w0 ρ0 hE
 conv=>whnf
 refine SWx_addKey 45 (blk:=fblk []) rfl rfl ?_
 refine SWx_addKey 212 (blk:=fblk []) rfl rfl ?_
 refine SWx_addKey 238 (blk:=fblk []) rfl rfl ?_
 refine SWx_addKey 246 (blk:=fblk []) rfl rfl ?_
 refine SWx_addKey 248 (blk:=fblk []) rfl rfl ?_
 refine by_tail ?_
 apply Exists.intro
 apply And.intro
 case right=>
  intro tail
  refine SWx_go hE ?_
  rcases f3 with⟨rfl,rfl⟩|⟨rfl,rfl⟩|⟨rfl,rfl⟩
  all_goals rcases g3 with⟨rfl,rfl⟩|⟨rfl,rfl⟩|⟨rfl,rfl⟩
  all_goals
   conv=>whnf
   (repeat((first|refine step_w1 rfl rfl ?_|refine step_w2 rfl rfl ?_|refine step_i (by kernel_rfl) ?_|refine step_oN (by first|omega|decide|(simp only[tl0,dlen,List.length_replicate,List.length_set,List.length_map,List.length_zipWith,List.length_take,List.length_append,List.length_cons,List.length_nil];omega)) ?_|refine g_c (by assumption) ?_|refine g_o (op_pickT rfl (ev_ok rfl) (ev_ok rfl)) ?_|refine g_o (op_pickF rfl (ev_ok rfl) (ev_ok rfl)) ?_|rw[bne_self_eq_false]|refine tst_ff t4 ?_|refine tst_ff t6 ?_|refine tst_ff tz ?_|refine tst_tt f1 ?_|refine tst_ff f1 ?_|refine tst_tt f2 ?_|refine tst_ff f2 ?_|refine tst_tt g1 ?_|refine tst_ff g1 ?_|refine g_o (op_lenM rfl rfl rfl (ev_ok rfl) (tgt rfl) rfl) ?_|refine g_o (op_lenA rfl rfl rfl (ev_ok rfl) (tgt rfl) rfl) ?_|refine g_o (op_makeF rfl (ev_ok rfl) (ev_ok rfl) (tgt rfl) rfl (tgt rfl) rfl rfl (by simp only[tiB52];omega)) ?_|refine⟨_,op_neAgg tabOK goodOK rfl (ev_ok rfl) (ev_ok rfl) rfl rfl rfl rfl (q_eq (rfl)) q_guard, ?_⟩|rw[t1]|rw[t2]|rw[t3]|rw[t4]|rw[t6]|rw[tz]|rw[f1]|rw[f2]|rw[g1]|rw[g2]|rw[t5]|rw[e2]|rw[Nat.zero_add]);conv=>whnf))
   refine SW_loopN hE (fun k=>k) [0,1,11,192,193,194] [11,212,238,246,248] (fun m fr hp=>∃j:Nat,m=4 - j∧j≤4∧fr=[(0,iv R),(1,iv C),(11,.ptr 11 0 0 0),(192,ivec .i64 L),(193,iv (4:Nat)),(194,iv (j:Nat))]∧
    hp=[(11,mblk R C (zL N)),(212,fblk []),(238,fblk []),(246,fblk []),(248,fblk [])]) 4 ?_ ?_ tail.out
   ·kernel_rfl
   ·exact⟨0,rfl,Nat.zero_le _,by rw[←hLd];rfl,rfl⟩
 clear hLd kA kR kC kP kQ k0 km tz t1 t2 t3 t4 t5 t6 f1 f2 g1 g2 e1 e2 f3 g3
 rintro m _ _ ⟨j,rfl,hj,rfl,rfl⟩
 conv=>whnf
 by_cases hlt:j<4
 ·have t7:decide ((j:Int)<((4:Nat):Int))=true:=dlt hlt
  have t8:=winc (i:=j) (by omega)
  rcases hL j hlt with h|h
  ·(repeat((first|refine step_w2 rfl rfl ?_|refine g_o (op_pickF rfl (ev_ok rfl) (ev_ok rfl)) ?_|rw[bne_self_eq_false]|refine tst_tt t7 ?_|refine g_o (op_loadA rfl (ev_ok rfl) (tgt rfl) rfl (Nat.succ_ne_zero _) rfl) ?_|refine g_o (op_indexN (α:=Int) (d:=0) rfl (ev_ok rfl) (ev_ok rfl) (tgt rfl) rfl (tgt rfl) rfl (by omega)) ?_|rw[t7]|rw[h]|rw[t8]);conv=>whnf))
   exact⟨4 - (j+1),fun k=>k,[0,1,11,192,193,194],[11,212,238,246,248],by omega,by kernel_rfl,j+1,rfl,hlt,rfl,rfl⟩
  ·(repeat((first|refine step_w1 rfl rfl ?_|refine step_w2 rfl rfl ?_|refine g_o (op_pickT rfl (ev_ok rfl) (ev_ok rfl)) ?_|rw[bne_self_eq_false]|refine tst_tt t7 ?_|refine g_o (op_loadA rfl (ev_ok rfl) (tgt rfl) rfl (Nat.succ_ne_zero _) rfl) ?_|refine g_o (op_indexN (α:=Int) (d:=0) rfl (ev_ok rfl) (ev_ok rfl) (tgt rfl) rfl (tgt rfl) rfl (by omega)) ?_|rw[t7]|rw[h]|rw[t8]);conv=>whnf))
   exact⟨4 - (j+1),fun k=>k,[0,1,11,192,193,194],[11,212,238,246,248],by omega,by kernel_rfl,j+1,rfl,hlt,rfl,rfl⟩
 ·have t7:decide ((j:Int)<((4:Nat):Int))=false:=dge hlt
  (repeat((first|refine step_i (by kernel_rfl) ?_|refine g_c (by assumption) ?_|refine tst_ff t7 ?_|refine g_o (op_makeF rfl (ev_ok rfl) (ev_ok rfl) (tgt rfl) rfl (tgt rfl) rfl rfl (by simp only[tiB52];omega)) ?_|rw[t7]|rw[u1]|rw[u2]|rw[u3]);conv=>whnf))
  by_cases hR2:R=2048
  ·have w1:((R:Int)==2048)=true:=beq_iff_eq.2 (by omega)
   (repeat((first|refine step_w1 rfl rfl ?_|refine step_w2 rfl rfl ?_|refine g_c (by assumption) ?_|refine g_o (op_pickT rfl (ev_ok rfl) (ev_ok rfl)) ?_|rw[w1]);conv=>whnf));(first|exact Recast.refl _|exact Frz.recast (Recast.refl _) rfl|(refine Frz.one rfl rfl ?_;skip)|(refine Frz.tup ?_;skip))
  ·have w1:((R:Int)==2048)=false:=beq_false_of_ne (by omega)
   by_cases hC2:C=2048
   ·have w2:((C:Int)==2048)=true:=beq_iff_eq.2 (by omega)
    (repeat((first|refine step_w1 rfl rfl ?_|refine g_c (by assumption) ?_|refine g_o (op_pickF rfl (ev_ok rfl) (ev_ok rfl)) ?_|refine tst_tt w2 ?_|rw[w1]);conv=>whnf));(first|exact Recast.refl _|exact Frz.recast (Recast.refl _) rfl|(refine Frz.one rfl rfl ?_;skip)|(refine Frz.tup ?_;skip))
   ·have w2:((C:Int)==2048)=false:=beq_false_of_ne (by omega)
    obtain rfl:=hs1 hR2
    obtain rfl:=hs2 hR2
    obtain rfl:=hs3 hC2
    obtain rfl:=hs4 (by omega)
    obtain rfl:=hs5 (by omega)
    (repeat((first|refine step_w1 rfl rfl ?_|refine g_c (by assumption) ?_|refine g_o (op_pickT rfl (ev_ok rfl) (ev_ok rfl)) ?_|refine g_o (op_pickF rfl (ev_ok rfl) (ev_ok rfl)) ?_|refine tst_ff w2 ?_|rw[w1]);conv=>whnf));(first|exact Recast.refl _|exact Frz.recast (Recast.refl _) rfl|(refine Frz.one rfl rfl ?_;skip)|(refine Frz.tup ?_;skip))
theorem law_MatsErrors (a0 a1 a2 a3 a4:Int) (w0:(Lit.int .i64 a0).wf=true) (w1:(Lit.int .i64 a1).wf=true) (w2:(Lit.int .u8 a2).wf=true) (_w3:(Lit.int .i64 a3).wf=true) (_w4:(Lit.int .i64 a4).wf=true):
  CallOK Tryz.prog 13 [iel .i64 a0,iel .i64 a1,iel .u8 a2,iel .i64 a3,iel .i64 a4] [] (.val (.bool true)) [] []:=by
 by_cases h:checkF a0 a1 (a2 % 60).toNat=0
 ·have hs:sidesF a0 a1=0:=by
   refine Classical.byContradiction fun hs=> ?_
   unfold checkF at h
   rw[if_pos hs]at h
   exact hs h
  obtain⟨h1,h2⟩:=sides_ok hs
  have h3:(((a2 % 60).toNat:Nat):Int)=a0*a1:=by
   refine Classical.byContradiction fun h3=> ?_
   unfold checkF at h
   rw[hs,if_neg (by decide),if_pos h3]at h
   exact absurd h (by decide)
  obtain⟨R,rfl⟩:=Int.eq_ofNat_of_zero_le h1.1
  obtain⟨C,rfl⟩:=Int.eq_ofNat_of_zero_le h2.1
  exact c_MErrOk R C a2 a3 a4 (wf_u8 w2) (by omega) (by omega) (by rw[←Int.natCast_mul]at h3;omega)
 ·exact c_MErrBad a0 a1 a2 a3 a4 (wf_u8 w2) (wf_i64 w0) (wf_i64 w1) h
end Go.Proofs.YtfpagioknjjacaaGreatDoor
