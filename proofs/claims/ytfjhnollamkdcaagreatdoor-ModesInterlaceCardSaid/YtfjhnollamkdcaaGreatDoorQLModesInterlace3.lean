/- The texts Aq. -/
import Derived.Test.YtfjhnollamkdcaaGreatDoorQLModesInterlace2
namespace Go.Proofs.YtfjhnollamkdcaaGreatDoor
open Go.Sx
set_option linter.unusedSimpArgs false
set_option linter.unusedVariables false
set_option maxRecDepth 100000
set_option maxHeartbeats 40000000
def keepL (k:Nat):List Int:=(List.range k).map ofN
theorem keepL_len (k:Nat):(keepL k).length=k:=by simp[keepL]
theorem keepL_get {k i:Nat} (h:i<k):(keepL k).getD i 0=(i:Int):=by simp[keepL,List.getD_eq_getElem?_getD,h]
theorem keepL_mem {k:Nat} {x:Int} (h:x∈keepL k):0≤x∧x<(k:Int):=by
 obtain⟨i,hi,rfl⟩:=List.mem_map.1 h
 rw[List.mem_range]at hi
 show(0:Int)≤(i:Int)∧(i:Int)<k
 omega
theorem keepL_succ (k:Nat):keepL (k+1)=keepL k++[(k:Int)]:=by unfold keepL;rw[List.range_succ,List.map_append];rfl
theorem Pen.lead {k B C:Nat} {a m:List Rat} (h:Pen (k+1) B C a m):Pen k B C (mpart (k+1) a (keepL k) (keepL k)) (mpart (k+1) m (keepL k) (keepL k))∧
  (∀i j,i<k→j<k→el (mpart (k+1) a (keepL k) (keepL k)) k i j=el a (k+1) i j)∧(∀i j,i<k→j<k→el (mpart (k+1) m (keepL k) (keepL k)) k i j=el m (k+1) i j):=by
 have lk:=keepL_len k
 have e:∀(X:List Rat) i j,i<k→j<k→el (mpart (k+1) X (keepL k) (keepL k)) k i j=el X (k+1) i j:=fun X i j hi hj=>by
  have:=part_el (k:=k+1) (X:=X) (A:=keepL k) (B:=keepL k) (i:=i) (j:=j) (by omega) (by omega)
  rw[lk,keepL_get hi,keepL_get hj]at this
  exact this
 have hl:∀X:List Rat,(mpart (k+1) X (keepL k) (keepL k)).length=k*k:=fun X=>by rw[mpart,mk_len,lk]
 have hk:∀x∈keepL k,0≤x∧x<((k+1:Nat):Int):=fun x hx=>by have:=keepL_mem hx;omega
 refine⟨⟨by have:=h.n5;omega,hl a,hl m,fun i j hi hj=> ?_,fun i j hi hj=> ?_,h.pos.cut.congr fun i j hi hj=>(e m i j hi hj).symm,Sm_part h.oa h.za hk hk,Sm_part h.om h.zm hk hk⟩,e a,e m⟩
 ·rw[e a i j hi hj,e a j i hj hi,h.sa i j (by omega) (by omega)]
 ·rw[e m i j hi hj,e m j i hj hi,h.sm i j (by omega) (by omega)]
theorem c_MInter (l b:List (Int×Int)) (n:Int) (t:Int×Int) (hl:lOK l) (hb:lOK b) (hn:0≤n∧n<256) (ht:qOK t):
  CallOK Tryz.prog 8 [lQ l,lQ b,iel .u8 n,qA t] [] (.val (.bool true)) [] []:=by
 have kw:=l_works22
 have kf:=c_few22 [l,b] (by simp) (two_mem hl.1 hb.1)
 cases hF:[l,b].all fun l=>decide (l.length≤40)
 ·rw[hF]at kf
  refine callV (Z:=[7,28]) tabOK mixedOK Tryz.func8 rfl (by kernel_rfl) rfl rfl (by kernel_rfl) rfl ?_
  intro W0 w0 ρ0 hE
  conv=>whnf
  (repeat(first|(refine step_w1 rfl rfl ?_;conv=>whnf)|(refine g_c (by assumption) ?_;conv=>whnf)));(first|exact Recast.refl _|exact Frz.recast (Recast.refl _) rfl|(refine Frz.one rfl rfl ?_;skip)|(refine Frz.tup ?_;skip))
 rw[hF]at kf
 obtain⟨e1,e2⟩:=u8_mod n hn 5 (by decide)
 have r4:(n % 5).toNat≤4:=by omega
 generalize (n % 5).toNat=r at*
 have e3:IntKind.i64.wrap (1+((r:Nat):Int))=((r+1:Nat):Int):=by rw[wrap_i64 (by omega) (by omega)];omega
 have kp:=c_pencil l b hl hb (n:=r+1) (by omega)
 have P:=pen_law (n:=r+1) hl.2 hb.2 (by omega)
 have qt:=c_QOf t ht
 have ft:=fs_qV ht
 generalize symL l (r+1)=a at*
 generalize plusL b (r+1)=m at*
 generalize qV t=T at*
 obtain⟨P2,l2,l3⟩:=P.lead
 have hk:∀x∈keepL r,0≤x∧x<((r+1:Nat):Int):=fun x hx=>by have:=keepL_mem hx;omega
 have lk:=keepL_len r
 have o1:=m_Part P.ka (keepL r) (keepL r) (by omega) (by omega) hk hk
 have o2:=m_Part P.km (keepL r) (keepL r) (by omega) (by omega) hk hk
 rw[lk]at o1 o2
 have k1:=P.count T ft (by decide) (by decide)
 have k2:=P2.count T ft (by decide) (by decide)
 obtain⟨g1,g2,g3,g4⟩:=(P.iner T).inter ((P2.iner T).congr (B:=pcl (el a (r+1)) (el m (r+1)) T) fun i j hi hj=>by unfold pcl;rw[l2 i j hi hj,l3 i j hi hj])
 have s1:=P.sum T
 clear P P2 l2 l3 ft hF ht hl hb hn hk
 generalize mpart (r+1) a (keepL r) (keepL r)=a' at*
 generalize mpart (r+1) m (keepL r) (keepL r)=m' at*
 generalize countF (r+1) a m T=F at*
 generalize countF r a' m' T=G at*
 refine callF (Z:=[7,28,100010]) tabOK mixedOK Tryz.func8 rfl (by kernel_rfl) (by first|rfl|(simp[keylessL,keyless,keylessL_map, *];done)) (by first|rfl|(simp[keylessL,keyless,keylessL_map, *];done)) (by kernel_rfl) rfl ?_
 intro w0 ρ0 hE
 conv=>whnf
 (repeat((first|refine step_w2 rfl rfl ?_|refine step_oN (by first|omega|decide|(simp only[tl0,dlen,List.length_replicate,List.length_set,List.length_map,List.length_zipWith,List.length_take,List.length_append,List.length_cons,List.length_nil];omega)) ?_|refine g_c (by assumption) ?_|rw[e2]|rw[e3]);conv=>whnf))
 refine SWx_adopt (t:=12) (k:=2001) (s:=1) (blk:=iblkM []) rfl rfl rfl ?_
 refine SW_loopN hE (fun k=>k) [7,9,10,11,12,13] [10,11,2001] (fun M fr hp=>∃i:Nat,M=r - i∧i≤r∧fr=[(7,ptrA [iel .i64 t.1,iel .u32 t.2]),(9,iv ((r+1:Nat))),(10,.ptr 10 0 0 0),(11,.ptr 11 0 0 0),(12,.slc 2001 1 0 i),(13,iv (i:Nat))]∧
  hp=[(10,⟨30,true,.one (mC ((r+1:Nat)) ((r+1:Nat)) a)⟩),(11,⟨30,true,.one (mC ((r+1:Nat)) ((r+1:Nat)) m)⟩),(2001,iblkM (keepL i))]) r ?_ ?_ ?_
 ·kernel_rfl
 ·exact⟨0,rfl,Nat.zero_le _,rfl,rfl⟩
 rintro M _ _ ⟨i,rfl,hi,rfl,rfl⟩
 have t2:=winc (i:=i) (by omega)
 by_cases hlt:i<r
 ·have t1:=dlt (show i+1<r+1 by omega)
  have li:=keepL_len i
  have e7:=app_int (l:=keepL i) (x:=(i:Int))
  rw[li,←keepL_succ]at e7
  conv=>whnf
  (repeat((first|refine step_oA (by first|omega|decide|(simp only[tl0,dlen,List.length_replicate,List.length_set,List.length_map,List.length_zipWith,List.length_take,List.length_append,List.length_cons,List.length_nil];omega)) ?_|refine tst_tt t1 ?_|rw[t2]|rw[t1]);conv=>whnf))
  refine⟨r - (i+1),renBy [(52,2001)],[7,9,10,11,12,13],[10,11,52],by omega,by kernel_rfl,i+1,rfl,hlt,rfl, ?_⟩
  rw[e7];rfl
 ·have t1:=dge (show ¬i+1<r+1 by omega)
  obtain rfl:i=r:=by omega
  conv=>whnf
  (repeat(first|(refine tst_ff t1 ?_;conv=>whnf)|(rw[t2];conv=>whnf)|(rw[t1];conv=>whnf)))
  refine SWx_freezeI 12 2001 (fun _ h=>h) rfl rfl lk.symm ?_
  refine SWx_go hE ?_
  conv=>whnf
  have w1:IntKind.i64.wrap (((F.m:Nat):Int) - 1)=((F.m:Nat):Int) - 1:=wrap_i64 (by omega) (by omega)
  have w2:IntKind.i64.wrap (((F.p:Nat):Int) - 1)=((F.p:Nat):Int) - 1:=wrap_i64 (by omega) (by omega)
  by_cases h1:G.m=F.m
  ·have u1:(((G.m:Nat):Int)==((F.m:Nat):Int))=true:=by rw[h1];exact beq_self_eq_true _
   by_cases h2:G.p=F.p
   ·have u2:(((G.p:Nat):Int)==((F.p:Nat):Int))=true:=by rw[h2];exact beq_self_eq_true _
    (repeat((first|refine step_w1 rfl rfl ?_|refine step_w2 rfl rfl ?_|refine step_i (by kernel_rfl) ?_|refine g_c (by assumption) ?_|refine g_o (op_pickT rfl (ev_ok rfl) (ev_ok rfl)) ?_|rw[beq_self_eq_true]|refine g_o (op_loadA rfl (ev_ok rfl) (tgt rfl) rfl (Nat.succ_ne_zero _) rfl) ?_|rw[u1]|rw[u2]);conv=>whnf));(first|exact Recast.refl _|exact Frz.recast (Recast.refl _) rfl|(refine Frz.one rfl rfl ?_;skip)|(refine Frz.tup ?_;skip))
   ·have u2:(((G.p:Nat):Int)==((F.p:Nat):Int))=false:=beq_eq_false_iff_ne.2 (by omega)
    have u3:(((G.p:Nat):Int)==((F.p:Nat):Int) - 1)=true:=by rw[show((G.p:Nat):Int)=((F.p:Nat):Int) - 1 by omega];exact beq_self_eq_true _
    (repeat((first|refine step_w1 rfl rfl ?_|refine step_w2 rfl rfl ?_|refine step_i (by kernel_rfl) ?_|refine g_c (by assumption) ?_|refine g_o (op_pickT rfl (ev_ok rfl) (ev_ok rfl)) ?_|refine g_o (op_pickF rfl (ev_ok rfl) (ev_ok rfl)) ?_|rw[beq_self_eq_true]|refine tst_tt u3 ?_|refine g_o (op_loadA rfl (ev_ok rfl) (tgt rfl) rfl (Nat.succ_ne_zero _) rfl) ?_|rw[u1]|rw[u2]|rw[w2]|rw[u3]);conv=>whnf));(first|exact Recast.refl _|exact Frz.recast (Recast.refl _) rfl|(refine Frz.one rfl rfl ?_;skip)|(refine Frz.tup ?_;skip))
  ·have u1:(((G.m:Nat):Int)==((F.m:Nat):Int))=false:=beq_eq_false_iff_ne.2 (by omega)
   have u4:(((G.m:Nat):Int)==((F.m:Nat):Int) - 1)=true:=by rw[show((G.m:Nat):Int)=((F.m:Nat):Int) - 1 by omega];exact beq_self_eq_true _
   by_cases h2:G.p=F.p
   ·have u2:(((G.p:Nat):Int)==((F.p:Nat):Int))=true:=by rw[h2];exact beq_self_eq_true _
    (repeat((first|refine step_w1 rfl rfl ?_|refine step_w2 rfl rfl ?_|refine step_i (by kernel_rfl) ?_|refine g_c (by assumption) ?_|refine g_o (op_pickT rfl (ev_ok rfl) (ev_ok rfl)) ?_|refine g_o (op_pickF rfl (ev_ok rfl) (ev_ok rfl)) ?_|rw[beq_self_eq_true]|refine tst_tt u4 ?_|refine g_o (op_loadA rfl (ev_ok rfl) (tgt rfl) rfl (Nat.succ_ne_zero _) rfl) ?_|rw[u1]|rw[w1]|rw[u4]|rw[u2]);conv=>whnf));(first|exact Recast.refl _|exact Frz.recast (Recast.refl _) rfl|(refine Frz.one rfl rfl ?_;skip)|(refine Frz.tup ?_;skip))
   ·have u2:(((G.p:Nat):Int)==((F.p:Nat):Int))=false:=beq_eq_false_iff_ne.2 (by omega)
    have u3:(((G.p:Nat):Int)==((F.p:Nat):Int) - 1)=true:=by rw[show((G.p:Nat):Int)=((F.p:Nat):Int) - 1 by omega];exact beq_self_eq_true _
    (repeat((first|refine step_w1 rfl rfl ?_|refine step_i (by kernel_rfl) ?_|refine g_c (by assumption) ?_|refine g_o (op_pickT rfl (ev_ok rfl) (ev_ok rfl)) ?_|refine g_o (op_pickF rfl (ev_ok rfl) (ev_ok rfl)) ?_|rw[beq_self_eq_true]|refine tst_tt u4 ?_|refine tst_tt u3 ?_|refine g_o (op_loadA rfl (ev_ok rfl) (tgt rfl) rfl (Nat.succ_ne_zero _) rfl) ?_|rw[u1]|rw[w1]|rw[u4]|rw[u2]|rw[w2]|rw[u3]);conv=>whnf));(first|exact Recast.refl _|exact Frz.recast (Recast.refl _) rfl|(refine Frz.one rfl rfl ?_;skip)|(refine Frz.tup ?_;skip))
theorem law_ModesInterlace (a0 a1:List (Int×Int)) (a2:Int) (a3:Int×Int) (w0:QWf a0) (w1:QWf a1) (w2:(Lit.int .u8 a2).wf=true) (w3:((Lit.int .i64 a3.1).wf=true)∧((Lit.int .u32 a3.2).wf=true)):
  CallOK Tryz.prog 8 [mvec 2 qA a0,mvec 2 qA a1,iel .u8 a2,qA a3] [] (.val (.bool true)) [] []:=
 c_MInter a0 a1 a2 a3 ⟨w0.1,qOK_of w0⟩ ⟨w1.1,qOK_of w1⟩ (wf_u8 w2) (qOK_one w3)
end Go.Proofs.YtfjhnollamkdcaaGreatDoor
