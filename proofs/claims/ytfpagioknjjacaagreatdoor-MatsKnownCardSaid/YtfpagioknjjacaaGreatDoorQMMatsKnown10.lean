/- The texts Ky. -/
import Derived.Test.YtfpagioknjjacaaGreatDoorQMMatsKnown9
namespace Go.Proofs.YtfpagioknjjacaaGreatDoor
open Go.Sx
set_option linter.unusedSimpArgs false
set_option linter.unusedVariables false
set_option maxRecDepth 100000
set_option maxHeartbeats 40000000
theorem c_Parts (a:MM) (rows cols again:List Int) (ha:mOK a) (h1:∀p∈rows, -9223372036854775808≤p∧p<9223372036854775808) (h2:∀p∈cols, -9223372036854775808≤p∧p<9223372036854775808) (h3:∀p∈again, -9223372036854775808≤p∧p<9223372036854775808)
  (lr:rows.length≤maxLen) (lc:cols.length≤maxLen) (lg:again.length≤maxLen):
  CallOK Tryz.prog 12 [mQ a,ivec .i64 rows,ivec .i64 cols,ivec .i64 again] [] (.val (.bool true)) [] []:=by
 have kw:=l_works13
 have kf:=c_fewL [a] (by simp) (by intro m hm;simp only[List.mem_cons,List.not_mem_nil,or_false]at hm;obtain rfl:=hm;assumption)
 cases hF:[a].all fun m=>decide (m.2.2.length≤40)
 ·rw[hF]at kf
  refine callV (Z:=[4,39]) tabOK mixedOK Tryz.func12 rfl (by kernel_rfl) rfl rfl (by kernel_rfl) rfl ?_
  intro W0 w0 ρ0 hE
  conv=>whnf
  (repeat((first|refine step_w1 rfl rfl ?_|refine step_w2 rfl rfl ?_|refine g_c (by assumption) ?_|refine g_o (op_pickT rfl (ev_ok rfl) (ev_ok rfl)) ?_|refine g_o (op_loadA rfl (ev_ok rfl) (tgt rfl) rfl (Nat.succ_ne_zero _) rfl) ?_);conv=>whnf));(first|exact Recast.refl _|exact Frz.recast (Recast.refl _) rfl|(refine Frz.one rfl rfl ?_;skip)|(refine Frz.tup ?_;skip))
 rw[hF]at kf
 by_cases hl1:rows.length>8
 ·have t1:decide ((rows.length:Int)>8)=true:=decide_eq_true (by omega)
  refine callV (Z:=[4,39]) tabOK mixedOK Tryz.func12 rfl (by kernel_rfl) rfl rfl (by kernel_rfl) rfl ?_
  intro W0 w0 ρ0 hE
  conv=>whnf
  (repeat((first|refine step_w1 rfl rfl ?_|refine step_w2 rfl rfl ?_|refine g_c (by assumption) ?_|refine g_o (op_pickT rfl (ev_ok rfl) (ev_ok rfl)) ?_|refine g_o (op_pickF rfl (ev_ok rfl) (ev_ok rfl)) ?_|refine g_o (op_lenM rfl rfl rfl (ev_ok rfl) (tgt rfl) rfl) ?_|refine g_o (op_loadA rfl (ev_ok rfl) (tgt rfl) rfl (Nat.succ_ne_zero _) rfl) ?_|rw[t1]);conv=>whnf));(first|exact Recast.refl _|exact Frz.recast (Recast.refl _) rfl|(refine Frz.one rfl rfl ?_;skip)|(refine Frz.tup ?_;skip))
 have t1:decide ((rows.length:Int)>8)=false:=decide_eq_false (by omega)
 by_cases hl2:cols.length>8
 ·have t2:decide ((cols.length:Int)>8)=true:=decide_eq_true (by omega)
  refine callV (Z:=[4,39]) tabOK mixedOK Tryz.func12 rfl (by kernel_rfl) rfl rfl (by kernel_rfl) rfl ?_
  intro W0 w0 ρ0 hE
  conv=>whnf
  (repeat((first|refine step_w1 rfl rfl ?_|refine step_w2 rfl rfl ?_|refine g_c (by assumption) ?_|refine g_o (op_pickT rfl (ev_ok rfl) (ev_ok rfl)) ?_|refine g_o (op_pickF rfl (ev_ok rfl) (ev_ok rfl)) ?_|refine g_o (op_lenM rfl rfl rfl (ev_ok rfl) (tgt rfl) rfl) ?_|refine g_o (op_loadA rfl (ev_ok rfl) (tgt rfl) rfl (Nat.succ_ne_zero _) rfl) ?_|rw[t1]|rw[t2]);conv=>whnf));(first|exact Recast.refl _|exact Frz.recast (Recast.refl _) rfl|(refine Frz.one rfl rfl ?_;skip)|(refine Frz.tup ?_;skip))
 have t2:decide ((cols.length:Int)>8)=false:=decide_eq_false (by omega)
 by_cases hl3:again.length>8
 ·have t3:decide ((again.length:Int)>8)=true:=decide_eq_true (by omega)
  refine callV (Z:=[4,39]) tabOK mixedOK Tryz.func12 rfl (by kernel_rfl) rfl rfl (by kernel_rfl) rfl ?_
  intro W0 w0 ρ0 hE
  conv=>whnf
  (repeat((first|refine step_w1 rfl rfl ?_|refine g_c (by assumption) ?_|refine g_o (op_pickF rfl (ev_ok rfl) (ev_ok rfl)) ?_|refine tst_tt t3 ?_|refine g_o (op_lenM rfl rfl rfl (ev_ok rfl) (tgt rfl) rfl) ?_|refine g_o (op_loadA rfl (ev_ok rfl) (tgt rfl) rfl (Nat.succ_ne_zero _) rfl) ?_|rw[t1]|rw[t2]);conv=>whnf));(first|exact Recast.refl _|exact Frz.recast (Recast.refl _) rfl|(refine Frz.one rfl rfl ?_;skip)|(refine Frz.tup ?_;skip))
 have t3:decide ((again.length:Int)>8)=false:=decide_eq_false (by omega)
 have ks:=c_Sides a ha
 have km:=c_MOf a ha
 have n6:=side_le a.1
 have k6:=side_le a.2.1
 generalize (a.1 % 7).toNat=n at*
 generalize (a.2.1 % 7).toNat=k at*
 have hX:=OKM_some a.2.2 (r:=n) (c:=k) (by omega) (by omega)
 have sX:=Sm_some ha.2.2.2 (n*k)
 generalize someL a.2.2 (n*k)=X at*
 clear hF ha
 have hXl:=hX.n
 have o1:=m_Make0 (r:=n) (c:=k) (by omega) (by omega) (fun _ _=>0) 93 (fun i k _ _=>m_Zero1 i k)
 rw[←cutS_zero (X:=X)]at o1
 have p1:=(c_places [] (by decide) (by intro p hp;cases hp) (n:=n) (by omega) true).wk (args:=[.val (.slice none 0 0),iv n,.val (.bool true)]) (by repeat(first|exact WkL.nil|refine WkL.cons ?_ ?_|exact Wk.nil|exact Wk.refl|refine Wk.agg ?_))
 have p2:=(c_places [] (by decide) (by intro p hp;cases hp) (n:=k) (by omega) true).wk (args:=[.val (.slice none 0 0),iv k,.val (.bool true)]) (by repeat(first|exact WkL.nil|refine WkL.cons ?_ ?_|exact Wk.nil|exact Wk.refl|refine Wk.agg ?_))
 have o2:=m_Part hX (places [] n true) (places [] k true) (by rw[places_nil_len];omega) (by rw[places_nil_len];omega) places_in places_in
 rw[part_id hXl,places_nil_len,places_nil_len]at o2
 have q1:=m_SameT hX rfl
 have p3:=c_places rows (by omega) h1 (n:=n) (by omega) false
 have p4:=c_places cols (by omega) h2 (n:=k) (by omega) false
 have lA:=places_len_le rows n
 have lO:=places_len_le cols k
 have iA:∀x∈places rows n false,0≤x∧x<(n:Int):=places_in
 have iO:∀x∈places cols k false,0≤x∧x<(k:Int):=places_in
 generalize places rows n false=A at*
 generalize places cols k false=O at*
 have o3:=m_Part hX A O (by omega) (by omega) iA iO
 have o4:=l_turnM hX
 have o5:=m_Part (OKM_turn hX) O A (by omega) (by omega) iO iA
 rw[part_turn iA iO]at o5
 have hP:OKM A.length O.length (mpart k X A O):=OKM_mk (by omega) (by omega)
 have o6:=l_turnM hP
 have q2:=m_SameT (OKM_turn hP) rfl
 have p5:=c_places again (by omega) h3 (n:=A.length) (by omega) false
 have lK:=places_len_le again A.length
 have iK:∀x∈places again A.length false,0≤x∧x<(A.length:Int):=places_in
 generalize places again A.length false=K at*
 have p6:=(c_places [] (by decide) (by intro p hp;cases hp) (n:=O.length) (by omega) true).wk (args:=[.val (.slice none 0 0),iv O.length,.val (.bool true)]) (by repeat(first|exact WkL.nil|refine WkL.cons ?_ ?_|exact Wk.nil|exact Wk.refl|refine Wk.agg ?_))
 have o7:=m_Part hP K (places [] O.length true) (by omega) (by rw[places_nil_len];omega) iK places_in
 rw[part_part iK,places_nil_len]at o7
 have lT:(thenL A K).length=K.length:=by simp[thenL]
 have iT:∀x∈thenL A K,0≤x∧x<(n:Int):=by
  intro x hx
  obtain⟨y,hy,rfl⟩:=List.mem_map.1 hx
  have:=iK y hy
  exact iA _ (getD_mem (by omega))
 have o8:=m_Part hX (thenL A K) O (by omega) (by omega) iT iO
 have hQ:OKM (thenL A K).length O.length (mpart k X (thenL A K) O):=OKM_mk (by omega) (by omega)
 have q3:=m_SameT hQ rfl
 rw[←lT]at o7
 have gP:∀i j,i<A.length→j<O.length→(mpart k X A O).getD (i*O.length+j) 0=el X k (A.getD i 0).toNat (O.getD j 0).toNat:=fun i j hi hj=>part_el hi hj
 have lP:(mpart k X A O).length=A.length*O.length:=mk_len ..
 have gT:∀j,j<K.length→(thenL A K).getD j 0=A.getD (K.getD j 0).toNat 0:=fun j hj=>by simp[thenL,List.getD_eq_getElem?_getD,hj]
 generalize mturn A.length O.length (mpart k X A O)=PT at*
 generalize mpart k X A O=P at*
 generalize mpart k X (thenL A K) O=Q at*
 have hAO:=Nat.mul_le_mul (show A.length≤8 by omega) (show O.length≤8 by omega)
 have w0':IntKind.i64.wrap ((A.length:Int)*(O.length:Int))=((A.length*O.length:Nat):Int):=by rw[←Int.natCast_mul,wrap_i64 (by omega) (by omega)]
 have t4:((P.length:Int) != ((A.length*O.length:Nat):Int))=false:=by rw[lP];exact bne_self_eq_false _
 refine callF (Z:=[4,39]) tabOK mixedOK Tryz.func12 rfl (by kernel_rfl) (by first|rfl|(simp[keylessL,keyless,keylessL_map, *];done)) (by first|rfl|(simp[keylessL,keyless,keylessL_map, *];done)) (by kernel_rfl) rfl ?_
 intro w0 ρ0 hE
 conv=>whnf
 (repeat((first|refine step_w1 rfl rfl ?_|refine g_c (by assumption) ?_|refine g_o (op_pickF rfl (ev_ok rfl) (ev_ok rfl)) ?_|refine tst_ff t3 ?_|refine g_o (op_lenM rfl rfl rfl (ev_ok rfl) (tgt rfl) rfl) ?_|refine g_o (op_loadA rfl (ev_ok rfl) (tgt rfl) rfl (Nat.succ_ne_zero _) rfl) ?_|rw[t1]|rw[t2]|rw[t3]);conv=>whnf))
 refine SW_loopN hE (fun k=>k) [1,2,3,9,10,11,12,13,14] [11,12] (fun m fr hp=>∃p:Nat,m=k - p∧p≤k∧fr=[(1,ivec .i64 rows),(2,ivec .i64 cols),(3,ivec .i64 again),(9,iv n),(10,iv k),(11,.ptr 11 0 0 0),(12,.ptr 12 0 0 0),(13,iv 0),(14,iv (p:Nat))]∧
  hp=[(11,mblk n k X),(12,mblk n k (cutS n k X p))]) k ?_ ?_ ?_
 ·kernel_rfl
 ·exact⟨0,rfl,Nat.zero_le _,rfl,rfl⟩
 rintro m _ _ ⟨p,rfl,hp,rfl,rfl⟩
 conv=>whnf
 by_cases hlt:p<k
 ·have u1:=dlt hlt
  have u2:=winc (i:=p) (by omega)
  have c1:=m_Col hX (i:=p) hlt
  have c2:=v_Unit k p (by omega) hlt
  have lC:(colF n k X p).length=n:=by simp[colF]
  have lU:((List.replicate k (0:Rat)).set p 1).length=k:=by simp
  have sU:Sm 10 ((List.replicate k (0:Rat)).set p 1):=by
   intro i hi
   rw[lU]at hi
   rw[unit_get hi];split<;>decide+kernel
  have sC:=Sm_col hXl sX hlt
  have c3:=m_Outer (v:=colF n k X p) (w:=(List.replicate k (0:Rat)).set p 1) (by omega) (by omega) sC sU (by decide)
  have c4:=cutS_next (n:=n) (X:=X) hlt
  have hM:OKM n k (cutS n k X p):=OKM_mk (by omega) (by omega)
  have sO:Sm 140 (mk n k fun i j=>(colF n k X p).getD i 0*((List.replicate k (0:Rat)).set p 1).getD j 0):=Sm_mk fun i j hi hj=>by
   have b1:=sC i (by omega)
   have b2:=sU j (by omega)
   have:=fs_mul ((colF n k X p).getD i 0) (((List.replicate k (0:Rat)).set p 1).getD j 0)
   omega
  have c5:=l_addM hM (b:=mk n k fun i j=>(colF n k X p).getD i 0*((List.replicate k (0:Rat)).set p 1).getD j 0) (OKM_mk (by omega) (by omega)) (Sm_cutS hXl sX (by decide)) sO (by decide)
  rw[c4]at c5
  unfold mouter at c3
  rw[lC,lU]at c3
  clear c4 sO sC sU gP gT
  (repeat((first|refine g_c (by assumption) ?_|refine tst_tt u1 ?_|rw[u1]|rw[u2]);conv=>whnf))
  exact⟨k - (p+1),fun k=>k,[1,2,3,9,10,11,12,13,14],[11,12],by omega,by kernel_rfl,p+1,rfl,hlt,rfl,rfl⟩
 have u1:=dge hlt
 obtain rfl:p=k:=by omega
 rw[cutS_all hXl]
 clear o1 ks km kf t1 t2 t3 hlt
 (repeat((first|refine step_w1 rfl rfl ?_|refine step_w2 rfl rfl ?_|refine step_i (by kernel_rfl) ?_|refine g_c (by assumption) ?_|refine g_o (op_pickF rfl (ev_ok rfl) (ev_ok rfl)) ?_|rw[bne_self_eq_false]|refine tst_ff u1 ?_|refine tst_ff t4 ?_|refine g_o (op_lenM rfl rfl rfl (ev_ok rfl) (tgt rfl) rfl) ?_|rw[u1]|rw[t4]|rw[w0']|rw[Nat.zero_add]);conv=>whnf))
 refine SW_loopN hE (fun k=>k) [3,10,11,23,24,25,27] [11,25] (fun m fr hp=>∃i:Nat,m=A.length - i∧i≤A.length∧fr=[(3,ivec .i64 again),(10,iv p),(11,.ptr 11 0 0 0),(23,ivec .i64 A),(24,ivec .i64 O),(25,.ptr 25 0 0 0),(27,iv (i:Nat))]∧
  hp=[(11,mblk n p X),(25,mblk A.length O.length P)]) A.length ?_ ?_ ?_
 ·kernel_rfl
 ·exact⟨0,rfl,Nat.zero_le _,rfl,rfl⟩
 clear o2 o3 p1 p2 p3 p4 q1
 rintro m _ _ ⟨i,rfl,hi,rfl,rfl⟩
 conv=>whnf
 by_cases hlt:i<A.length
 ·have u1:=dlt hlt
  have u2:=winc (i:=i) (by omega)
  (repeat(first|(refine tst_tt u1 ?_;conv=>whnf)|(refine g_o (op_lenM rfl rfl rfl (ev_ok rfl) (tgt rfl) rfl) ?_;conv=>whnf)|(rw[u1];conv=>whnf)))
  refine SW_loopN hE (fun k=>k) [3,10,11,23,24,25,27,28] [11,25] (fun m fr hp=>∃j:Nat,m=O.length - j∧j≤O.length∧fr=[(3,ivec .i64 again),(10,iv p),(11,.ptr 11 0 0 0),(23,ivec .i64 A),(24,ivec .i64 O),(25,.ptr 25 0 0 0),(27,iv (i:Nat)),(28,iv (j:Nat))]∧
   hp=[(11,mblk n p X),(25,mblk A.length O.length P)]) O.length ?_ ?_ ?_
  ·kernel_rfl
  ·exact⟨0,rfl,Nat.zero_le _,rfl,rfl⟩
  rintro m _ _ ⟨j,rfl,hj,rfl,rfl⟩
  conv=>whnf
  by_cases hlj:j<O.length
  ·have u3:=dlt hlj
   have u4:=winc (i:=j) (by omega)
   obtain⟨w1,w2⟩:=idx_w (i:=i) (k:=j) (c:=O.length) (by omega) (by omega) (by omega)
   have hix:=idx_lt hlt hlj
   rw[←lP]at hix
   have g1:=gP i j hlt hlj
   have b1:=iA _ (getD_mem (d:=0) hlt)
   have b2:=iO _ (getD_mem (d:=0) hlj)
   obtain⟨x,hx⟩:∃x:Nat,A.getD i 0=(x:Int):=⟨(A.getD i 0).toNat,by omega⟩
   obtain⟨y,hy⟩:∃y:Nat,O.getD j 0=(y:Int):=⟨(O.getD j 0).toNat,by omega⟩
   rw[hx,hy,Int.toNat_natCast,Int.toNat_natCast]at g1
   rw[hx]at b1
   rw[hy]at b2
   have hxy:=idx_lt (r:=n) (c:=p) (i:=x) (k:=y) (by omega) (by omega)
   rw[←hXl]at hxy
   obtain⟨w3,w4⟩:=idx_w (i:=x) (k:=y) (c:=p) (by omega) (by omega) (by omega)
   clear gP gT
   (repeat((first|refine step_w2 rfl rfl ?_|refine step_i (by kernel_rfl) ?_|refine tst_tt u3 ?_|refine g_o (op_lenM rfl rfl rfl (ev_ok rfl) (tgt rfl) rfl) ?_|refine g_o (op_loadA rfl (ev_ok rfl) (tgt rfl) rfl (Nat.succ_ne_zero _) rfl) ?_|refine g_o (op_indexN (α:=Int) (d:=0) rfl (ev_ok rfl) (ev_ok rfl) (tgt rfl) rfl (tgt rfl) rfl (by omega)) ?_|refine g_o (op_indexM (α:=Rat) (d:=0) rfl (ev_ok rfl) (ev_ok rfl) (tgt rfl) rfl (tgt rfl) rfl (by omega)) ?_|refine⟨_,op_neAgg tabOK goodOK rfl (ev_ok rfl) (ev_ok rfl) rfl rfl rfl rfl (q_eq (g1)) q_guard, ?_⟩|rw[u3]|rw[u4]|rw[w1]|rw[w2]|rw[hx]|rw[hy]|rw[w3]|rw[w4]|rw[Int.toNat_natCast]|rw[Nat.zero_add]);conv=>whnf))
   exact⟨O.length - (j+1),fun k=>k,[3,10,11,23,24,25,27,28],[11,25],by omega,by kernel_rfl,j+1,rfl,hlj,rfl,rfl⟩
  ·have u3:=dge hlj
   (repeat((first|refine tst_ff u3 ?_|refine g_o (op_lenM rfl rfl rfl (ev_ok rfl) (tgt rfl) rfl) ?_|rw[u3]|rw[u2]);conv=>whnf))
   exact⟨A.length - (i+1),fun k=>k,[3,10,11,23,24,25,27],[11,25],by omega,by kernel_rfl,i+1,rfl,hlt,rfl,rfl⟩
 have u1:=dge hlt
 clear gP hi hlt
 (repeat((first|refine g_c (by assumption) ?_|refine tst_ff u1 ?_|refine g_o (op_lenM rfl rfl rfl (ev_ok rfl) (tgt rfl) rfl) ?_|rw[u1]);conv=>whnf))
 clear iO lO hAO w0' t4 hXl o5 p5 o4
 refine SWx_adopt (t:=32) (k:=2001) (s:=1) (blk:=iblkM []) rfl rfl rfl ?_
 refine SW_loopS hE (fun k=>k) [11,23,24,25,29,30,31,32,33] [11,25,29,2001] (fun m fr hp=>∃i:Nat,m=K.length - i∧i≤K.length∧fr=[(11,.ptr 11 0 0 0),(23,ivec .i64 A),(24,ivec .i64 O),(25,.ptr 25 0 0 0),(29,.ptr 29 0 0 0),(30,iv 0),(31,ivec .i64 K),(32,.slc 2001 1 0 i),(33,iv (i:Nat))]∧
  hp=[(11,mblk n p X),(25,mblk A.length O.length P),(29,mblk O.length A.length PT),(2001,iblkM ((thenL A K).take i))]) K.length ?_ ?_ ?_
 ·kernel_rfl
 ·exact⟨0,rfl,Nat.zero_le _,rfl,rfl⟩
 rintro m _ _ ⟨i,rfl,hi,rfl,rfl⟩
 have lt0:((thenL A K).take i).length=i:=by rw[List.length_take];omega
 by_cases hlt:i<K.length
 ·have u1:=dlt hlt
  have u2:=winc (i:=i) (by omega)
  have b1:=iK _ (getD_mem (d:=0) hlt)
  have g1:=gT i hlt
  obtain⟨x,hx⟩:∃x:Nat,K.getD i 0=(x:Int):=⟨(K.getD i 0).toNat,by omega⟩
  rw[hx,Int.toNat_natCast]at g1
  rw[hx]at b1
  have e1:=app_int (l:=(thenL A K).take i) (x:=A.getD x 0)
  rw[lt0]at e1
  have e2:(thenL A K).take (i+1)=(thenL A K).take i++[A.getD x 0]:=by
   rw[←g1,List.take_add_one,List.getD_eq_getElem?_getD,List.getElem?_eq_getElem (show i<(thenL A K).length by omega)];rfl
  clear gT
  refine SWx.of hE ?_
  conv=>whnf
  (repeat((first|refine step_oA (by first|omega|decide|(simp only[tl0,dlen,List.length_replicate,List.length_set,List.length_map,List.length_zipWith,List.length_take,List.length_append,List.length_cons,List.length_nil];omega)) ?_|refine tst_tt u1 ?_|refine g_o (op_lenM rfl rfl rfl (ev_ok rfl) (tgt rfl) rfl) ?_|refine g_o (op_loadA rfl (ev_ok rfl) (tgt rfl) rfl (Nat.succ_ne_zero _) rfl) ?_|refine g_o (op_indexN (α:=Int) (d:=0) rfl (ev_ok rfl) (ev_ok rfl) (tgt rfl) rfl (tgt rfl) rfl (by omega)) ?_|refine g_o (op_indexM (α:=Int) (d:=0) rfl (ev_ok rfl) (ev_ok rfl) (tgt rfl) rfl (tgt rfl) rfl (by omega)) ?_|rw[u1]|rw[u2]|rw[hx]|rw[Int.toNat_natCast]);conv=>whnf))
  refine⟨K.length - (i+1),renBy [(229,2001)],[11,23,24,25,29,30,31,32,33],[11,25,29,229],by omega,by kernel_rfl,i+1,rfl,hlt,rfl, ?_⟩
  rw[e2,e1];rfl
 ·have u1:=dge hlt
  obtain rfl:i=K.length:=by omega
  rw[List.take_of_length_le (by omega)]
  refine SWx_freeze 32 2001 (xs:=(thenL A K).map (iel .i64)) (fun _ h=>h) rfl rfl rfl rfl (keylessL_map (fun _=>rfl) _) (by simp;omega) ?_
  rw[cutL_all (by simp;omega)]
  refine SWx.of hE ?_
  conv=>whnf
  (repeat((first|refine step_w1 rfl rfl ?_|refine step_i (by kernel_rfl) ?_|refine g_c (by assumption) ?_|refine g_o (op_pickT rfl (ev_ok rfl) (ev_ok rfl)) ?_|refine tst_ff u1 ?_|refine g_o (op_lenM rfl rfl rfl (ev_ok rfl) (tgt rfl) rfl) ?_);conv=>whnf));(first|exact Recast.refl _|exact Frz.recast (Recast.refl _) rfl|(refine Frz.one rfl rfl ?_;skip)|(refine Frz.tup ?_;skip))
end Go.Proofs.YtfpagioknjjacaaGreatDoor
