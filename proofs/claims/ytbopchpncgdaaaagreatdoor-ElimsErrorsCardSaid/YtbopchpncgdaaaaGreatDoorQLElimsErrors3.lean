/- The texts Bm. -/
import Derived.Test.YtbopchpncgdaaaaGreatDoorQLElimsErrors2
namespace Go.Proofs.YtbopchpncgdaaaaGreatDoor
open Go.Sx
set_option linter.unusedSimpArgs false
set_option linter.unusedVariables false
set_option maxRecDepth 100000
set_option maxHeartbeats 40000000
theorem zL_get {n p:Nat}:(zL n).getD p 0=0:=by
 rw[zL,List.getD_eq_getElem?_getD,List.getElem?_replicate]
 split<;>rfl
theorem aug_z {r c more:Nat} {b:Mx}:∀i,i<r→(rowsM (c+more) (augW (zL (r*c)) c b) i).length=c+more∧∀k,k<c→(rowsM (c+more) (augW (zL (r*c)) c b) i).getD k 0=0:=fun i hi=>by
 refine⟨rwL_len _ _,fun k hk=> ?_⟩
 rw[show(rowsM (c+more) (augW (zL (r*c)) c b) i).getD k 0=augW (zL (r*c)) c b i k from rwL_get (by omega),aug_lt (r:=r) i k hi hk]
 exact zL_get
theorem e_ReduceZ {r c:Nat} (hr:r≤40) (hc:c≤40):∃red:List Rat,CallOK Tryz.prog 15 [mA r c (zL (r*c))] [] (.tup [mA r c red,ivec .i64 [],iv 0]) [] []:=by
 have ha:OKM r c (zL (r*c)):=⟨by omega,by omega,zL_len _⟩
 have k1:=m_Check0 ha
 have kA:=e_begunA0 0 (zL (r*c)) (fun _ _=>0) 74 (by omega) ha hc (by omega) (fun i k hi hk=>absurd hk (Nat.not_lt_zero _))
 have kR:=e_reduceF (m:=c) (d:=1) (show r≤2000 by omega) (Nat.le_add_right c 0) (by omega) (aug_z (r:=r) (c:=c) (more:=0) (b:=fun _ _=>0))
 have k4:=e_part (r:=r) (m:=c) (c:=c+0) (n:=c) (M:=rowsM (c+0) (augW (zL (r*c)) c fun _ _=>0)) (pv:=[]) (d:=1) (fun i _=>rwL_len _ _) 0 (by omega) (by omega) (by omega)
 simp only[Nat.zero_add]at k4
 refine⟨mk r c fun i k=>(rowsM (c+0) (augW (zL (r*c)) c fun _ _=>0) i).getD k 0, ?_⟩
 refine callF (Z:=[1]) tabOK mixedOK Tryz.func15 rfl (by kernel_rfl) (by first|rfl|(simp[keylessL,keyless,keylessL_map, *];done)) (by first|rfl|(simp[keylessL,keyless,keylessL_map, *];done)) (by kernel_rfl) rfl ?_
 intro w0 ρ0 hE
 conv=>whnf
 (repeat((first|refine step_w2 rfl rfl ?_|refine step_i (by kernel_rfl) ?_|refine g_c (by assumption) ?_|rw[bne_self_eq_false]|refine g_o (op_loadA rfl (ev_ok rfl) (tgt rfl) rfl (Nat.succ_ne_zero _) rfl) ?_|refine g_o (op_fieldA rfl (ev_ok rfl) (tgt rfl) rfl rfl (Nat.succ_ne_zero _) rfl) ?_|refine g_o (op_nilCheckA rfl (ev_ok rfl)) ?_);conv=>whnf));(first|exact Recast.refl _|exact Frz.recast (Recast.refl _) rfl|(refine Frz.one rfl rfl ?_;skip)|(refine Frz.tup ?_;skip))
theorem e_RankZ {r c:Nat} (hr:r≤40) (hc:c≤40):CallOK Tryz.prog 16 [mA r c (zL (r*c))] [] (.tup [iv 0,iv 0]) [] []:=by
 obtain⟨red,k1⟩:=e_ReduceZ hr hc
 refine callF (Z:=[1]) tabOK mixedOK Tryz.func16 rfl (by kernel_rfl) (by first|rfl|(simp[keylessL,keyless,keylessL_map, *];done)) (by first|rfl|(simp[keylessL,keyless,keylessL_map, *];done)) (by kernel_rfl) rfl ?_
 intro w0 ρ0 hE
 conv=>whnf
 (repeat(first|(refine g_c (by assumption) ?_;conv=>whnf)|(refine g_o (op_lenM rfl rfl rfl (ev_ok rfl) (tgt rfl) rfl) ?_;conv=>whnf)|(refine g_o (op_loadA rfl (ev_ok rfl) (tgt rfl) rfl (Nat.succ_ne_zero _) rfl) ?_;conv=>whnf)));(first|exact Recast.refl _|exact Frz.recast (Recast.refl _) rfl|(refine Frz.one rfl rfl ?_;skip)|(refine Frz.tup ?_;skip))
theorem e_KernelZ {r c:Nat} (hr:r≤40) (hc:c≤40):∃l:List (List Rat),CallOK Tryz.prog 17 [mA r c (zL (r*c))] [] (.tup [mvec 1 fvec l,iv 0]) [] []:=by
 have ha:OKM r c (zL (r*c)):=⟨by omega,by omega,zL_len _⟩
 have k1:=m_Check0 ha
 have kA:=e_begunA0 0 (zL (r*c)) (fun _ _=>0) 74 (by omega) ha hc (by omega) (fun i k hi hk=>absurd hk (Nat.not_lt_zero _))
 have kR:=e_reduceF (m:=c) (d:=1) (show r≤2000 by omega) (Nat.le_add_right c 0) (by omega) (aug_z (r:=r) (c:=c) (more:=0) (b:=fun _ _=>0))
 have k4:=e_kernel (r:=r) (m:=c) (c:=c+0) (M:=rowsM (c+0) (augW (zL (r*c)) c fun _ _=>0)) (sp:=[]) (d:=1) (fun i _=>rwL_len _ _) (by omega) (by omega) (by omega) (Nat.zero_le _) (fun j hj=>absurd hj (Nat.not_lt_zero _))
 refine⟨List.map (kvL (rowsM (c+0) (augW (zL (r*c)) c fun _ _=>0)) [] c) (freeF [] c), ?_⟩
 refine callF (Z:=[1]) tabOK mixedOK Tryz.func17 rfl (by kernel_rfl) (by first|rfl|(simp[keylessL,keyless,keylessL_map, *];done)) (by first|rfl|(simp[keylessL,keyless,keylessL_map, *];done)) (by kernel_rfl) rfl ?_
 intro w0 ρ0 hE
 conv=>whnf
 (repeat((first|refine step_w2 rfl rfl ?_|refine g_c (by assumption) ?_|rw[bne_self_eq_false]|refine g_o (op_loadA rfl (ev_ok rfl) (tgt rfl) rfl (Nat.succ_ne_zero _) rfl) ?_);conv=>whnf));(first|exact Recast.refl _|exact Frz.recast (Recast.refl _) rfl|(refine Frz.one rfl rfl ?_;skip)|(refine Frz.tup ?_;skip))
theorem e_SolveZ {r c:Nat} (hr:r≤40) (hc:c≤40):∃(X:List Rat) (l:List (List Rat)),CallOK Tryz.prog 18 [mA r c (zL (r*c)),fvec (zL r)] [] (.tup [.agg [fvec X,mvec 1 fvec l],iv 0]) [] []:=by
 have ha:OKM r c (zL (r*c)):=⟨by omega,by omega,zL_len _⟩
 have hb:=zL_len r
 have k1:=e_may ha hb
 obtain⟨s,hs⟩:∃s:St,s=⟨augW (zL (r*c)) c (fun i _=>(zL r).getD i 0),[],1⟩:=⟨_,rfl⟩
 have kA:=e_begunA1 1 (zL (r*c)) (fun i _=>(zL r).getD i 0) 79 (ptrP [fvec (zL r)]) (by omega) ha hc (by omega) (fun i k hi _=>e_Solve1 i k (by rw[hb];exact hi))
 have kR:=e_reduceF (m:=c) (d:=1) (show r≤2000 by omega) (Nat.le_add_right c 1) (by omega) (aug_z (r:=r) (c:=c) (more:=1) (b:=fun i _=>(zL r).getD i 0))
 have hz:∀i,s.piv.length≤i→i<r→s.w i c=0:=fun i _ hi=>by rw[hs];exact(aug_ge (k:=0) (a:=zL (r*c)) (b:=fun i _=>(zL r).getD i 0)).trans zL_get
 have hl1:s.piv.length≤r:=by rw[hs];exact Nat.zero_le _
 have hl2:∀j,j<s.piv.length→s.piv.getD j 0<c:=fun j hj=>by rw[hs]at hj;exact absurd hj (Nat.not_lt_zero _)
 replace kA:CallOK Tryz.prog 73 [mA r c (zL (r*c)),iv (1:Nat),.clo 79 [] [ptrA [fvec (zL r)]]] [] (wkA r c (c+1) (rowsM (c+1) s.w) (s.piv.map ofN) s.d) [] []:=by rw[hs];exact kA
 replace kR:CallOK Tryz.prog 75 [wkA r c (c+1) (rowsM (c+1) s.w) (s.piv.map ofN) s.d] [] (wkA r c (c+1) (rowsM (c+1) s.w) (s.piv.map ofN) s.d) [] []:=by rw[hs];exact kR
 have k4:=e_kernel (r:=r) (m:=c) (c:=c+1) (M:=rowsM (c+1) s.w) (sp:=s.piv) (d:=s.d) (fun i _=>rwL_len _ _) (by omega) (by omega) (by omega) hl1 hl2
 have hrl:=rM_len r (rowsM (c+1) s.w)
 have hpl:(s.piv.map ofN).length=s.piv.length:=List.length_map _
 clear hs
 generalize hq:zL (r*c)=a at*
 generalize hqb:zL r=b at*
 clear hq hqb
 refine⟨xS (rowsM (c+1) s.w) s.piv c c s.piv.length,(freeF s.piv c).map (kvL (rowsM (c+1) s.w) s.piv c), ?_⟩
 refine callF (Z:=[2,3,100017]) tabOK mixedOK Tryz.func18 rfl (by kernel_rfl) (by first|rfl|(simp[keylessL,keyless,keylessL_map, *];done)) (by first|rfl|(simp[keylessL,keyless,keylessL_map, *];done)) (by kernel_rfl) rfl ?_
 intro w0 ρ0 hE
 conv=>whnf
 (repeat((first|refine step_w2 rfl rfl ?_|refine step_i (by kernel_rfl) ?_|refine g_c (by assumption) ?_|rw[bne_self_eq_false]|refine g_o (op_lenM rfl rfl rfl (ev_ok rfl) (tgt rfl) rfl) ?_|refine g_o (op_loadA rfl (ev_ok rfl) (tgt rfl) rfl (Nat.succ_ne_zero _) rfl) ?_|refine g_o (op_fieldA rfl (ev_ok rfl) (tgt rfl) rfl rfl (Nat.succ_ne_zero _) rfl) ?_|refine g_o (op_sliceM rfl (ev_ok rfl) (bound_spec rfl) (bound_spec rfl) (.inl rfl) (tgt rfl) rfl (tgt rfl) rfl (by omega)) ?_|refine g_o (op_nilCheckA rfl (ev_ok rfl)) ?_|refine g_o (op_makeFunc rfl rfl rfl) ?_|rw[hrl]|rw[hpl]|rw[Int.toNat_natCast]);conv=>whnf))
 generalize hTL:List.take (r - s.piv.length) (List.drop s.piv.length ((List.range r).map (rowsM (c+1) s.w)))=TL
 have hTl:TL.length=r - s.piv.length:=by rw[←hTL];exact tail_len
 have hTg:∀i,s.piv.length+i<r→TL.getD i []=rowsM (c+1) s.w (s.piv.length+i):=fun i hi=>by rw[←hTL];exact tail_get hi
 refine SW_loopN hE (fun k=>k) [2,4,7,33,34,35] [4] (fun m fr hp=>∃i:Nat,m=r - i∧s.piv.length+i≤r∧fr=[(2,ptrA (mC r c a)),(4,.ptr 4 0 0 0),(7,wkA r c (c+1) (rowsM (c+1) s.w) (s.piv.map ofN) s.d),(33,mvec 1 fvec TL),(34,iv (r - s.piv.length:Nat)),(35,iv i)]∧hp=[(4,zSol)]) r ?_ ?_ ?_
 ·kernel_rfl
 ·exact⟨0,rfl,by omega,by rw[←hTl];rfl,rfl⟩
 rintro m _ _ ⟨i,rfl,hi,rfl,rfl⟩
 conv=>whnf
 by_cases hlt:i<r - s.piv.length
 ·have t1:=dlt hlt
  have t2:=winc (i:=i) (by omega)
  have g1:=hTg i (by omega)
  have g2:(rowsM (c+1) s.w (s.piv.length+i)).length=c+1:=rwL_len _ _
  have g3:(rowsM (c+1) s.w (s.piv.length+i)).getD c 0=s.w (s.piv.length+i) c:=rwL_get (Nat.lt_succ_self c)
  have k2:=c_fSign (s.w (s.piv.length+i) c)
  have t3:((s.w (s.piv.length+i) c).num.sign != 0)=false:=by rw[hz _ (by omega) (by omega)];rfl
  (repeat((first|refine g_c (by assumption) ?_|refine tst_tt t1 ?_|refine tst_ff t3 ?_|refine g_o (op_indexN (α:=Rat) (d:=0) rfl (ev_ok rfl) (ev_ok rfl) (tgt rfl) rfl (tgt rfl) rfl (by omega)) ?_|refine g_o (op_loadA rfl (ev_ok rfl) (tgt rfl) rfl (Nat.succ_ne_zero _) rfl) ?_|refine g_o (op_indexN (α:=List Rat) (d:=[]) rfl (ev_ok rfl) (ev_ok rfl) (tgt rfl) rfl (tgt rfl) rfl (by omega)) ?_|refine g_o (op_fieldA rfl (ev_ok rfl) (tgt rfl) rfl rfl (Nat.succ_ne_zero _) rfl) ?_|rw[t1]|rw[t2]|rw[g1]|rw[g3]|rw[t3]);conv=>whnf))
  exact⟨r - (i+1),fun k=>k,[2,4,7,33,34,35],[4],by omega,by kernel_rfl,i+1,rfl,by omega,rfl,rfl⟩
 ·have t1:=dge hlt
  (repeat((first|refine step_oA (by first|omega|decide|(simp only[tl0,dlen,List.length_replicate,List.length_set,List.length_map,List.length_zipWith,List.length_take,List.length_append,List.length_cons,List.length_nil];omega)) ?_|refine tst_ff t1 ?_|refine g_o (op_lenM rfl rfl rfl (ev_ok rfl) (tgt rfl) rfl) ?_|refine g_o (op_loadA rfl (ev_ok rfl) (tgt rfl) rfl (Nat.succ_ne_zero _) rfl) ?_|refine g_o (op_fieldA rfl (ev_ok rfl) (tgt rfl) rfl rfl (Nat.succ_ne_zero _) rfl) ?_|refine g_o (op_nilCheckA rfl (ev_ok rfl)) ?_|rw[t1]|rw[hpl]|rw[Int.toNat_natCast]);conv=>whnf))
  generalize hM:rowsM (c+1) s.w=M at*
  refine SW_loopN hE (fun k=>k) [2,4,7,10,54,55,56] [4,50] (fun m fr hp=>∃i:Nat,m=s.piv.length - i∧i≤s.piv.length∧fr=[(2,ptrA (mC r c a)),(4,.ptr 4 0 0 0),(7,wkA r c (c+1) M (s.piv.map ofN) s.d),(10,.slc 50 5 0 c),(54,ivec .i64 (s.piv.map ofN)),(55,iv s.piv.length),(56,iv i)]∧hp=[(4,zSol),(50,fblk (xS M s.piv c c i))]) s.piv.length ?_ ?_ ?_
  ·kernel_rfl
  ·exact⟨0,rfl,Nat.zero_le _,rfl,rfl⟩
  rintro m _ _ ⟨j,rfl,hj,rfl,rfl⟩
  conv=>whnf
  by_cases hjt:j<s.piv.length
  ·have t4:=dlt hjt
   have t5:=winc (i:=j) (by omega)
   have g1:(s.piv.map ofN).getD j 0=((s.piv.getD j 0:Nat):Int):=by simp[List.getD_eq_getElem?_getD,hjt]
   have g2:=rM_get (M:=M) (show j<r by omega)
   have g3:(M j).length=c+1:=by rw[←hM];exact rwL_len _ _
   have g4:=hl2 j hjt
   have g5:=xS_len M s.piv c c j
   clear k4 k1
   (repeat((first|refine step_i (by kernel_rfl) ?_|refine step_oL (by first|omega|decide|(simp only[tl0,dlen,List.length_replicate,List.length_set,List.length_map,List.length_zipWith,List.length_take,List.length_append,List.length_cons,List.length_nil];omega)) ?_|refine step_oA (by first|omega|decide|(simp only[tl0,dlen,List.length_replicate,List.length_set,List.length_map,List.length_zipWith,List.length_take,List.length_append,List.length_cons,List.length_nil];omega)) ?_|refine tst_tt t4 ?_|refine g_o (op_indexN (α:=Rat) (d:=0) rfl (ev_ok rfl) (ev_ok rfl) (tgt rfl) rfl (tgt rfl) rfl (by omega)) ?_|refine g_o (op_loadA rfl (ev_ok rfl) (tgt rfl) rfl (Nat.succ_ne_zero _) rfl) ?_|refine g_o (op_indexN (α:=Int) (d:=0) rfl (ev_ok rfl) (ev_ok rfl) (tgt rfl) rfl (tgt rfl) rfl (by omega)) ?_|refine g_o (op_indexN (α:=List Rat) (d:=[]) rfl (ev_ok rfl) (ev_ok rfl) (tgt rfl) rfl (tgt rfl) rfl (by omega)) ?_|refine g_o (op_fieldA rfl (ev_ok rfl) (tgt rfl) rfl rfl (Nat.succ_ne_zero _) rfl) ?_|refine g_o (op_nilCheckA rfl (ev_ok rfl)) ?_|rw[t4]|rw[t5]|rw[g1]|rw[g2]|rw[Int.toNat_natCast]|rw[Nat.zero_add]);conv=>whnf))
   exact⟨s.piv.length - (j+1),fun k=>k,[2,4,7,10,54,55,56],[4,50],by omega,by kernel_rfl,j+1,rfl,hjt,rfl,rfl⟩
  ·have t4:=dge hjt
   obtain rfl:j=s.piv.length:=by omega
   (repeat(first|(refine tst_ff t4 ?_;conv=>whnf)|(rw[t4];conv=>whnf)))
   refine SWx_freezeF 10 50 (fun _ h=>h) rfl rfl (xS_len M s.piv c c _).symm ?_
   refine SWx_go hE ?_
   conv=>whnf
   (repeat(first|(refine g_c (by assumption) ?_;conv=>whnf)));(first|exact Recast.refl _|exact Frz.recast (Recast.refl _) rfl|(refine Frz.one rfl rfl ?_;skip)|(refine Frz.tup ?_;skip))
theorem e_AgainstZ {r c:Nat} (hr:r≤40) (hc:c≤40):CallOK Tryz.prog 19 [mA r c (zL (r*c)),fvec (zL r)] [] (.tup [fvec [],iv 6]) [] []:=by
 have ha:OKM r c (zL (r*c)):=⟨by omega,by omega,zL_len _⟩
 have hb:=zL_len r
 have k1:=e_may ha hb
 obtain⟨s,hs⟩:∃s:St,s=⟨augW (zL (r*c)) c (agB (zL r)),[],1⟩:=⟨_,rfl⟩
 have t0:IntKind.i64.wrap (1+(r:Int))=((1+r:Nat):Int):=by rw[wrap_i64 (by omega) (by omega)];omega
 have kA:=e_begunA1 (1+r) (zL (r*c)) (agB (zL r)) 80 (ptrP [fvec (zL r)]) (by omega) ha hc (by omega) (fun i k hi _=>e_Against1 i k (by rw[hb];exact hi) (by omega))
 have kR:=e_reduceF (m:=c) (d:=1) (show r≤2000 by omega) (Nat.le_add_right c (1+r)) (by omega) (aug_z (r:=r) (c:=c) (more:=1+r) (b:=agB (zL r)))
 have hz:∀i,s.piv.length≤i→i<r→s.w i c=0:=fun i _ hi=>by rw[hs];exact(aug_ge (k:=0) (a:=zL (r*c)) (b:=agB (zL r))).trans zL_get
 have hl1:s.piv.length≤r:=by rw[hs];exact Nat.zero_le _
 replace kA:CallOK Tryz.prog 73 [mA r c (zL (r*c)),iv (1+r:Nat),.clo 80 [] [ptrA [fvec (zL r)]]] [] (wkA r c (c+(1+r)) (rowsM (c+(1+r)) s.w) (s.piv.map ofN) s.d) [] []:=by rw[hs];exact kA
 replace kR:CallOK Tryz.prog 75 [wkA r c (c+(1+r)) (rowsM (c+(1+r)) s.w) (s.piv.map ofN) s.d] [] (wkA r c (c+(1+r)) (rowsM (c+(1+r)) s.w) (s.piv.map ofN) s.d) [] []:=by rw[hs];exact kR
 have hrl:=rM_len r (rowsM (c+(1+r)) s.w)
 have hpl:(s.piv.map ofN).length=s.piv.length:=List.length_map _
 clear hs
 generalize hq:zL (r*c)=a at*
 generalize hqb:zL r=b at*
 clear hq hqb
 refine callF (Z:=[2,3]) tabOK mixedOK Tryz.func19 rfl (by kernel_rfl) (by first|rfl|(simp[keylessL,keyless,keylessL_map, *];done)) (by first|rfl|(simp[keylessL,keyless,keylessL_map, *];done)) (by kernel_rfl) rfl ?_
 intro w0 ρ0 hE
 conv=>whnf
 (repeat((first|refine step_w2 rfl rfl ?_|refine step_i (by kernel_rfl) ?_|refine g_c (by assumption) ?_|rw[bne_self_eq_false]|refine g_o (op_lenM rfl rfl rfl (ev_ok rfl) (tgt rfl) rfl) ?_|refine g_o (op_loadA rfl (ev_ok rfl) (tgt rfl) rfl (Nat.succ_ne_zero _) rfl) ?_|refine g_o (op_fieldA rfl (ev_ok rfl) (tgt rfl) rfl rfl (Nat.succ_ne_zero _) rfl) ?_|refine g_o (op_sliceM rfl (ev_ok rfl) (bound_spec rfl) (bound_spec rfl) (.inl rfl) (tgt rfl) rfl (tgt rfl) rfl (by omega)) ?_|refine g_o (op_nilCheckA rfl (ev_ok rfl)) ?_|refine g_o (op_makeFunc rfl rfl rfl) ?_|rw[t0]|rw[hrl]|rw[hpl]|rw[Int.toNat_natCast]);conv=>whnf))
 generalize hTL:List.take (r - s.piv.length) (List.drop s.piv.length ((List.range r).map (rowsM (c+(1+r)) s.w)))=TL
 have hTl:TL.length=r - s.piv.length:=by rw[←hTL];exact tail_len
 have hTg:∀i,s.piv.length+i<r→TL.getD i []=rowsM (c+(1+r)) s.w (s.piv.length+i):=fun i hi=>by rw[←hTL];exact tail_get hi
 refine SW_loopN hE (fun k=>k) [2,35,36,37] [] (fun m fr hp=>∃i:Nat,m=r - i∧s.piv.length+i≤r∧fr=[(2,ptrA (mC r c a)),(35,mvec 1 fvec TL),(36,iv (r - s.piv.length:Nat)),(37,iv i)]∧hp=[]) r ?_ ?_ ?_
 ·kernel_rfl
 ·exact⟨0,rfl,by omega,by rw[←hTl];rfl,rfl⟩
 rintro m _ _ ⟨i,rfl,hi,rfl,rfl⟩
 conv=>whnf
 by_cases hlt:i<r - s.piv.length
 ·have t1:=dlt hlt
  have t2:=winc (i:=i) (by omega)
  have g1:=hTg i (by omega)
  have g2:(rowsM (c+(1+r)) s.w (s.piv.length+i)).length=c+(1+r):=rwL_len _ _
  have g3:(rowsM (c+(1+r)) s.w (s.piv.length+i)).getD c 0=s.w (s.piv.length+i) c:=rwL_get (by omega)
  have k2:=c_fSign (s.w (s.piv.length+i) c)
  have t3:((s.w (s.piv.length+i) c).num.sign==0)=true:=by rw[hz _ (by omega) (by omega)];rfl
  (repeat((first|refine g_c (by assumption) ?_|refine tst_tt t1 ?_|refine tst_tt t3 ?_|refine g_o (op_indexN (α:=Rat) (d:=0) rfl (ev_ok rfl) (ev_ok rfl) (tgt rfl) rfl (tgt rfl) rfl (by omega)) ?_|refine g_o (op_loadA rfl (ev_ok rfl) (tgt rfl) rfl (Nat.succ_ne_zero _) rfl) ?_|refine g_o (op_indexN (α:=List Rat) (d:=[]) rfl (ev_ok rfl) (ev_ok rfl) (tgt rfl) rfl (tgt rfl) rfl (by omega)) ?_|refine g_o (op_fieldA rfl (ev_ok rfl) (tgt rfl) rfl rfl (Nat.succ_ne_zero _) rfl) ?_|rw[t1]|rw[t2]|rw[g1]|rw[g3]|rw[t3]);conv=>whnf))
  exact⟨r - (i+1),fun k=>k,[2,35,36,37],[],by omega,by kernel_rfl,i+1,rfl,by omega,rfl,rfl⟩
 ·have t1:=dge hlt
  (repeat(first|(refine tst_ff t1 ?_;conv=>whnf)));(first|exact Recast.refl _|exact Frz.recast (Recast.refl _) rfl|(refine Frz.one rfl rfl ?_;skip)|(refine Frz.tup ?_;(repeat(first|exact FrzC.keyless rfl|exact FrzL.nil|refine FrzL.cons ?_ ?_|exact FrzC.nilS))))
section
variable {r c:Int} {a b:List Rat} {e:Int}
theorem e_ReduceE (hn:a.length<1099511627776) (h:checkF r c a.length≠0):CallOK Tryz.prog 15 [mA r c a] [] (.tup [mA 0 0 [],ivec .i64 [],iv (checkF r c a.length)]) [] []:=by
 have k1:=m_Check r c a hn
 have t1:(checkF r c a.length != 0)=true:=bne_iff_ne.2 h
 refine callF (Z:=[1]) tabOK mixedOK Tryz.func15 rfl (by kernel_rfl) (by first|rfl|(simp[keylessL,keyless,keylessL_map, *];done)) (by first|rfl|(simp[keylessL,keyless,keylessL_map, *];done)) (by kernel_rfl) rfl ?_
 intro w0 ρ0 hE
 conv=>whnf
 (repeat(first|(refine g_c (by assumption) ?_;conv=>whnf)|(refine tst_tt t1 ?_;conv=>whnf)|(refine g_o (op_loadA rfl (ev_ok rfl) (tgt rfl) rfl (Nat.succ_ne_zero _) rfl) ?_;conv=>whnf)));(first|exact Recast.refl _|exact Frz.recast (Recast.refl _) rfl|(refine Frz.one rfl rfl ?_;skip)|(refine Frz.tup ?_;(repeat(first|exact FrzC.keyless rfl|exact FrzL.nil|refine FrzL.cons ?_ ?_|exact FrzC.nilS|refine FrzC.agg ?_))))
theorem e_RankE (hn:a.length<1099511627776) (h:checkF r c a.length≠0):CallOK Tryz.prog 16 [mA r c a] [] (.tup [iv 0,iv (checkF r c a.length)]) [] []:=by
 have k1:=e_ReduceE hn h
 refine callF (Z:=[1]) tabOK mixedOK Tryz.func16 rfl (by kernel_rfl) (by first|rfl|(simp[keylessL,keyless,keylessL_map, *];done)) (by first|rfl|(simp[keylessL,keyless,keylessL_map, *];done)) (by kernel_rfl) rfl ?_
 intro w0 ρ0 hE
 conv=>whnf
 (repeat(first|(refine g_c (by assumption) ?_;conv=>whnf)|(refine g_o (op_lenM rfl rfl rfl (ev_ok rfl) (tgt rfl) rfl) ?_;conv=>whnf)|(refine g_o (op_loadA rfl (ev_ok rfl) (tgt rfl) rfl (Nat.succ_ne_zero _) rfl) ?_;conv=>whnf)));(first|exact Recast.refl _|exact Frz.recast (Recast.refl _) rfl|(refine Frz.one rfl rfl ?_;skip)|(refine Frz.tup ?_;skip))
theorem e_KernelE (hn:a.length<1099511627776) (h:checkF r c a.length≠0):CallOK Tryz.prog 17 [mA r c a] [] (.tup [mvec 1 fvec [],iv (checkF r c a.length)]) [] []:=by
 have k1:=m_Check r c a hn
 have t1:(checkF r c a.length != 0)=true:=bne_iff_ne.2 h
 refine callF (Z:=[1]) tabOK mixedOK Tryz.func17 rfl (by kernel_rfl) (by first|rfl|(simp[keylessL,keyless,keylessL_map, *];done)) (by first|rfl|(simp[keylessL,keyless,keylessL_map, *];done)) (by kernel_rfl) rfl ?_
 intro w0 ρ0 hE
 conv=>whnf
 (repeat(first|(refine g_c (by assumption) ?_;conv=>whnf)|(refine tst_tt t1 ?_;conv=>whnf)|(refine g_o (op_loadA rfl (ev_ok rfl) (tgt rfl) rfl (Nat.succ_ne_zero _) rfl) ?_;conv=>whnf)));(first|exact Recast.refl _|exact Frz.recast (Recast.refl _) rfl|(refine Frz.one rfl rfl ?_;skip)|(refine Frz.tup ?_;(repeat(first|exact FrzC.keyless rfl|exact FrzL.nil|refine FrzL.cons ?_ ?_|exact FrzC.nilS))))
theorem e_mayE (hn:a.length<1099511627776) (h:checkF r c a.length≠0):CallOK Tryz.prog 78 [mA r c a,fvec b] [] (iv (checkF r c a.length)) [] []:=by
 have k1:=m_Check r c a hn
 have t1:(checkF r c a.length != 0)=true:=bne_iff_ne.2 h
 refine callV (Z:=[2]) tabOK mixedOK Tryz.func78 rfl (by kernel_rfl) rfl rfl (by kernel_rfl) rfl ?_
 intro W0 w0 ρ0 hE
 conv=>whnf
 (repeat(first|(refine g_c (by assumption) ?_;conv=>whnf)|(refine tst_tt t1 ?_;conv=>whnf)|(refine g_o (op_loadA rfl (ev_ok rfl) (tgt rfl) rfl (Nat.succ_ne_zero _) rfl) ?_;conv=>whnf)));(first|exact Recast.refl _|exact Frz.recast (Recast.refl _) rfl|(refine Frz.one rfl rfl ?_;skip)|(refine Frz.tup ?_;skip))
theorem e_mayL (hn:a.length<1099511627776) (h:checkF r c a.length=0) (hb:b.length≤2048) (hr:(b.length:Int)≠r):CallOK Tryz.prog 78 [mA r c a,fvec b] [] (iv 1) [] []:=by
 have k1:=m_Check r c a hn
 rw[h]at k1
 have t1:decide ((b.length:Int)>2048)=false:=decide_eq_false (by omega)
 have t2:((b.length:Int) != r)=true:=bne_iff_ne.2 hr
 refine callV (Z:=[2]) tabOK mixedOK Tryz.func78 rfl (by kernel_rfl) rfl rfl (by kernel_rfl) rfl ?_
 intro W0 w0 ρ0 hE
 conv=>whnf
 (repeat((first|refine step_w2 rfl rfl ?_|refine g_c (by assumption) ?_|rw[bne_self_eq_false]|refine tst_ff t1 ?_|refine tst_tt t2 ?_|refine g_o (op_lenM rfl rfl rfl (ev_ok rfl) (tgt rfl) rfl) ?_|refine g_o (op_loadA rfl (ev_ok rfl) (tgt rfl) rfl (Nat.succ_ne_zero _) rfl) ?_|refine g_o (op_fieldA rfl (ev_ok rfl) (tgt rfl) rfl rfl (Nat.succ_ne_zero _) rfl) ?_);conv=>whnf));(first|exact Recast.refl _|exact Frz.recast (Recast.refl _) rfl|(refine Frz.one rfl rfl ?_;skip)|(refine Frz.tup ?_;skip))
theorem e_mayM (hn:a.length<1099511627776) (h:checkF r c a.length=0) (hb:2048<b.length):CallOK Tryz.prog 78 [mA r c a,fvec b] [] (iv 3) [] []:=by
 have k1:=m_Check r c a hn
 rw[h]at k1
 have t1:decide ((b.length:Int)>2048)=true:=decide_eq_true (by omega)
 refine callV (Z:=[2]) tabOK mixedOK Tryz.func78 rfl (by kernel_rfl) rfl rfl (by kernel_rfl) rfl ?_
 intro W0 w0 ρ0 hE
 conv=>whnf
 (repeat((first|refine step_w2 rfl rfl ?_|refine g_c (by assumption) ?_|rw[bne_self_eq_false]|refine tst_tt t1 ?_|refine g_o (op_lenM rfl rfl rfl (ev_ok rfl) (tgt rfl) rfl) ?_|refine g_o (op_loadA rfl (ev_ok rfl) (tgt rfl) rfl (Nat.succ_ne_zero _) rfl) ?_);conv=>whnf));(first|exact Recast.refl _|exact Frz.recast (Recast.refl _) rfl|(refine Frz.one rfl rfl ?_;skip)|(refine Frz.tup ?_;skip))
theorem e_SolveE (k1:CallOK Tryz.prog 78 [mA r c a,fvec b] [] (iv e) [] []) (h:e≠0):CallOK Tryz.prog 18 [mA r c a,fvec b] [] (.tup [.agg [fvec [],mvec 1 fvec []],iv e]) [] []:=by
 have t1:(e != 0)=true:=bne_iff_ne.2 h
 refine callF (Z:=[2,3]) tabOK mixedOK Tryz.func18 rfl (by kernel_rfl) (by first|rfl|(simp[keylessL,keyless,keylessL_map, *];done)) (by first|rfl|(simp[keylessL,keyless,keylessL_map, *];done)) (by kernel_rfl) rfl ?_
 intro w0 ρ0 hE
 conv=>whnf
 (repeat(first|(refine g_c (by assumption) ?_;conv=>whnf)|(refine tst_tt t1 ?_;conv=>whnf)|(refine g_o (op_loadA rfl (ev_ok rfl) (tgt rfl) rfl (Nat.succ_ne_zero _) rfl) ?_;conv=>whnf)));(first|exact Recast.refl _|exact Frz.recast (Recast.refl _) rfl|(refine Frz.one rfl rfl ?_;skip)|(refine Frz.tup ?_;(repeat(first|exact FrzC.keyless rfl|exact FrzL.nil|refine FrzL.cons ?_ ?_|exact FrzC.nilS|refine FrzC.agg ?_))))
theorem e_AgainstE (k1:CallOK Tryz.prog 78 [mA r c a,fvec b] [] (iv e) [] []) (h:e≠0):CallOK Tryz.prog 19 [mA r c a,fvec b] [] (.tup [fvec [],iv e]) [] []:=by
 have t1:(e != 0)=true:=bne_iff_ne.2 h
 refine callF (Z:=[2,3]) tabOK mixedOK Tryz.func19 rfl (by kernel_rfl) (by first|rfl|(simp[keylessL,keyless,keylessL_map, *];done)) (by first|rfl|(simp[keylessL,keyless,keylessL_map, *];done)) (by kernel_rfl) rfl ?_
 intro w0 ρ0 hE
 conv=>whnf
 (repeat(first|(refine g_c (by assumption) ?_;conv=>whnf)|(refine tst_tt t1 ?_;conv=>whnf)|(refine g_o (op_loadA rfl (ev_ok rfl) (tgt rfl) rfl (Nat.succ_ne_zero _) rfl) ?_;conv=>whnf)));(first|exact Recast.refl _|exact Frz.recast (Recast.refl _) rfl|(refine Frz.one rfl rfl ?_;skip)|(refine Frz.tup ?_;(repeat(first|exact FrzC.keyless rfl|exact FrzL.nil|refine FrzL.cons ?_ ?_|exact FrzC.nilS))))
theorem e_squareE (hn:a.length<1099511627776) (h:checkF r c a.length≠0):CallOK Tryz.prog 81 [mA r c a] [] (iv (checkF r c a.length)) [] []:=by
 have k1:=m_Check r c a hn
 have t1:(checkF r c a.length != 0)=true:=bne_iff_ne.2 h
 refine callV (Z:=[1]) tabOK mixedOK Tryz.func81 rfl (by kernel_rfl) rfl rfl (by kernel_rfl) rfl ?_
 intro W0 w0 ρ0 hE
 conv=>whnf
 (repeat(first|(refine g_c (by assumption) ?_;conv=>whnf)|(refine tst_tt t1 ?_;conv=>whnf)|(refine g_o (op_loadA rfl (ev_ok rfl) (tgt rfl) rfl (Nat.succ_ne_zero _) rfl) ?_;conv=>whnf)));(first|exact Recast.refl _|exact Frz.recast (Recast.refl _) rfl|(refine Frz.one rfl rfl ?_;skip)|(refine Frz.tup ?_;skip))
theorem e_squareN (hn:a.length<1099511627776) (h:checkF r c a.length=0) (hrc:r≠c):CallOK Tryz.prog 81 [mA r c a] [] (iv 1) [] []:=by
 have k1:=m_Check r c a hn
 rw[h]at k1
 have t1:(r != c)=true:=bne_iff_ne.2 hrc
 refine callV (Z:=[1]) tabOK mixedOK Tryz.func81 rfl (by kernel_rfl) rfl rfl (by kernel_rfl) rfl ?_
 intro W0 w0 ρ0 hE
 conv=>whnf
 (repeat((first|refine step_w2 rfl rfl ?_|refine g_c (by assumption) ?_|rw[bne_self_eq_false]|refine tst_tt t1 ?_|refine g_o (op_loadA rfl (ev_ok rfl) (tgt rfl) rfl (Nat.succ_ne_zero _) rfl) ?_|refine g_o (op_fieldA rfl (ev_ok rfl) (tgt rfl) rfl rfl (Nat.succ_ne_zero _) rfl) ?_);conv=>whnf));(first|exact Recast.refl _|exact Frz.recast (Recast.refl _) rfl|(refine Frz.one rfl rfl ?_;skip)|(refine Frz.tup ?_;skip))
theorem e_InverseE (k1:CallOK Tryz.prog 81 [mA r c a] [] (iv e) [] []) (h:e≠0):CallOK Tryz.prog 20 [mA r c a] [] (.tup [mA 0 0 [],iv e]) [] []:=by
 have t1:(e != 0)=true:=bne_iff_ne.2 h
 refine callF (Z:=[1]) tabOK mixedOK Tryz.func20 rfl (by kernel_rfl) (by first|rfl|(simp[keylessL,keyless,keylessL_map, *];done)) (by first|rfl|(simp[keylessL,keyless,keylessL_map, *];done)) (by kernel_rfl) rfl ?_
 intro w0 ρ0 hE
 conv=>whnf
 (repeat(first|(refine g_c (by assumption) ?_;conv=>whnf)|(refine tst_tt t1 ?_;conv=>whnf)|(refine g_o (op_loadA rfl (ev_ok rfl) (tgt rfl) rfl (Nat.succ_ne_zero _) rfl) ?_;conv=>whnf)));(first|exact Recast.refl _|exact Frz.recast (Recast.refl _) rfl|(refine Frz.one rfl rfl ?_;skip)|(refine Frz.tup ?_;(repeat(first|exact FrzC.keyless rfl|exact FrzL.nil|refine FrzL.cons ?_ ?_|exact FrzC.nilS|refine FrzC.agg ?_))))
theorem e_DetE (k1:CallOK Tryz.prog 81 [mA r c a] [] (iv e) [] []) (h:e≠0):CallOK Tryz.prog 21 [mA r c a] [] (.tup [.frac 0,iv e]) [] []:=by
 have t1:(e != 0)=true:=bne_iff_ne.2 h
 refine callF (Z:=[1]) tabOK mixedOK Tryz.func21 rfl (by kernel_rfl) (by first|rfl|(simp[keylessL,keyless,keylessL_map, *];done)) (by first|rfl|(simp[keylessL,keyless,keylessL_map, *];done)) (by kernel_rfl) rfl ?_
 intro w0 ρ0 hE
 conv=>whnf
 (repeat(first|(refine g_c (by assumption) ?_;conv=>whnf)|(refine tst_tt t1 ?_;conv=>whnf)|(refine g_o (op_loadA rfl (ev_ok rfl) (tgt rfl) rfl (Nat.succ_ne_zero _) rfl) ?_;conv=>whnf)));(first|exact Recast.refl _|exact Frz.recast (Recast.refl _) rfl|(refine Frz.one rfl rfl ?_;skip)|(refine Frz.tup ?_;skip))
end
end Go.Proofs.YtbopchpncgdaaaaGreatDoor
