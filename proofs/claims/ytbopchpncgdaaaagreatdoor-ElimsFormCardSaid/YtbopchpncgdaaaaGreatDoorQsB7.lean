/- The texts Qs. -/
import Derived.Test.YtbopchpncgdaaaaGreatDoorQsB6
namespace Go.Proofs.YtbopchpncgdaaaaGreatDoor
open Go.Sx
set_option linter.unusedSimpArgs false
set_option linter.unusedVariables false
set_option maxRecDepth 100000
set_option maxHeartbeats 40000000
theorem e_may {r c:Nat} {a b:List Rat} (ha:OKM r c a) (hb:b.length=r):CallOK Tryz.prog 78 [mA r c a,fvec b] [] (iv 0) [] []:=by
 have k1:=m_Check0 ha
 have hr:=ha.r
 have t1:decide ((r:Int)>2048)=false:=decide_eq_false (by omega)
 have t2:((r:Int) != (r:Int))=false:=bne_self_eq_false _
 refine callV (Z:=[2]) tabOK mixedOK Tryz.func78 rfl (by kernel_rfl) rfl rfl (by kernel_rfl) rfl ?_
 intro W0 w0 ρ0 hE
 conv=>whnf
 (repeat((first|refine step_w2 rfl rfl ?_|refine g_c (by assumption) ?_|rw[bne_self_eq_false]|refine tst_ff t1 ?_|refine g_o (op_lenM rfl rfl rfl (ev_ok rfl) (tgt rfl) rfl) ?_|refine g_o (op_loadA rfl (ev_ok rfl) (tgt rfl) rfl (Nat.succ_ne_zero _) rfl) ?_|refine g_o (op_fieldA rfl (ev_ok rfl) (tgt rfl) rfl rfl (Nat.succ_ne_zero _) rfl) ?_|rw[hb]);conv=>whnf));(first|exact Recast.refl _|exact Frz.recast (Recast.refl _) rfl|(refine Frz.one rfl rfl ?_;skip)|(refine Frz.tup ?_;skip))
theorem e_Solve1 {b:List Rat} (i k:Nat) (hi:i<b.length):CallOK Tryz.prog 79 ([]++([iv (i:Nat),iv (k:Nat)]++[ptrA [fvec b]])) [] (.frac (b.getD i 0)) [] []:=by
 refine callV (Z:=[]) tabOK mixedOK Tryz.func79 rfl (by kernel_rfl) rfl rfl (by kernel_rfl) rfl ?_
 intro W0 w0 ρ0 hE
 conv=>whnf
 (repeat(first|(refine g_o (op_indexN (α:=Rat) (d:=0) rfl (ev_ok rfl) (ev_ok rfl) (tgt rfl) rfl (tgt rfl) rfl (by omega)) ?_;conv=>whnf)|(refine g_o (op_loadA rfl (ev_ok rfl) (tgt rfl) rfl (Nat.succ_ne_zero _) rfl) ?_;conv=>whnf)));(first|exact Recast.refl _|exact Frz.recast (Recast.refl _) rfl|(refine Frz.one rfl rfl ?_;skip)|(refine Frz.tup ?_;skip))
def xS (M:Nat→List Rat) (sp:List Nat) (c m:Nat):Nat→List Rat
 |0=>List.replicate m 0
 |i+1=>(xS M sp c m i).set (sp.getD i 0) ((M i).getD c 0)
theorem xS_len (M:Nat→List Rat) (sp:List Nat) (c m:Nat):∀i,(xS M sp c m i).length=m
 |0=>by simp[xS]
 |i+1=>by rw[xS,List.length_set,xS_len M sp c m i]
abbrev augB (c:Nat) (a b:List Rat):Mx:=augW a c fun i _=>b.getD i 0
abbrev zSol:Blk:=⟨38,true,.one [.val (.slice none 0 0),.val (.slice none 0 0)]⟩
theorem augB_bd {r c A:Nat} {a b:List Rat} (ha:OKM r c a) (sa:Sm A a) (hb:b.length=r) (sb:Sm A b):∀i q,i<r→q<c+1→fs (augB c a b i q)≤A:=aug_bd ha sa fun i _ hi _=>sb i (by omega)
theorem tail_get {r p i:Nat} {M:Nat→List Rat} (h:p+i<r):(List.take (r - p) (List.drop p ((List.range r).map M))).getD i []=M (p+i):=by
 rw[List.take_of_length_le (by simp),List.getD_eq_getElem?_getD,List.getElem?_drop,List.getElem?_map,List.getElem?_range h];rfl
theorem tail_len {r p:Nat} {M:Nat→List Rat}:(List.take (r - p) (List.drop p ((List.range r).map M))).length=r - p:=by simp
theorem e_SolveNo {r c A:Nat} {a b:List Rat} (ha:OKM r c a) (hb:b.length=r) (hr:r≤6) (hc:c≤40) (sa:Sm A a) (sb:Sm A b) (h2:2≤A) (hA:4096*A≤4398046511104) {s:St} (hs:redS r c (augB c a b)=s)
  {j:Nat} (hj1:s.piv.length≤j) (hj2:j<r) (hj3:s.w j c≠0) (hj4:∀i,s.piv.length≤i→i<j→s.w i c=0):
  CallOK Tryz.prog 18 [mA r c a,fvec b] [] (.tup [.agg [fvec [],mvec 1 fvec []],iv 6]) [] []:=by
 have k1:=e_may ha hb
 have hbd:=augB_bd ha sa hb sb
 have hrl:=rM_len r (rowsM (c+1) s.w)
 have hpl:(s.piv.map ofN).length=s.piv.length:=List.length_map _
 obtain⟨hl1,hl2⟩:=redS_inv r c _ hs
 refine callF (Z:=[2,3,100004,100017]) tabOK mixedOK Tryz.func18 rfl (by kernel_rfl) (by first|rfl|(simp[keylessL,keyless,keylessL_map, *];done)) (by first|rfl|(simp[keylessL,keyless,keylessL_map, *];done)) (by kernel_rfl) rfl ?_
 intro w0 ρ0 hE
 conv=>whnf
 (repeat((first|refine step_w2 rfl rfl ?_|refine g_c (by assumption) ?_|rw[bne_self_eq_false]|refine g_o (op_loadA rfl (ev_ok rfl) (tgt rfl) rfl (Nat.succ_ne_zero _) rfl) ?_);conv=>whnf))
 refine SWx_then (fr1:=[(7,wkA r c (c+1) (rowsM (c+1) s.w) (s.piv.map ofN) s.d),(2,ptrA (mC r c a)),(3,ptrA [fvec b]),(4,.ptr 4 0 0 0),(5,iv 0)]) (hp1:=[(4,zSol)]) (fun K hK=> ?_) ?_
 case refine_2=>
  clear hbd hs
  conv=>whnf
  (repeat((first|refine step_i (by kernel_rfl) ?_|refine g_o (op_lenM rfl rfl rfl (ev_ok rfl) (tgt rfl) rfl) ?_|refine g_o (op_loadA rfl (ev_ok rfl) (tgt rfl) rfl (Nat.succ_ne_zero _) rfl) ?_|refine g_o (op_fieldA rfl (ev_ok rfl) (tgt rfl) rfl rfl (Nat.succ_ne_zero _) rfl) ?_|refine g_o (op_sliceM rfl (ev_ok rfl) (bound_spec rfl) (bound_spec rfl) (.inl rfl) (tgt rfl) rfl (tgt rfl) rfl (by omega)) ?_|refine g_o (op_nilCheckA rfl (ev_ok rfl)) ?_|rw[hrl]|rw[hpl]|rw[Int.toNat_natCast]);conv=>whnf))
  generalize hTL:List.take (r - s.piv.length) (List.drop s.piv.length ((List.range r).map (rowsM (c+1) s.w)))=TL
  have hTl:TL.length=r - s.piv.length:=by rw[←hTL];exact tail_len
  have hTg:∀i,s.piv.length+i<r→TL.getD i []=rowsM (c+1) s.w (s.piv.length+i):=fun i hi=>by rw[←hTL];exact tail_get hi
  refine SW_loopN hE (fun k=>k) [2,4,7,33,34,35] [4] (fun m fr hp=>∃i:Nat,m=r - i∧s.piv.length+i≤j∧fr=[(2,ptrA (mC r c a)),(4,.ptr 4 0 0 0),(7,wkA r c (c+1) (rowsM (c+1) s.w) (s.piv.map ofN) s.d),(33,mvec 1 fvec TL),(34,iv (r - s.piv.length:Nat)),(35,iv i)]∧hp=[(4,zSol)]) r ?_ ?_ ?_
  ·kernel_rfl
  ·exact⟨0,rfl,hj1,by rw[←hTl];rfl,rfl⟩
  rintro m _ _ ⟨i,rfl,hi,rfl,rfl⟩
  conv=>whnf
  have t1:=dlt (show i<r - s.piv.length by omega)
  have t2:=winc (i:=i) (by omega)
  have g1:=hTg i (by omega)
  have g2:(rowsM (c+1) s.w (s.piv.length+i)).length=c+1:=rwL_len _ _
  have g3:(rowsM (c+1) s.w (s.piv.length+i)).getD c 0=s.w (s.piv.length+i) c:=rwL_get (Nat.lt_succ_self c)
  have k2:=c_fSign (s.w (s.piv.length+i) c)
  by_cases e:s.piv.length+i=j
  ·have t3:((s.w (s.piv.length+i) c).num.sign != 0)=true:=by rw[e];exact bne_iff_ne.2 fun g=>hj3 (Rat.num_eq_zero.1 (Int.sign_eq_zero_iff_zero.1 g))
   (repeat((first|refine g_c (by assumption) ?_|refine tst_tt t1 ?_|refine tst_tt t3 ?_|refine g_o (op_indexN (α:=Rat) (d:=0) rfl (ev_ok rfl) (ev_ok rfl) (tgt rfl) rfl (tgt rfl) rfl (by omega)) ?_|refine g_o (op_loadA rfl (ev_ok rfl) (tgt rfl) rfl (Nat.succ_ne_zero _) rfl) ?_|refine g_o (op_indexN (α:=List Rat) (d:=[]) rfl (ev_ok rfl) (ev_ok rfl) (tgt rfl) rfl (tgt rfl) rfl (by omega)) ?_|refine g_o (op_fieldA rfl (ev_ok rfl) (tgt rfl) rfl rfl (Nat.succ_ne_zero _) rfl) ?_|rw[t1]|rw[g1]|rw[g3]);conv=>whnf));(first|exact Recast.refl _|exact Frz.recast (Recast.refl _) rfl|(refine Frz.one rfl rfl ?_;skip)|(refine Frz.tup ?_;(repeat(first|exact FrzC.keyless rfl|exact FrzL.nil|refine FrzL.cons ?_ ?_|exact FrzC.nilS|refine FrzC.agg ?_))))
  ·have t3:((s.w (s.piv.length+i) c).num.sign != 0)=false:=by rw[hj4 _ (by omega) (by omega)];rfl
   (repeat((first|refine g_c (by assumption) ?_|refine tst_tt t1 ?_|refine tst_ff t3 ?_|refine g_o (op_indexN (α:=Rat) (d:=0) rfl (ev_ok rfl) (ev_ok rfl) (tgt rfl) rfl (tgt rfl) rfl (by omega)) ?_|refine g_o (op_loadA rfl (ev_ok rfl) (tgt rfl) rfl (Nat.succ_ne_zero _) rfl) ?_|refine g_o (op_indexN (α:=List Rat) (d:=[]) rfl (ev_ok rfl) (ev_ok rfl) (tgt rfl) rfl (tgt rfl) rfl (by omega)) ?_|refine g_o (op_fieldA rfl (ev_ok rfl) (tgt rfl) rfl rfl (Nat.succ_ne_zero _) rfl) ?_|rw[t1]|rw[t2]|rw[g1]|rw[g3]|rw[t3]);conv=>whnf))
   exact⟨r - (i+1),fun k=>k,[2,4,7,33,34,35],[4],by omega,by kernel_rfl,i+1,rfl,by omega,rfl,rfl⟩
 rcases(show r=0∨1≤r by omega)with e0|e0
 ·subst e0
  obtain⟨hp0,hd0⟩:=redS_zero hs
  have kz:=e_begunZ1 (c:=c) 1 a 79 (ptrP [fvec b]) ha
  have k3:=e_reduceZ c (by omega)
  rw[hp0,hd0]at hK
  refine SWx_cut hE 100 ?_
  conv=>whnf
  (repeat((first|refine g_cn (by assumption) rfl ?_|refine g_o (op_loadA rfl (ev_ok rfl) (tgt rfl) rfl (Nat.succ_ne_zero _) rfl) ?_|refine g_o (op_makeFunc rfl rfl rfl) ?_|refine g_cv k3 (by repeat(first|exact WkH.nil|refine WkH.cons rfl ?_ ?_|exact WkBlk.same (fun h=>h)|exact WkBlk.same ff_imp|exact WkBlk.same (fun _=>rfl)|refine WkBlk.one (fun h=>h) ?_|refine WkBlk.one ff_imp ?_|exact WL.refl|refine WL.eq ?_|refine WL.any rfl ?_|exact WkBlk.dead)) nil_upd ?_);conv=>whnf))
  exact⟨_,_,freezeZ 7 [2,3,4,5] [4] (fun _ h=>h) rfl rfl (by kernel_rfl) (by kernel_rfl) (by kernel_rfl) rfl hE,hK⟩
 ·have k2:=e_begun1 (r:=r) 1 a (fun i _=>b.getD i 0) 79 (ptrP [fvec b]) hr e0 ha hc (by omega) (fun i k hi _=>e_Solve1 i k (by rw[hb];exact hi))
  have k3:=e_reduceW (r:=r) c (c+1) A (augB c a b) s hr e0 (Nat.le_add_right _ _) (by omega) hbd h2 hA hs
  have hpl:(s.piv.map ofN).length=s.piv.length:=List.length_map _
  rcases(show r=1∨r=2∨r=3∨r=4∨r=5∨r=6 by omega)with e1|e1|e1|e1|e1|e1
  all_goals
   rw[e1]at k2 k3 hK
   rw[e1]
   refine SWx_cut hE 100 ?_
   conv=>whnf
   (repeat((first|refine g_o (op_loadA rfl (ev_ok rfl) (tgt rfl) rfl (Nat.succ_ne_zero _) rfl) ?_|refine g_o (op_makeFunc rfl rfl rfl) ?_|refine⟨[],_,_,[],k2,nil_fk,(by repeat(first|exact nil_new|refine new_cons rfl ?_)),nil_upd, ?_⟩|refine⟨hpH _ _ _ _,_,_,_,k3,(by repeat(first|exact get_nil|refine get_cons rfl ?_)),(by repeat(first|exact nil_new|refine new_cons rfl ?_)),updB_spec rfl rfl, ?_⟩|rw[Nat.zero_add]);conv=>whnf))
   exact⟨_,_,freezeW (M:=rowsM _ s.w) 7 [2,3,4,5] [4] (fun _ h=>h) rfl rfl rfl rfl (by intro j hj;rcases(show j=0∨j=1∨j=2∨j=3∨j=4∨j=5 by omega)with e|e|e|e|e|e<;>first|omega|(subst e;exact⟨rfl,(rwL_len _ _).symm⟩)) hpl.symm (by kernel_rfl) (by kernel_rfl) (by kernel_rfl) rfl (by decide) hE,hK⟩
theorem e_SolveOK {r c A:Nat} {a b:List Rat} (ha:OKM r c a) (hb:b.length=r) (hr:r≤6) (hc:c≤40) (sa:Sm A a) (sb:Sm A b) (h2:2≤A) (hA:4096*A≤4398046511104) {s:St} (hs:redS r c (augB c a b)=s)
  (hz:∀i,s.piv.length≤i→i<r→s.w i c=0):
  CallOK Tryz.prog 18 [mA r c a,fvec b] [] (.tup [.agg [fvec (xS (rowsM (c+1) s.w) s.piv c c s.piv.length),mvec 1 fvec ((freeF s.piv c).map (kvL (rowsM (c+1) s.w) s.piv c))],iv 0]) [] []:=by
 have k1:=e_may ha hb
 have hbd:=augB_bd ha sa hb sb
 have hrl:=rM_len r (rowsM (c+1) s.w)
 have hpl:(s.piv.map ofN).length=s.piv.length:=List.length_map _
 obtain⟨hl1,hl2⟩:=redS_inv r c _ hs
 refine callF (Z:=[2,3,100004,100017]) tabOK mixedOK Tryz.func18 rfl (by kernel_rfl) (by first|rfl|(simp[keylessL,keyless,keylessL_map, *];done)) (by first|rfl|(simp[keylessL,keyless,keylessL_map, *];done)) (by kernel_rfl) rfl ?_
 intro w0 ρ0 hE
 conv=>whnf
 (repeat((first|refine step_w2 rfl rfl ?_|refine g_c (by assumption) ?_|rw[bne_self_eq_false]|refine g_o (op_loadA rfl (ev_ok rfl) (tgt rfl) rfl (Nat.succ_ne_zero _) rfl) ?_);conv=>whnf))
 refine SWx_then (fr1:=[(7,wkA r c (c+1) (rowsM (c+1) s.w) (s.piv.map ofN) s.d),(2,ptrA (mC r c a)),(3,ptrA [fvec b]),(4,.ptr 4 0 0 0),(5,iv 0)]) (hp1:=[(4,zSol)]) (fun K hK=> ?_) ?_
 case refine_2=>
  have k4:=e_kernel (r:=r) (m:=c) (c:=c+1) (M:=rowsM (c+1) s.w) (sp:=s.piv) (d:=s.d) (fun i _=>rwL_len _ _) (by omega) (by omega) (by omega) hl1 hl2
  clear hbd hs
  conv=>whnf
  (repeat((first|refine step_i (by kernel_rfl) ?_|refine g_o (op_lenM rfl rfl rfl (ev_ok rfl) (tgt rfl) rfl) ?_|refine g_o (op_loadA rfl (ev_ok rfl) (tgt rfl) rfl (Nat.succ_ne_zero _) rfl) ?_|refine g_o (op_fieldA rfl (ev_ok rfl) (tgt rfl) rfl rfl (Nat.succ_ne_zero _) rfl) ?_|refine g_o (op_sliceM rfl (ev_ok rfl) (bound_spec rfl) (bound_spec rfl) (.inl rfl) (tgt rfl) rfl (tgt rfl) rfl (by omega)) ?_|refine g_o (op_nilCheckA rfl (ev_ok rfl)) ?_|rw[hrl]|rw[hpl]|rw[Int.toNat_natCast]);conv=>whnf))
  generalize hTL:List.take (r - s.piv.length) (List.drop s.piv.length ((List.range r).map (rowsM (c+1) s.w)))=TL
  have hTl:TL.length=r - s.piv.length:=by rw[←hTL];exact tail_len
  have hTg:∀i,s.piv.length+i<r→TL.getD i []=rowsM (c+1) s.w (s.piv.length+i):=fun i hi=>by rw[←hTL];exact tail_get hi
  refine SW_loopN hE (fun k=>k) [2,4,7,33,34,35] [4] (fun m fr hp=>∃i:Nat,m=r - i∧s.piv.length+i≤r∧fr=[(2,ptrA (mC r c a)),(4,.ptr 4 0 0 0),(7,wkA r c (c+1) (rowsM (c+1) s.w) (s.piv.map ofN) s.d),(33,mvec 1 fvec TL),(34,iv (r - s.piv.length:Nat)),(35,iv i)]∧hp=[(4,zSol)]) r ?_ ?_ ?_
  ·kernel_rfl
  ·exact⟨0,rfl,by omega,by rw[←hTl];rfl,rfl⟩
  rintro m _ _ ⟨i,rfl,hi,rfl,rfl⟩
  conv=>whnf
  by_cases hlt:i<r - s.piv.length
  ·have t1:=dlt hlt
   have t2:=winc (i:=i) (by omega)
   have g1:=hTg i (by omega)
   have g2:(rowsM (c+1) s.w (s.piv.length+i)).length=c+1:=rwL_len _ _
   have g3:(rowsM (c+1) s.w (s.piv.length+i)).getD c 0=s.w (s.piv.length+i) c:=rwL_get (Nat.lt_succ_self c)
   have k2:=c_fSign (s.w (s.piv.length+i) c)
   have t3:((s.w (s.piv.length+i) c).num.sign != 0)=false:=by rw[hz _ (by omega) (by omega)];rfl
   (repeat((first|refine g_c (by assumption) ?_|refine tst_tt t1 ?_|refine tst_ff t3 ?_|refine g_o (op_indexN (α:=Rat) (d:=0) rfl (ev_ok rfl) (ev_ok rfl) (tgt rfl) rfl (tgt rfl) rfl (by omega)) ?_|refine g_o (op_loadA rfl (ev_ok rfl) (tgt rfl) rfl (Nat.succ_ne_zero _) rfl) ?_|refine g_o (op_indexN (α:=List Rat) (d:=[]) rfl (ev_ok rfl) (ev_ok rfl) (tgt rfl) rfl (tgt rfl) rfl (by omega)) ?_|refine g_o (op_fieldA rfl (ev_ok rfl) (tgt rfl) rfl rfl (Nat.succ_ne_zero _) rfl) ?_|rw[t1]|rw[t2]|rw[g1]|rw[g3]|rw[t3]);conv=>whnf))
   exact⟨r - (i+1),fun k=>k,[2,4,7,33,34,35],[4],by omega,by kernel_rfl,i+1,rfl,by omega,rfl,rfl⟩
  ·have t1:=dge hlt
   (repeat((first|refine step_oA (by first|omega|decide|(simp only[tl0,dlen,List.length_replicate,List.length_set,List.length_map,List.length_zipWith,List.length_take,List.length_append,List.length_cons,List.length_nil];omega)) ?_|refine tst_ff t1 ?_|refine g_o (op_lenM rfl rfl rfl (ev_ok rfl) (tgt rfl) rfl) ?_|refine g_o (op_loadA rfl (ev_ok rfl) (tgt rfl) rfl (Nat.succ_ne_zero _) rfl) ?_|refine g_o (op_fieldA rfl (ev_ok rfl) (tgt rfl) rfl rfl (Nat.succ_ne_zero _) rfl) ?_|refine g_o (op_nilCheckA rfl (ev_ok rfl)) ?_|rw[t1]|rw[hpl]|rw[Int.toNat_natCast]);conv=>whnf))
   generalize hM:rowsM (c+1) s.w=M at*
   refine SW_loopN hE (fun k=>k) [2,4,7,10,54,55,56] [4,50] (fun m fr hp=>∃i:Nat,m=s.piv.length - i∧i≤s.piv.length∧fr=[(2,ptrA (mC r c a)),(4,.ptr 4 0 0 0),(7,wkA r c (c+1) M (s.piv.map ofN) s.d),(10,.slc 50 5 0 c),(54,ivec .i64 (s.piv.map ofN)),(55,iv s.piv.length),(56,iv i)]∧hp=[(4,zSol),(50,fblk (xS M s.piv c c i))]) s.piv.length ?_ ?_ ?_
   ·kernel_rfl
   ·exact⟨0,rfl,Nat.zero_le _,rfl,rfl⟩
   rintro m _ _ ⟨j,rfl,hj,rfl,rfl⟩
   conv=>whnf
   by_cases hjt:j<s.piv.length
   ·have t4:=dlt hjt
    have t5:=winc (i:=j) (by omega)
    have g1:(s.piv.map ofN).getD j 0=((s.piv.getD j 0:Nat):Int):=by simp[List.getD_eq_getElem?_getD,hjt]
    have g2:=rM_get (M:=M) (show j<r by omega)
    have g3:(M j).length=c+1:=by rw[←hM];exact rwL_len _ _
    have g4:=hl2 j hjt
    have g5:=xS_len M s.piv c c j
    clear k4 k1
    (repeat((first|refine step_i (by kernel_rfl) ?_|refine step_oL (by first|omega|decide|(simp only[tl0,dlen,List.length_replicate,List.length_set,List.length_map,List.length_zipWith,List.length_take,List.length_append,List.length_cons,List.length_nil];omega)) ?_|refine step_oA (by first|omega|decide|(simp only[tl0,dlen,List.length_replicate,List.length_set,List.length_map,List.length_zipWith,List.length_take,List.length_append,List.length_cons,List.length_nil];omega)) ?_|refine tst_tt t4 ?_|refine g_o (op_indexN (α:=Rat) (d:=0) rfl (ev_ok rfl) (ev_ok rfl) (tgt rfl) rfl (tgt rfl) rfl (by omega)) ?_|refine g_o (op_loadA rfl (ev_ok rfl) (tgt rfl) rfl (Nat.succ_ne_zero _) rfl) ?_|refine g_o (op_indexN (α:=Int) (d:=0) rfl (ev_ok rfl) (ev_ok rfl) (tgt rfl) rfl (tgt rfl) rfl (by omega)) ?_|refine g_o (op_indexN (α:=List Rat) (d:=[]) rfl (ev_ok rfl) (ev_ok rfl) (tgt rfl) rfl (tgt rfl) rfl (by omega)) ?_|refine g_o (op_fieldA rfl (ev_ok rfl) (tgt rfl) rfl rfl (Nat.succ_ne_zero _) rfl) ?_|refine g_o (op_nilCheckA rfl (ev_ok rfl)) ?_|rw[t4]|rw[t5]|rw[g1]|rw[g2]|rw[Int.toNat_natCast]|rw[Nat.zero_add]);conv=>whnf))
    exact⟨s.piv.length - (j+1),fun k=>k,[2,4,7,10,54,55,56],[4,50],by omega,by kernel_rfl,j+1,rfl,hjt,rfl,rfl⟩
   ·have t4:=dge hjt
    obtain rfl:j=s.piv.length:=by omega
    (repeat(first|(refine tst_ff t4 ?_;conv=>whnf)|(rw[t4];conv=>whnf)))
    refine SWx_freezeF 10 50 (fun _ h=>h) rfl rfl (xS_len M s.piv c c _).symm ?_
    refine SWx_go hE ?_
    conv=>whnf
    (repeat(first|(refine g_c (by assumption) ?_;conv=>whnf)));(first|exact Recast.refl _|exact Frz.recast (Recast.refl _) rfl|(refine Frz.one rfl rfl ?_;skip)|(refine Frz.tup ?_;skip))
 rcases(show r=0∨1≤r by omega)with e0|e0
 ·subst e0
  obtain⟨hp0,hd0⟩:=redS_zero hs
  have kz:=e_begunZ1 (c:=c) 1 a 79 (ptrP [fvec b]) ha
  have k3:=e_reduceZ c (by omega)
  rw[hp0,hd0]at hK
  refine SWx_cut hE 100 ?_
  conv=>whnf
  (repeat((first|refine g_cn (by assumption) rfl ?_|refine g_o (op_loadA rfl (ev_ok rfl) (tgt rfl) rfl (Nat.succ_ne_zero _) rfl) ?_|refine g_o (op_makeFunc rfl rfl rfl) ?_|refine g_cv k3 (by repeat(first|exact WkH.nil|refine WkH.cons rfl ?_ ?_|exact WkBlk.same (fun h=>h)|exact WkBlk.same ff_imp|exact WkBlk.same (fun _=>rfl)|refine WkBlk.one (fun h=>h) ?_|refine WkBlk.one ff_imp ?_|exact WL.refl|refine WL.eq ?_|refine WL.any rfl ?_|exact WkBlk.dead)) nil_upd ?_);conv=>whnf))
  exact⟨_,_,freezeZ 7 [2,3,4,5] [4] (fun _ h=>h) rfl rfl (by kernel_rfl) (by kernel_rfl) (by kernel_rfl) rfl hE,hK⟩
 ·have k2:=e_begun1 (r:=r) 1 a (fun i _=>b.getD i 0) 79 (ptrP [fvec b]) hr e0 ha hc (by omega) (fun i k hi _=>e_Solve1 i k (by rw[hb];exact hi))
  have k3:=e_reduceW (r:=r) c (c+1) A (augB c a b) s hr e0 (Nat.le_add_right _ _) (by omega) hbd h2 hA hs
  have hpl:(s.piv.map ofN).length=s.piv.length:=List.length_map _
  rcases(show r=1∨r=2∨r=3∨r=4∨r=5∨r=6 by omega)with e1|e1|e1|e1|e1|e1
  all_goals
   rw[e1]at k2 k3 hK
   rw[e1]
   refine SWx_cut hE 100 ?_
   conv=>whnf
   (repeat((first|refine g_o (op_loadA rfl (ev_ok rfl) (tgt rfl) rfl (Nat.succ_ne_zero _) rfl) ?_|refine g_o (op_makeFunc rfl rfl rfl) ?_|refine⟨[],_,_,[],k2,nil_fk,(by repeat(first|exact nil_new|refine new_cons rfl ?_)),nil_upd, ?_⟩|refine⟨hpH _ _ _ _,_,_,_,k3,(by repeat(first|exact get_nil|refine get_cons rfl ?_)),(by repeat(first|exact nil_new|refine new_cons rfl ?_)),updB_spec rfl rfl, ?_⟩|rw[Nat.zero_add]);conv=>whnf))
   exact⟨_,_,freezeW (M:=rowsM _ s.w) 7 [2,3,4,5] [4] (fun _ h=>h) rfl rfl rfl rfl (by intro j hj;rcases(show j=0∨j=1∨j=2∨j=3∨j=4∨j=5 by omega)with e|e|e|e|e|e<;>first|omega|(subst e;exact⟨rfl,(rwL_len _ _).symm⟩)) hpl.symm (by kernel_rfl) (by kernel_rfl) (by kernel_rfl) rfl (by decide) hE,hK⟩
end Go.Proofs.YtbopchpncgdaaaaGreatDoor
