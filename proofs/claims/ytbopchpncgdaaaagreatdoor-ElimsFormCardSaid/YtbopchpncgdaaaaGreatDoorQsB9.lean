/- The texts Qv. -/
import Derived.Test.YtbopchpncgdaaaaGreatDoorQsB8
namespace Go.Proofs.YtbopchpncgdaaaaGreatDoor
open Go.Sx
set_option linter.unusedSimpArgs false
set_option linter.unusedVariables false
set_option maxRecDepth 100000
set_option maxHeartbeats 40000000
def agB (b:List Rat):Mx:=fun i k=>if k=0 then b.getD i 0 else if k=i+1 then 1 else 0
theorem e_Against1 {b:List Rat} (i k:Nat) (hi:i<b.length) (hi2:i≤2048):CallOK Tryz.prog 80 ([]++([iv (i:Nat),iv (k:Nat)]++[ptrA [fvec b]])) [] (.frac (agB b i k)) [] []:=by
 have k1:CallOK Tryz.prog 41 [iv 1] [] (.frac 1) [] []:=c_fInt 1 (by decide) (by decide)
 have t1:=winc (i:=i) (by omega)
 unfold agB
 by_cases h:k=0
 ·subst h
  rw[if_pos rfl]
  refine callV (Z:=[]) tabOK mixedOK Tryz.func80 rfl (by kernel_rfl) rfl rfl (by kernel_rfl) rfl ?_
  intro W0 w0 ρ0 hE
  conv=>whnf
  (repeat(first|(refine step_w1 rfl rfl ?_;conv=>whnf)|(refine g_o (op_indexN (α:=Rat) (d:=0) rfl (ev_ok rfl) (ev_ok rfl) (tgt rfl) rfl (tgt rfl) rfl (by omega)) ?_;conv=>whnf)|(refine g_o (op_loadA rfl (ev_ok rfl) (tgt rfl) rfl (Nat.succ_ne_zero _) rfl) ?_;conv=>whnf)));(first|exact Recast.refl _|exact Frz.recast (Recast.refl _) rfl|(refine Frz.one rfl rfl ?_;skip)|(refine Frz.tup ?_;skip))
 ·have t2:((k:Int)==0)=false:=beq_eq_false_iff_ne.2 (by omega)
  rw[if_neg h]
  by_cases g:k=i+1
  ·subst g
   have t3:(((i+1:Nat):Int)==((i+1:Nat):Int))=true:=beq_self_eq_true _
   rw[if_pos rfl]
   refine callV (Z:=[]) tabOK mixedOK Tryz.func80 rfl (by kernel_rfl) rfl rfl (by kernel_rfl) rfl ?_
   intro W0 w0 ρ0 hE
   conv=>whnf
   (repeat((first|refine step_w1 rfl rfl ?_|refine step_w2 rfl rfl ?_|refine g_c (by assumption) ?_|rw[beq_self_eq_true]|rw[t1]);conv=>whnf));(first|exact Recast.refl _|exact Frz.recast (Recast.refl _) rfl|(refine Frz.one rfl rfl ?_;skip)|(refine Frz.tup ?_;skip))
  ·have t3:((k:Int)==((i+1:Nat):Int))=false:=beq_eq_false_iff_ne.2 (by omega)
   rw[if_neg g]
   refine callV (Z:=[]) tabOK mixedOK Tryz.func80 rfl (by kernel_rfl) rfl rfl (by kernel_rfl) rfl ?_
   intro W0 w0 ρ0 hE
   conv=>whnf
   (repeat(first|(refine tst_ff t2 ?_;conv=>whnf)|(refine tst_ff t3 ?_;conv=>whnf)|(rw[t1];conv=>whnf)));(first|exact Recast.refl _|exact Frz.recast (Recast.refl _) rfl|(refine Frz.one rfl rfl ?_;skip)|(refine Frz.tup ?_;skip))
abbrev augC (c:Nat) (a b:List Rat):Mx:=augW a c (agB b)
theorem augC_bd {r c A:Nat} {a b:List Rat} (ha:OKM r c a) (sa:Sm A a) (hb:b.length=r) (sb:Sm A b) (h2:2≤A):∀i q,i<r→q<c+(1+r)→fs (augC c a b i q)≤A:=aug_bd ha sa fun i k hi hk=>by
 unfold agB
 split
 ·exact sb i (by omega)
 ·split
  ·rw[fs_one];exact h2
  ·rw[fs_zero];exact h2
theorem e_AgainstOK {r c A:Nat} {a b:List Rat} (ha:OKM r c a) (hb:b.length=r) (hr:r≤6) (hc:c≤40) (sa:Sm A a) (sb:Sm A b) (h2:2≤A) (hA2:8192*A≤4398046511104) {s:St} (hs:redS r c (augC c a b)=s)
  {j:Nat} (hj1:s.piv.length≤j) (hj2:j<r) (hj3:s.w j c≠0) (hj4:∀i,s.piv.length≤i→i<j→s.w i c=0):
  CallOK Tryz.prog 19 [mA r c a,fvec b] [] (.tup [fvec ((List.range r).map fun k=>s.w j (c+1+k)/s.w j c),iv 0]) [] []:=by
 have hsz:∀q,q<c+(1+r)→fs (s.w j q)≤4096*A:=fun q hq=>by
  have:=(redS_siz (r:=r) (m:=c) (augC_bd ha sa hb sb h2) h2 hr (Nat.le_add_right _ _)).1 j q hj2 hq
  rwa [hs]at this
 have hA:4096*A≤4398046511104:=by omega
 have k1:=e_may ha hb
 have hbd:=augC_bd ha sa hb sb h2
 have hrl:=rM_len r (rowsM (c+(1+r)) s.w)
 have hpl:(s.piv.map ofN).length=s.piv.length:=List.length_map _
 have t0:IntKind.i64.wrap (1+(r:Int))=((1+r:Nat):Int):=by rw[wrap_i64 (by omega) (by omega)];omega
 obtain⟨hl1,hl2⟩:=redS_inv r c _ hs
 refine callF (Z:=[2,3,100004,100016]) tabOK mixedOK Tryz.func19 rfl (by kernel_rfl) (by first|rfl|(simp[keylessL,keyless,keylessL_map, *];done)) (by first|rfl|(simp[keylessL,keyless,keylessL_map, *];done)) (by kernel_rfl) rfl ?_
 intro w0 ρ0 hE
 conv=>whnf
 (repeat((first|refine step_w2 rfl rfl ?_|refine g_c (by assumption) ?_|rw[bne_self_eq_false]|refine g_o (op_loadA rfl (ev_ok rfl) (tgt rfl) rfl (Nat.succ_ne_zero _) rfl) ?_);conv=>whnf))
 refine SWx_then (fr1:=[(7,wkA r c (c+(1+r)) (rowsM (c+(1+r)) s.w) (s.piv.map ofN) s.d),(2,ptrA (mC r c a)),(3,ptrA [fvec b]),(4,.val (.slice none 0 0)),(5,iv 0)]) (hp1:=[]) (fun K hK=> ?_) ?_
 case refine_2=>
  clear hbd hs
  conv=>whnf
  (repeat((first|refine step_i (by kernel_rfl) ?_|refine g_o (op_lenM rfl rfl rfl (ev_ok rfl) (tgt rfl) rfl) ?_|refine g_o (op_loadA rfl (ev_ok rfl) (tgt rfl) rfl (Nat.succ_ne_zero _) rfl) ?_|refine g_o (op_fieldA rfl (ev_ok rfl) (tgt rfl) rfl rfl (Nat.succ_ne_zero _) rfl) ?_|refine g_o (op_sliceM rfl (ev_ok rfl) (bound_spec rfl) (bound_spec rfl) (.inl rfl) (tgt rfl) rfl (tgt rfl) rfl (by omega)) ?_|refine g_o (op_nilCheckA rfl (ev_ok rfl)) ?_|rw[hrl]|rw[hpl]|rw[Int.toNat_natCast]);conv=>whnf))
  generalize hTL:List.take (r - s.piv.length) (List.drop s.piv.length ((List.range r).map (rowsM (c+(1+r)) s.w)))=TL
  have hTl:TL.length=r - s.piv.length:=by rw[←hTL];exact tail_len
  have hTg:∀i,s.piv.length+i<r→TL.getD i []=rowsM (c+(1+r)) s.w (s.piv.length+i):=fun i hi=>by rw[←hTL];exact tail_get hi
  refine SW_loopN hE (fun k=>k) [2,35,36,37] [] (fun m fr hp=>∃i:Nat,m=r - i∧s.piv.length+i≤j∧fr=[(2,ptrA (mC r c a)),(35,mvec 1 fvec TL),(36,iv (r - s.piv.length:Nat)),(37,iv i)]∧hp=[]) r ?_ ?_ ?_
  ·kernel_rfl
  ·exact⟨0,rfl,by omega,by rw[←hTl];rfl,rfl⟩
  rintro m _ _ ⟨i,rfl,hi,rfl,rfl⟩
  conv=>whnf
  have t1:=dlt (show i<r - s.piv.length by omega)
  have t2:=winc (i:=i) (by omega)
  have g1:=hTg i (by omega)
  have g2:(rowsM (c+(1+r)) s.w (s.piv.length+i)).length=c+(1+r):=rwL_len _ _
  have g3:(rowsM (c+(1+r)) s.w (s.piv.length+i)).getD c 0=s.w (s.piv.length+i) c:=rwL_get (by omega)
  have k2:=c_fSign (s.w (s.piv.length+i) c)
  by_cases e:s.piv.length+i=j
  ·rw[e]at g1 g2 g3 k2
   have t3:((s.w j c).num.sign==0)=false:=beq_eq_false_iff_ne.2 fun g=>hj3 (Rat.num_eq_zero.1 (Int.sign_eq_zero_iff_zero.1 g))
   have hR:∀k,k<r→(rowsM (c+(1+r)) s.w j).getD (c+1+k) 0=s.w j (c+1+k):=fun k hk=>rwL_get (by omega)
   have hz:((List.range r).map fun k=>s.w j (c+1+k)/s.w j c).length=r:=by simp
   have hY:∀k,k<r→((List.range r).map fun k=>s.w j (c+1+k)/s.w j c).getD k 0=s.w j (c+1+k)/s.w j c:=fun k hk=>by simp[List.getD_eq_getElem?_getD,hk]
   have hsc:=hsz c (by omega)
   (repeat((first|refine step_oA (by first|omega|decide|(simp only[tl0,dlen,List.length_replicate,List.length_set,List.length_map,List.length_zipWith,List.length_take,List.length_append,List.length_cons,List.length_nil];omega)) ?_|refine g_c (by assumption) ?_|refine tst_tt t1 ?_|refine tst_ff t3 ?_|refine g_o (op_indexN (α:=Rat) (d:=0) rfl (ev_ok rfl) (ev_ok rfl) (tgt rfl) rfl (tgt rfl) rfl (by omega)) ?_|refine g_o (op_loadA rfl (ev_ok rfl) (tgt rfl) rfl (Nat.succ_ne_zero _) rfl) ?_|refine g_o (op_indexN (α:=List Rat) (d:=[]) rfl (ev_ok rfl) (ev_ok rfl) (tgt rfl) rfl (tgt rfl) rfl (by omega)) ?_|refine g_o (op_fieldA rfl (ev_ok rfl) (tgt rfl) rfl rfl (Nat.succ_ne_zero _) rfl) ?_|rw[t1]|rw[g1]|rw[g3]|rw[t3]|rw[Int.toNat_natCast]);conv=>whnf))
   generalize ((List.range r).map fun k=>s.w j (c+1+k)/s.w j c)=Y at*
   generalize rowsM (c+(1+r)) s.w j=R at*
   refine SW_loopN hE (fun k=>k) [2,9,10,11,53,54] [10,51] (fun m fr hp=>∃i:Nat,m=r - i∧i≤r∧fr=[(2,ptrA (mC r c a)),(9,fvec R),(10,.ptr 10 0 0 0),(11,.slc 51 5 0 r),(53,iv r),(54,iv i)]∧hp=[(10,⟨53,true,.one [.frac (s.w j c)]⟩),(51,fblk (Y.take i++List.replicate (r - i) 0))]) r ?_ ?_ ?_
   ·kernel_rfl
   ·exact⟨0,rfl,Nat.zero_le _,rfl,rfl⟩
   rintro m _ _ ⟨k,rfl,hk,rfl,rfl⟩
   conv=>whnf
   have hyl:=fill_len (d:=(0:Rat)) hk hz
   by_cases hkr:k<r
   ·have t4:=dlt hkr
    have t5:=winc (i:=k) (by omega)
    have w1:=winc (i:=c) (by omega)
    have w2:IntKind.i64.wrap (((c+1:Nat):Int)+(k:Int))=((c+1+k:Nat):Int):=by rw[wrap_i64 (by omega) (by omega)];omega
    have hR2:=hR k hkr
    have hsq:=hsz (c+1+k) (by omega)
    have k3:=x_Div (R.getD (c+1+k) 0) (s.w j c) hj3 (by rw[hR2];omega)
    have hq:R.getD (c+1+k) 0/s.w j c=Y.getD k 0:=by rw[hY k hkr,hR2]
    rw[hq]at k3
    have hRl:c+1+k<R.length:=by omega
    clear hR hY hTg
    (repeat((first|refine step_i (by kernel_rfl) ?_|refine step_oL (by first|omega|decide|(simp only[tl0,dlen,List.length_replicate,List.length_set,List.length_map,List.length_zipWith,List.length_take,List.length_append,List.length_cons,List.length_nil];omega)) ?_|refine step_oA (by first|omega|decide|(simp only[tl0,dlen,List.length_replicate,List.length_set,List.length_map,List.length_zipWith,List.length_take,List.length_append,List.length_cons,List.length_nil];omega)) ?_|refine g_c (by assumption) ?_|refine tst_tt t4 ?_|refine g_o (op_loadA rfl (ev_ok rfl) (tgt rfl) rfl (Nat.succ_ne_zero _) rfl) ?_|refine g_o (op_indexM (α:=Rat) (d:=0) rfl (ev_ok rfl) (ev_ok rfl) (tgt rfl) rfl (tgt rfl) rfl (by omega)) ?_|refine g_o (op_fieldA rfl (ev_ok rfl) (tgt rfl) rfl rfl (Nat.succ_ne_zero _) rfl) ?_|rw[t4]|rw[t5]|rw[w1]|rw[w2]|rw[Int.toNat_natCast]|rw[Nat.zero_add]);conv=>whnf))
    exact⟨r - (k+1),fun k=>k,[2,9,10,11,53,54],[10,51],by omega,by kernel_rfl,k+1,rfl,hkr,rfl,by rw[fblk,←fill_set (e:=0) hkr hz];rfl⟩
   ·have t4:=dge hkr
    obtain rfl:k=r:=by omega
    rw[fill_all hz]at*
    (repeat(first|(refine tst_ff t4 ?_;conv=>whnf)|(rw[t4];conv=>whnf)))
    refine SWx_freezeF 11 51 (fun _ h=>h) rfl rfl hz.symm ?_
    refine SWx_go hE ?_
    conv=>whnf
    skip;(first|exact Recast.refl _|exact Frz.recast (Recast.refl _) rfl|(refine Frz.one rfl rfl ?_;skip)|(refine Frz.tup ?_;skip))
  ·have t3:((s.w (s.piv.length+i) c).num.sign==0)=true:=by rw[hj4 _ (by omega) (by omega)];rfl
   (repeat((first|refine g_c (by assumption) ?_|refine tst_tt t1 ?_|refine tst_tt t3 ?_|refine g_o (op_indexN (α:=Rat) (d:=0) rfl (ev_ok rfl) (ev_ok rfl) (tgt rfl) rfl (tgt rfl) rfl (by omega)) ?_|refine g_o (op_loadA rfl (ev_ok rfl) (tgt rfl) rfl (Nat.succ_ne_zero _) rfl) ?_|refine g_o (op_indexN (α:=List Rat) (d:=[]) rfl (ev_ok rfl) (ev_ok rfl) (tgt rfl) rfl (tgt rfl) rfl (by omega)) ?_|refine g_o (op_fieldA rfl (ev_ok rfl) (tgt rfl) rfl rfl (Nat.succ_ne_zero _) rfl) ?_|rw[t1]|rw[t2]|rw[g1]|rw[g3]|rw[t3]);conv=>whnf))
   exact⟨r - (i+1),fun k=>k,[2,35,36,37],[],by omega,by kernel_rfl,i+1,rfl,by omega,rfl,rfl⟩
 rcases(show r=0∨1≤r by omega)with e0|e0
 ·subst e0
  obtain⟨hp0,hd0⟩:=redS_zero hs
  have kz:=e_begunZ1 (c:=c) (1+0) a 80 (ptrP [fvec b]) ha
  have k3:=e_reduceZ c (by omega)
  rw[hp0,hd0]at hK
  refine SWx_cut hE 100 ?_
  conv=>whnf
  (repeat((first|refine g_cn (by assumption) rfl ?_|refine g_o (op_loadA rfl (ev_ok rfl) (tgt rfl) rfl (Nat.succ_ne_zero _) rfl) ?_|refine g_o (op_fieldA rfl (ev_ok rfl) (tgt rfl) rfl rfl (Nat.succ_ne_zero _) rfl) ?_|refine g_o (op_makeFunc rfl rfl rfl) ?_|refine g_cv k3 (by repeat(first|exact WkH.nil|refine WkH.cons rfl ?_ ?_|exact WkBlk.same (fun h=>h)|exact WkBlk.same ff_imp|exact WkBlk.same (fun _=>rfl)|refine WkBlk.one (fun h=>h) ?_|refine WkBlk.one ff_imp ?_|exact WL.refl|refine WL.eq ?_|refine WL.any rfl ?_|exact WkBlk.dead)) nil_upd ?_|rw[t0]);conv=>whnf))
  exact⟨_,_,freezeZ 7 [2,3,4,5] [] (fun _ h=>h) rfl rfl (by kernel_rfl) (by kernel_rfl) (by kernel_rfl) rfl hE,hK⟩
 ·have k2:=e_begun1 (r:=r) (1+r) a (agB b) 80 (ptrP [fvec b]) hr e0 ha hc (by omega) (fun i k hi _=>e_Against1 i k (by rw[hb];exact hi) (by omega))
  have k3:=e_reduceW (r:=r) c (c+(1+r)) A (augC c a b) s hr e0 (Nat.le_add_right _ _) (by omega) hbd h2 hA hs
  have hpl:(s.piv.map ofN).length=s.piv.length:=List.length_map _
  rcases(show r=1∨r=2∨r=3∨r=4∨r=5∨r=6 by omega)with e1|e1|e1|e1|e1|e1
  all_goals
   rw[e1]at k2 k3 hK t0
   rw[e1]
   refine SWx_cut hE 100 ?_
   conv=>whnf
   (repeat((first|refine g_o (op_loadA rfl (ev_ok rfl) (tgt rfl) rfl (Nat.succ_ne_zero _) rfl) ?_|refine g_o (op_fieldA rfl (ev_ok rfl) (tgt rfl) rfl rfl (Nat.succ_ne_zero _) rfl) ?_|refine g_o (op_makeFunc rfl rfl rfl) ?_|refine⟨[],_,_,[],k2,nil_fk,(by repeat(first|exact nil_new|refine new_cons rfl ?_)),nil_upd, ?_⟩|refine⟨hpH _ _ _ _,_,_,_,k3,(by repeat(first|exact get_nil|refine get_cons rfl ?_)),(by repeat(first|exact nil_new|refine new_cons rfl ?_)),updB_spec rfl rfl, ?_⟩|rw[t0]|rw[Nat.zero_add]);conv=>whnf))
   exact⟨_,_,freezeW (M:=rowsM _ s.w) 7 [2,3,4,5] [] (fun _ h=>h) rfl rfl rfl rfl (by intro j hj;rcases(show j=0∨j=1∨j=2∨j=3∨j=4∨j=5 by omega)with e|e|e|e|e|e<;>first|omega|(subst e;exact⟨rfl,(rwL_len _ _).symm⟩)) hpl.symm (by kernel_rfl) (by kernel_rfl) (by kernel_rfl) rfl (by decide) hE,hK⟩
section
variable {r c A:Nat} {a b:List Rat} (ha:OKM r c a) (hb:b.length=r) (hr:r≤6) (hc:c≤40) (sa:Sm A a) (sb:Sm A b) (h2:2≤A) (hA:8192*A≤4398046511104)
include ha hb hr hc sa sb h2 hA
end
end Go.Proofs.YtbopchpncgdaaaaGreatDoor
