/- The texts Qv. -/
import Derived.Test.YtbopchpncgdaaaaGreatDoorQLElimsFredholm3
namespace Go.Proofs.YtbopchpncgdaaaaGreatDoor
open Go.Sx
set_option linter.unusedSimpArgs false
set_option linter.unusedVariables false
set_option maxRecDepth 100000
set_option maxHeartbeats 40000000
theorem augC_c {c i:Nat} {a b:List Rat}:augC c a b i c=b.getD i 0:=(aug_ge (k:=0)).trans (if_pos rfl)
theorem augC_I {c i k:Nat} {a b:List Rat}:augC c a b i (c+1+k)=delta i k:=by
 rw[Nat.add_assoc,augC,aug_ge]
 unfold agB delta
 rw[if_neg (by omega)]
 by_cases h:i=k
 ·rw[if_pos h,if_pos (by omega)]
 ·rw[if_neg h,if_neg (by omega)]
theorem e_AgainstNo {r c A:Nat} {a b:List Rat} (ha:OKM r c a) (hb:b.length=r) (hr:r≤6) (hc:c≤40) (sa:Sm A a) (sb:Sm A b) (h2:2≤A) (hA2:8192*A≤4398046511104) {s:St} (hs:redS r c (augC c a b)=s)
  (hz:∀i,s.piv.length≤i→i<r→s.w i c=0):
  CallOK Tryz.prog 19 [mA r c a,fvec b] [] (.tup [fvec [],iv 6]) [] []:=by
 have hA:4096*A≤4398046511104:=by omega
 have k1:=e_may ha hb
 have hbd:=augC_bd ha sa hb sb h2
 have hrl:=rM_len r (rowsM (c+(1+r)) s.w)
 have hpl:(s.piv.map ofN).length=s.piv.length:=List.length_map _
 have t0:IntKind.i64.wrap (1+(r:Int))=((1+r:Nat):Int):=by rw[wrap_i64 (by omega) (by omega)];omega
 obtain⟨hl1,hl2⟩:=redS_inv r c _ hs
 refine callF (Z:=[2,3,100004,100016]) tabOK mixedOK Tryz.func19 rfl (by kernel_rfl) (by first|rfl|(simp[keylessL,keyless,keylessL_map, *];done)) (by first|rfl|(simp[keylessL,keyless,keylessL_map, *];done)) (by kernel_rfl) rfl ?_
 intro w0 ρ0 hE
 conv=>whnf
 (repeat((first|refine step_w2 rfl rfl ?_|refine g_c (by assumption) ?_|rw[bne_self_eq_false]|refine g_o (op_loadA rfl (ev_ok rfl) (tgt rfl) rfl (Nat.succ_ne_zero _) rfl) ?_);conv=>whnf))
 refine SWx_then (fr1:=[(7,wkA r c (c+(1+r)) (rowsM (c+(1+r)) s.w) (s.piv.map ofN) s.d),(2,ptrA (mC r c a)),(3,ptrA [fvec b]),(4,.val (.slice none 0 0)),(5,iv 0)]) (hp1:=[]) (fun K hK=> ?_) ?_
 case refine_2=>
  clear hbd hs
  conv=>whnf
  (repeat((first|refine step_i (by kernel_rfl) ?_|refine g_o (op_lenM rfl rfl rfl (ev_ok rfl) (tgt rfl) rfl) ?_|refine g_o (op_loadA rfl (ev_ok rfl) (tgt rfl) rfl (Nat.succ_ne_zero _) rfl) ?_|refine g_o (op_fieldA rfl (ev_ok rfl) (tgt rfl) rfl rfl (Nat.succ_ne_zero _) rfl) ?_|refine g_o (op_sliceM rfl (ev_ok rfl) (bound_spec rfl) (bound_spec rfl) (.inl rfl) (tgt rfl) rfl (tgt rfl) rfl (by omega)) ?_|refine g_o (op_nilCheckA rfl (ev_ok rfl)) ?_|rw[hrl]|rw[hpl]|rw[Int.toNat_natCast]);conv=>whnf))
  generalize hTL:List.take (r - s.piv.length) (List.drop s.piv.length ((List.range r).map (rowsM (c+(1+r)) s.w)))=TL
  have hTl:TL.length=r - s.piv.length:=by rw[←hTL];exact tail_len
  have hTg:∀i,s.piv.length+i<r→TL.getD i []=rowsM (c+(1+r)) s.w (s.piv.length+i):=fun i hi=>by rw[←hTL];exact tail_get hi
  refine SW_loopN hE (fun k=>k) [2,35,36,37] [] (fun m fr hp=>∃i:Nat,m=r - i∧s.piv.length+i≤r∧fr=[(2,ptrA (mC r c a)),(35,mvec 1 fvec TL),(36,iv (r - s.piv.length:Nat)),(37,iv i)]∧hp=[]) r ?_ ?_ ?_
  ·kernel_rfl
  ·exact⟨0,rfl,by omega,by rw[←hTl];rfl,rfl⟩
  rintro m _ _ ⟨i,rfl,hi,rfl,rfl⟩
  conv=>whnf
  by_cases hlt:i<r - s.piv.length
  ·have t1:=dlt hlt
   have t2:=winc (i:=i) (by omega)
   have g1:=hTg i (by omega)
   have g2:(rowsM (c+(1+r)) s.w (s.piv.length+i)).length=c+(1+r):=rwL_len _ _
   have g3:(rowsM (c+(1+r)) s.w (s.piv.length+i)).getD c 0=s.w (s.piv.length+i) c:=rwL_get (by omega)
   have k2:=c_fSign (s.w (s.piv.length+i) c)
   have t3:((s.w (s.piv.length+i) c).num.sign==0)=true:=by rw[hz _ (by omega) (by omega)];rfl
   (repeat((first|refine g_c (by assumption) ?_|refine tst_tt t1 ?_|refine tst_tt t3 ?_|refine g_o (op_indexN (α:=Rat) (d:=0) rfl (ev_ok rfl) (ev_ok rfl) (tgt rfl) rfl (tgt rfl) rfl (by omega)) ?_|refine g_o (op_loadA rfl (ev_ok rfl) (tgt rfl) rfl (Nat.succ_ne_zero _) rfl) ?_|refine g_o (op_indexN (α:=List Rat) (d:=[]) rfl (ev_ok rfl) (ev_ok rfl) (tgt rfl) rfl (tgt rfl) rfl (by omega)) ?_|refine g_o (op_fieldA rfl (ev_ok rfl) (tgt rfl) rfl rfl (Nat.succ_ne_zero _) rfl) ?_|rw[t1]|rw[t2]|rw[g1]|rw[g3]|rw[t3]);conv=>whnf))
   exact⟨r - (i+1),fun k=>k,[2,35,36,37],[],by omega,by kernel_rfl,i+1,rfl,by omega,rfl,rfl⟩
  ·have t1:=dge hlt
   (repeat(first|(refine tst_ff t1 ?_;conv=>whnf)));(first|exact Recast.refl _|exact Frz.recast (Recast.refl _) rfl|(refine Frz.one rfl rfl ?_;skip)|(refine Frz.tup ?_;(repeat(first|exact FrzC.keyless rfl|exact FrzL.nil|refine FrzL.cons ?_ ?_|exact FrzC.nilS))))
 rcases(show r=0∨1≤r by omega)with e0|e0
 ·subst e0
  obtain⟨hp0,hd0⟩:=redS_zero hs
  have kz:=e_begunZ1 (c:=c) (1+0) a 80 (ptrP [fvec b]) ha
  have k3:=e_reduceZ c (by omega)
  rw[hp0,hd0]at hK
  refine SWx_cut hE 100 ?_
  conv=>whnf
  (repeat((first|refine g_cn (by assumption) rfl ?_|refine g_o (op_loadA rfl (ev_ok rfl) (tgt rfl) rfl (Nat.succ_ne_zero _) rfl) ?_|refine g_o (op_fieldA rfl (ev_ok rfl) (tgt rfl) rfl rfl (Nat.succ_ne_zero _) rfl) ?_|refine g_o (op_makeFunc rfl rfl rfl) ?_|refine g_cv k3 (by repeat(first|exact WkH.nil|refine WkH.cons rfl ?_ ?_|exact WkBlk.same (fun h=>h)|exact WkBlk.same ff_imp|exact WkBlk.same (fun _=>rfl)|refine WkBlk.one (fun h=>h) ?_|refine WkBlk.one ff_imp ?_|exact WL.refl|refine WL.eq ?_|refine WL.any rfl ?_|exact WkBlk.dead)) nil_upd ?_|rw[t0]);conv=>whnf))
  exact⟨_,_,freezeZ 7 [2,3,4,5] [] (fun _ h=>h) rfl rfl (by kernel_rfl) (by kernel_rfl) (by kernel_rfl) rfl hE,hK⟩
 ·have k2:=e_begun1 (r:=r) (1+r) a (agB b) 80 (ptrP [fvec b]) hr e0 ha hc (by omega) (fun i k hi _=>e_Against1 i k (by rw[hb];exact hi) (by omega))
  have k3:=e_reduceW (r:=r) c (c+(1+r)) A (augC c a b) s hr e0 (Nat.le_add_right _ _) (by omega) hbd h2 hA hs
  have hpl:(s.piv.map ofN).length=s.piv.length:=List.length_map _
  rcases(show r=1∨r=2∨r=3∨r=4∨r=5∨r=6 by omega)with e1|e1|e1|e1|e1|e1
  all_goals
   rw[e1]at k2 k3 hK t0
   rw[e1]
   refine SWx_cut hE 100 ?_
   conv=>whnf
   (repeat((first|refine g_o (op_loadA rfl (ev_ok rfl) (tgt rfl) rfl (Nat.succ_ne_zero _) rfl) ?_|refine g_o (op_fieldA rfl (ev_ok rfl) (tgt rfl) rfl rfl (Nat.succ_ne_zero _) rfl) ?_|refine g_o (op_makeFunc rfl rfl rfl) ?_|refine⟨[],_,_,[],k2,nil_fk,(by repeat(first|exact nil_new|refine new_cons rfl ?_)),nil_upd, ?_⟩|refine⟨hpH _ _ _ _,_,_,_,k3,(by repeat(first|exact get_nil|refine get_cons rfl ?_)),(by repeat(first|exact nil_new|refine new_cons rfl ?_)),updB_spec rfl rfl, ?_⟩|rw[t0]|rw[Nat.zero_add]);conv=>whnf))
   exact⟨_,_,freezeW (M:=rowsM _ s.w) 7 [2,3,4,5] [] (fun _ h=>h) rfl rfl rfl rfl (by intro j hj;rcases(show j=0∨j=1∨j=2∨j=3∨j=4∨j=5 by omega)with e|e|e|e|e|e<;>first|omega|(subst e;exact⟨rfl,(rwL_len _ _).symm⟩)) hpl.symm (by kernel_rfl) (by kernel_rfl) (by kernel_rfl) rfl (by decide) hE,hK⟩
section
variable {r c A:Nat} {a b:List Rat} (ha:OKM r c a) (hb:b.length=r) (hr:r≤6) (hc:c≤40) (sa:Sm A a) (sb:Sm A b) (h2:2≤A) (hA:8192*A≤4398046511104)
include ha hb hr hc sa sb h2 hA
theorem e_AgainstN (hx:∃x,Sol r c a b x):CallOK Tryz.prog 19 [mA r c a,fvec b] [] (.tup [fvec [],iv 6]) [] []:=
 e_AgainstNo ha hb hr hc sa sb h2 hA rfl ((sol_iff (redS_Inv r c (augC c a b)) aug_lt fun i _=>augC_c).2 hx)
theorem e_AgainstS (hx:¬∃x,Sol r c a b x):∃Y:List Rat,Y.length=r∧Sm (8192*A) Y∧(∀q,q<c→sumR r (fun i=>el a c i q*Y.getD i 0)=0)∧sumR r (fun i=>Y.getD i 0*b.getD i 0)=1∧
  CallOK Tryz.prog 19 [mA r c a,fvec b] [] (.tup [fvec Y,iv 0]) [] []:=by
 have hi:=redS_Inv r c (augC c a b)
 obtain⟨j,h1,h3,h4,h5⟩:=sol_first hi aug_lt (fun i _=>augC_c) hx
 have hsz:=(redS_siz (r:=r) (m:=c) (augC_bd ha sa hb sb h2) h2 hr (Nat.le_add_right _ _)).1
 obtain⟨c1,c2⟩:=cert_ok hi (fun i k _ _=>augC_I) h1 h3 h4
 have k:=e_AgainstOK ha hb hr hc sa sb h2 hA rfl h1 h3 h4 h5
 have hY:∀k,k<r→((List.range r).map fun k=>(redS r c (augC c a b)).w j (c+1+k)/(redS r c (augC c a b)).w j c).getD k 0=(redS r c (augC c a b)).w j (c+1+k)/(redS r c (augC c a b)).w j c:=fun k hk=>by simp[List.getD_eq_getElem?_getD,hk]
 refine⟨_,by simp, ?_, ?_, ?_,k⟩
 ·intro q hq
  rw[List.length_map,List.length_range]at hq
  rw[hY q hq]
  have b1:=hsz j (c+1+q) h3 (by omega)
  have b2:=hsz j c h3 (by omega)
  have b3:=fs_div ((redS r c (augC c a b)).w j (c+1+q)) ((redS r c (augC c a b)).w j c)
  omega
 ·intro q hq
  exact(sum_congr r fun i hi=>by rw[hY i hi];show _=augW a c (agB b) i q*_;rw[aug_lt (r:=r) i q hi hq]).trans (c1 q hq)
 ·exact(sum_congr r fun i hi=>by rw[hY i hi,augC_c]).trans c2
end
end Go.Proofs.YtbopchpncgdaaaaGreatDoor
