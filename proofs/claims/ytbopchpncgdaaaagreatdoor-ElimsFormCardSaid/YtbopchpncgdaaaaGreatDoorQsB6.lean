/- The texts Qr. -/
import Derived.Test.YtbopchpncgdaaaaGreatDoorQsB5
namespace Go.Proofs.YtbopchpncgdaaaaGreatDoor
open Go.Sx
set_option linter.unusedSimpArgs false
set_option linter.unusedVariables false
set_option maxRecDepth 100000
set_option maxHeartbeats 40000000
theorem e_Reduce {r c A:Nat} {a:List Rat} (ha:OKM r c a) (hr:r≤6) (hc:c≤40) (sa:Sm A a) (h2:2≤A) (hA:4096*A≤4398046511104) {s:St} (hs:redS r c (aug0 c a)=s):
  CallOK Tryz.prog 15 [mA r c a] [] (.tup [mA r c (mk r c s.w),ivec .i64 (s.piv.map ofN),iv 0]) [] []:=by
 have k1:=m_Check0 ha
 have hbd:=aug0_bd ha sa
 have k4:=e_part (r:=r) (m:=c) (c:=c+0) (n:=c) (M:=rowsM (c+0) s.w) (pv:=s.piv.map ofN) (d:=s.d) (fun i _=>rwL_len _ _) 0 (by omega) (by omega) (by omega)
 rw[part_mk 0 (by omega)]at k4
 simp only[Nat.zero_add]at k4
 refine callF (Z:=[1,100004]) tabOK mixedOK Tryz.func15 rfl (by kernel_rfl) (by first|rfl|(simp[keylessL,keyless,keylessL_map, *];done)) (by first|rfl|(simp[keylessL,keyless,keylessL_map, *];done)) (by kernel_rfl) rfl ?_
 intro w0 ρ0 hE
 conv=>whnf
 (repeat((first|refine step_w2 rfl rfl ?_|refine g_c (by assumption) ?_|rw[bne_self_eq_false]|refine g_o (op_loadA rfl (ev_ok rfl) (tgt rfl) rfl (Nat.succ_ne_zero _) rfl) ?_);conv=>whnf))
 refine SWx_then (fr1:=[(6,wkA r c (c+0) (rowsM (c+0) s.w) (s.piv.map ofN) s.d),(1,ptrA (mC r c a)),(2,.ptr 2 0 0 0),(3,.val (.slice none 0 0)),(4,iv 0)]) (hp1:=[(2,zM)]) (fun K hK=> ?_) ?_
 case refine_2=>
  conv=>whnf
  (repeat((first|refine step_i (by kernel_rfl) ?_|refine g_c (by assumption) ?_|refine g_o (op_loadA rfl (ev_ok rfl) (tgt rfl) rfl (Nat.succ_ne_zero _) rfl) ?_|refine g_o (op_fieldA rfl (ev_ok rfl) (tgt rfl) rfl rfl (Nat.succ_ne_zero _) rfl) ?_|refine g_o (op_nilCheckA rfl (ev_ok rfl)) ?_);conv=>whnf));(first|exact Recast.refl _|exact Frz.recast (Recast.refl _) rfl|(refine Frz.one rfl rfl ?_;skip)|(refine Frz.tup ?_;skip))
 rcases(show r=0∨1≤r by omega)with e0|e0
 ·subst e0
  obtain⟨hp0,hd0⟩:=redS_zero hs
  have kz:=e_begunZ0 (c:=c) 0 a 74 ha
  have k3:=e_reduceZ c (by omega)
  rw[hp0,hd0]at hK
  refine SWx_cut hE 100 ?_
  conv=>whnf
  (repeat(first|(refine g_cn (by assumption) rfl ?_;conv=>whnf)|(refine g_o (op_loadA rfl (ev_ok rfl) (tgt rfl) rfl (Nat.succ_ne_zero _) rfl) ?_;conv=>whnf)|(refine g_cv k3 (by repeat(first|exact WkH.nil|refine WkH.cons rfl ?_ ?_|exact WkBlk.same (fun h=>h)|exact WkBlk.same ff_imp|exact WkBlk.same (fun _=>rfl)|refine WkBlk.one (fun h=>h) ?_|refine WkBlk.one ff_imp ?_|exact WL.refl|refine WL.eq ?_|refine WL.any rfl ?_|exact WkBlk.dead)) nil_upd ?_;conv=>whnf)))
  exact⟨_,_,freezeZ 6 [1,2,3,4] [2] (fun _ h=>h) rfl rfl (by kernel_rfl) (by kernel_rfl) (by kernel_rfl) rfl hE,hK⟩
 ·have k2:=e_begun0 (r:=r) 0 a (fun _ _=>0) 74 hr e0 ha hc (by omega) (fun i k hi hk=>absurd hk (Nat.not_lt_zero _))
  have k3:=e_reduceW (r:=r) c (c+0) A (aug0 c a) s hr e0 (Nat.le_add_right _ _) (by omega) hbd h2 hA hs
  have hpl:(s.piv.map ofN).length=s.piv.length:=List.length_map _
  rcases(show r=1∨r=2∨r=3∨r=4∨r=5∨r=6 by omega)with e1|e1|e1|e1|e1|e1
  all_goals
   rw[e1]at k2 k3 hK
   rw[e1]
   refine SWx_cut hE 100 ?_
   conv=>whnf
   (repeat((first|refine g_o (op_loadA rfl (ev_ok rfl) (tgt rfl) rfl (Nat.succ_ne_zero _) rfl) ?_|refine⟨[],_,_,[],k2,nil_fk,(by repeat(first|exact nil_new|refine new_cons rfl ?_)),nil_upd, ?_⟩|refine⟨hpH _ _ _ _,_,_,_,k3,(by repeat(first|exact get_nil|refine get_cons rfl ?_)),(by repeat(first|exact nil_new|refine new_cons rfl ?_)),updB_spec rfl rfl, ?_⟩|rw[Nat.zero_add]);conv=>whnf))
   exact⟨_,_,freezeW (M:=rowsM _ s.w) 6 [1,2,3,4] [2] (fun _ h=>h) rfl rfl rfl rfl (by intro j hj;rcases(show j=0∨j=1∨j=2∨j=3∨j=4∨j=5 by omega)with e|e|e|e|e|e<;>first|omega|(subst e;exact⟨rfl,(rwL_len _ _).symm⟩)) hpl.symm (by kernel_rfl) (by kernel_rfl) (by kernel_rfl) rfl (by decide) hE,hK⟩
theorem redS_inv (r c:Nat) (W:Mx) {s:St} (hs:redS r c W=s):s.piv.length≤r∧∀j,j<s.piv.length→s.piv.getD j 0<c:=by
 have h:=red_agree r W c
 rw[show red2F r c ⟨W,[],1⟩=s from hs]at h
 have hi:=Inv.red (r:=r) (W:=W) c
 exact⟨h.le,fun j hj=>by rw[h.piv]at hj ⊢;exact hi.lt j hj⟩
theorem e_Kernel {r c A:Nat} {a:List Rat} (ha:OKM r c a) (hr:r≤6) (hc:c≤40) (sa:Sm A a) (h2:2≤A) (hA:4096*A≤4398046511104) {s:St} (hs:redS r c (aug0 c a)=s):
  CallOK Tryz.prog 17 [mA r c a] [] (.tup [mvec 1 fvec ((freeF s.piv c).map (kvL (rowsM (c+0) s.w) s.piv c)),iv 0]) [] []:=by
 have k1:=m_Check0 ha
 have hbd:=aug0_bd ha sa
 obtain⟨hl1,hl2⟩:=redS_inv r c _ hs
 have k4:=e_kernel (r:=r) (m:=c) (c:=c+0) (M:=rowsM (c+0) s.w) (sp:=s.piv) (d:=s.d) (fun i _=>rwL_len _ _) (by omega) (by omega) (by omega) hl1 hl2
 refine callF (Z:=[1,100004]) tabOK mixedOK Tryz.func17 rfl (by kernel_rfl) (by first|rfl|(simp[keylessL,keyless,keylessL_map, *];done)) (by first|rfl|(simp[keylessL,keyless,keylessL_map, *];done)) (by kernel_rfl) rfl ?_
 intro w0 ρ0 hE
 conv=>whnf
 (repeat((first|refine step_w2 rfl rfl ?_|refine g_c (by assumption) ?_|rw[bne_self_eq_false]|refine g_o (op_loadA rfl (ev_ok rfl) (tgt rfl) rfl (Nat.succ_ne_zero _) rfl) ?_);conv=>whnf))
 rcases(show r=0∨1≤r by omega)with e0|e0
 ·subst e0
  obtain⟨hp0,hd0⟩:=redS_zero hs
  have kz:=e_begunZ0 (c:=c) 0 a 74 ha
  have k3:=e_reduceZ c (by omega)
  rw[hp0,hd0]at k4;rw[hp0]
  refine SWx_cut hE 3 ?_
  conv=>whnf
  (repeat(first|(refine g_cn (by assumption) rfl ?_;conv=>whnf)|(refine g_o (op_loadA rfl (ev_ok rfl) (tgt rfl) rfl (Nat.succ_ne_zero _) rfl) ?_;conv=>whnf)|(refine g_cv k3 (by repeat(first|exact WkH.nil|refine WkH.cons rfl ?_ ?_|exact WkBlk.same (fun h=>h)|exact WkBlk.same ff_imp|exact WkBlk.same (fun _=>rfl)|refine WkBlk.one (fun h=>h) ?_|refine WkBlk.one ff_imp ?_|exact WL.refl|refine WL.eq ?_|refine WL.any rfl ?_|exact WkBlk.dead)) nil_upd ?_;conv=>whnf)))
  refine⟨_,_,freezeZ 12 [1,2,3] [] (fun _ h=>h) rfl rfl (by kernel_rfl) (by kernel_rfl) (by kernel_rfl) rfl hE, ?_⟩
  conv=>whnf
  (repeat(first|(refine g_c (by assumption) ?_;conv=>whnf)));(first|exact Recast.refl _|exact Frz.recast (Recast.refl _) rfl|(refine Frz.one rfl rfl ?_;skip)|(refine Frz.tup ?_;skip))
 ·have k2:=e_begun0 (r:=r) 0 a (fun _ _=>0) 74 hr e0 ha hc (by omega) (fun i k hi hk=>absurd hk (Nat.not_lt_zero _))
  have k3:=e_reduceW (r:=r) c (c+0) A (aug0 c a) s hr e0 (Nat.le_add_right _ _) (by omega) hbd h2 hA hs
  have hpl:(s.piv.map ofN).length=s.piv.length:=List.length_map _
  rcases(show r=1∨r=2∨r=3∨r=4∨r=5∨r=6 by omega)with e1|e1|e1|e1|e1|e1
  all_goals
   rw[e1]at k2 k3 k4
   rw[e1]
   refine SWx_cut hE 3 ?_
   conv=>whnf
   (repeat((first|refine g_o (op_loadA rfl (ev_ok rfl) (tgt rfl) rfl (Nat.succ_ne_zero _) rfl) ?_|refine⟨[],_,_,[],k2,nil_fk,(by repeat(first|exact nil_new|refine new_cons rfl ?_)),nil_upd, ?_⟩|refine⟨hpH _ _ _ _,_,_,_,k3,(by repeat(first|exact get_nil|refine get_cons rfl ?_)),(by repeat(first|exact nil_new|refine new_cons rfl ?_)),updB_spec rfl rfl, ?_⟩|rw[Nat.zero_add]);conv=>whnf))
   refine⟨_,_,freezeW (M:=rowsM _ s.w) 12 [1,2,3] [] (fun _ h=>h) rfl rfl rfl rfl (by intro j hj;rcases(show j=0∨j=1∨j=2∨j=3∨j=4∨j=5 by omega)with e|e|e|e|e|e<;>first|omega|(subst e;exact⟨rfl,(rwL_len _ _).symm⟩)) hpl.symm (by kernel_rfl) (by kernel_rfl) (by kernel_rfl) rfl (by decide) hE, ?_⟩
   conv=>whnf
   (repeat(first|(refine g_c (by assumption) ?_;conv=>whnf)));(first|exact Recast.refl _|exact Frz.recast (Recast.refl _) rfl|(refine Frz.one rfl rfl ?_;skip)|(refine Frz.tup ?_;skip))
end Go.Proofs.YtbopchpncgdaaaaGreatDoor
