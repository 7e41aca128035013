/- The texts Qo. -/
import Derived.Test.YtfjhnollamkdcaaGreatDoorQsA18
namespace Go.Proofs.YtfjhnollamkdcaaGreatDoor
open Go.Sx
set_option linter.unusedSimpArgs false
set_option linter.unusedVariables false
set_option maxRecDepth 100000
set_option maxHeartbeats 40000000
theorem redW_det {n:Nat} (W:Mx) {s:St} (hs:red2F n n ⟨W,[],1⟩=s):(if s.piv.length<n then 0 else s.d)=det n W:=by
 have h:=red_agree n W n
 rw[hs]at h
 rw[h.piv,h.d]
 exact red_det n W
theorem det_aug {n c:Nat} (a:List Rat) (b:Mx) (hc:n≤c):det n (augW a c b)=det n (el a c):=det_congr fun i k _ hk=>by unfold augW;rw[if_pos (by omega)]
theorem aug_bd {r c more A:Nat} {a:List Rat} {b:Mx} (ha:OKM r c a) (sa:Sm A a) (hb:∀i k,i<r→k<more→fs (b i k)≤A):∀i q,i<r→q<c+more→fs (augW a c b i q)≤A:=by
 intro i q hi hq
 unfold augW
 by_cases h:q<c
 ·rw[if_pos h];exact el_sm sa ha.n hi h
 ·rw[if_neg h];exact hb i _ hi (by omega)
theorem e_DetW {n A:Nat} {a:List Rat} (ha:OKM n n a) (hn:n≤6) (sa:Sm A a) (h2:2≤A) (hA:4096*A≤4398046511104):
  CallOK Tryz.prog 62 [mA n n a] [] (.tup [.frac (det n (el a n)),iv 0]) [] []:=by
 have k1:=e_square ha
 obtain⟨s,hs⟩:∃s,red2F n n ⟨augW a n (fun _ _=>0),[],1⟩=s:=⟨_,rfl⟩
 have hd:=redW_det _ hs
 rw[det_aug _ _ (Nat.le_refl _)]at hd
 rw[←hd]
 rcases(show n=0∨1≤n by omega)with e0|e0
 ·subst e0
  have k2:=e_begunZ0 (c:=0) 0 a 115 ha
  have k3:=e_reduceZ 0 (by decide)
  have hs0:s=⟨augW a 0 (fun _ _=>0),[],1⟩:=hs.symm
  subst hs0
  refine callF (Z:=[1,100005]) tabOK mixedOK Tryz.func62 rfl (by kernel_rfl) (by first|rfl|(simp[keylessL,keyless,keylessL_map, *];done)) (by first|rfl|(simp[keylessL,keyless,keylessL_map, *];done)) (by kernel_rfl) rfl ?_
  intro w0 ρ0 hE
  conv=>whnf
  (repeat((first|refine step_w2 rfl rfl ?_|refine g_c (by assumption) ?_|refine g_cn (by assumption) rfl ?_|rw[bne_self_eq_false]|refine g_o (op_loadA rfl (ev_ok rfl) (tgt rfl) rfl (Nat.succ_ne_zero _) rfl) ?_|refine g_cv k3 (by repeat(first|exact WkH.nil|refine WkH.cons rfl ?_ ?_|exact WkBlk.same (fun h=>h)|exact WkBlk.same ff_imp|exact WkBlk.same (fun _=>rfl)|refine WkBlk.one (fun h=>h) ?_|refine WkBlk.one ff_imp ?_|exact WL.refl|refine WL.eq ?_|refine WL.any rfl ?_|exact WkBlk.dead)) nil_upd ?_);conv=>whnf))
  refine SWx_freezeZ 5 (fun _ h=>h) rfl rfl ?_
  refine SWx_go hE ?_
  conv=>whnf
  (repeat((first|refine step_w2 rfl rfl ?_|refine step_i (by kernel_rfl) ?_|refine g_o (op_lenM rfl rfl rfl (ev_ok rfl) (tgt rfl) rfl) ?_|refine g_o (op_loadA rfl (ev_ok rfl) (tgt rfl) rfl (Nat.succ_ne_zero _) rfl) ?_|refine g_o (op_fieldA rfl (ev_ok rfl) (tgt rfl) rfl rfl (Nat.succ_ne_zero _) rfl) ?_|refine g_o (op_nilCheckA rfl (ev_ok rfl)) ?_);conv=>whnf));(first|exact Recast.refl _|exact Frz.recast (Recast.refl _) rfl|(refine Frz.one rfl rfl ?_;skip)|(refine Frz.tup ?_;skip))
 ·have k2:=e_begun0 (r:=n) 0 a (fun _ _=>0) 115 hn e0 ha (by omega) (by omega) fun i k hi hk=>absurd hk (Nat.not_lt_zero _)
  have k3:=e_reduceW (r:=n) n (n+0) A (augW a n (fun _ _=>0)) s hn e0 (Nat.le_refl _) (by omega) (aug_bd ha sa fun i k _ hk=>absurd hk (Nat.not_lt_zero _)) h2 hA hs
  have hp:s.piv.length≤n:=by
   have h:=red_agree n (augW a n fun _ _=>0) n
   rw[hs]at h;exact h.le
  have hpl:(s.piv.map ofN).length=s.piv.length:=List.length_map _
  rcases(show n=1∨n=2∨n=3∨n=4∨n=5∨n=6 by omega)with e1|e1|e1|e1|e1|e1
  all_goals
   rw[e1]at k1 k2 k3
   rw[e1]
   refine callF (Z:=[1,100005]) tabOK mixedOK Tryz.func62 rfl (by kernel_rfl) (by first|rfl|(simp[keylessL,keyless,keylessL_map, *];done)) (by first|rfl|(simp[keylessL,keyless,keylessL_map, *];done)) (by kernel_rfl) rfl ?_
   intro w0 ρ0 hE
   conv=>whnf
   (repeat((first|refine step_w2 rfl rfl ?_|refine g_c (by assumption) ?_|rw[bne_self_eq_false]|refine g_o (op_loadA rfl (ev_ok rfl) (tgt rfl) rfl (Nat.succ_ne_zero _) rfl) ?_|refine⟨[],_,_,[],k2,nil_fk,(by repeat(first|exact nil_new|refine new_cons rfl ?_)),nil_upd, ?_⟩|refine⟨hpH _ _ _ _,_,_,_,k3,(by repeat(first|exact get_nil|refine get_cons rfl ?_)),(by repeat(first|exact nil_new|refine new_cons rfl ?_)),updB_spec rfl rfl, ?_⟩|rw[Nat.zero_add]);conv=>whnf))
   refine SWx_freezeW (M:=rowsM _ s.w) 5 [1,2,3] [2] (fun _ h=>h) rfl rfl rfl rfl (by intro j hj;rcases(show j=0∨j=1∨j=2∨j=3∨j=4∨j=5 by omega)with e|e|e|e|e|e<;>first|omega|(subst e;exact⟨rfl,(rwL_len _ _).symm⟩)) hpl.symm (by kernel_rfl) (by kernel_rfl) (by kernel_rfl) rfl (by decide) hE ?_
   refine SWx_go hE ?_
   conv=>whnf
   by_cases hlt:s.piv.length<n
   ·have t1:=decide_eq_true (show(s.piv.length:Int)<(n:Int) by omega)
    have e9:(if s.piv.length<n then 0 else s.d)=0:=if_pos hlt
    rw[e1]at t1 e9
    rw[e9]
    (repeat((first|refine step_i (by kernel_rfl) ?_|refine tst_tt t1 ?_|refine g_o (op_lenM rfl rfl rfl (ev_ok rfl) (tgt rfl) rfl) ?_|refine g_o (op_loadA rfl (ev_ok rfl) (tgt rfl) rfl (Nat.succ_ne_zero _) rfl) ?_|refine g_o (op_fieldA rfl (ev_ok rfl) (tgt rfl) rfl rfl (Nat.succ_ne_zero _) rfl) ?_|refine g_o (op_nilCheckA rfl (ev_ok rfl)) ?_|rw[hpl]);conv=>whnf));(first|exact Recast.refl _|exact Frz.recast (Recast.refl _) rfl|(refine Frz.one rfl rfl ?_;skip)|(refine Frz.tup ?_;skip))
   ·have t1:=decide_eq_false (show ¬(s.piv.length:Int)<(n:Int) by omega)
    have e9:(if s.piv.length<n then 0 else s.d)=s.d:=if_neg hlt
    rw[e1]at t1 e9
    rw[e9]
    (repeat((first|refine step_i (by kernel_rfl) ?_|refine tst_ff t1 ?_|refine g_o (op_lenM rfl rfl rfl (ev_ok rfl) (tgt rfl) rfl) ?_|refine g_o (op_loadA rfl (ev_ok rfl) (tgt rfl) rfl (Nat.succ_ne_zero _) rfl) ?_|refine g_o (op_fieldA rfl (ev_ok rfl) (tgt rfl) rfl rfl (Nat.succ_ne_zero _) rfl) ?_|refine g_o (op_nilCheckA rfl (ev_ok rfl)) ?_|rw[hpl]);conv=>whnf));(first|exact Recast.refl _|exact Frz.recast (Recast.refl _) rfl|(refine Frz.one rfl rfl ?_;skip)|(refine Frz.tup ?_;skip))
end Go.Proofs.YtfjhnollamkdcaaGreatDoor
