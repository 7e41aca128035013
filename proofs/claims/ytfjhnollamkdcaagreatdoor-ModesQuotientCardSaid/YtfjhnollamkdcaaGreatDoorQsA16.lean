/- The texts Qi. -/
import Derived.Test.YtfjhnollamkdcaaGreatDoorQsA15
namespace Go.Proofs.YtfjhnollamkdcaaGreatDoor
open Go.Sx
set_option linter.unusedSimpArgs false
set_option linter.unusedVariables false
set_option maxRecDepth 100000
set_option maxHeartbeats 40000000
abbrev ofN:Nat→Int:=fun x=>(x:Int)
abbrev cellsH (r c:Nat):List SV:=(List.range r).map fun i=>.slc (3010+i) 5 0 c
def rowsH (M:Nat→List Rat):Nat→Nat→List (Nat×Blk)
 |0,_=>[]
 |n+1,i=>(3010+i,rwB true (M i))::rowsH M n (i+1)
abbrev keysH (r:Nat):List Nat:=(List.range r).map fun j=>3010+j
abbrev deadH (r:Nat):List (Nat×Blk):=deads (keysH r)
abbrev wk0B (r m:Nat) (d:Rat):Blk:=⟨176,true,.one [.slc 1002 1 0 r,iv m,.val (.slice none 0 0),.frac d]⟩
abbrev hpH (r m c:Nat) (w:Mx):List (Nat×Blk):=(1001,wk0B r m 1)::(1002,rkB true (cellsH r c))::rowsH (rowsM c w) r 0
abbrev hpR (r m c p:Nat) (sw:Mx) (sp:List Nat) (sd:Rat):List (Nat×Blk):=deadH r++hpE true true true (fun _=>true) r m c p sd (sp.map ofN) (rowsM c sw)
abbrev keysR (r q:Nat):List Nat:=keysH r++(1001::1002::q::(List.range r).map fun j=>1010+j)
theorem e_reduceW {r:Nat} (m c A:Nat) (w:Mx) (s:St) (hr:r≤6) (hr1:1≤r) (hm:m≤c) (hc:c≤4096) (hA:∀a q,a<r→q<c→fs (w a q)≤A) (h2:2≤A) (hA2:4096*A≤4398046511104) (hs:red2F r m ⟨w,[],1⟩=s):
  CallOK Tryz.prog 116 [.ptr 1001 0 0 0] (hpH r m c w) (.ptr 1001 0 0 0) ((1003,pvB true (s.piv.map ofN))::rowsE (fun _=>true) (rowsM c s.w) r 0)
   ((1001,wkB true r m s.piv.length s.d)::(1002,rkB true (cellsE r c))::deadH r):=by
 obtain⟨KR,hKR⟩:∃K,K=keysR r 1003:=⟨_,rfl⟩
 obtain⟨K5,hK5⟩:∃K,K=keysR r 55:=⟨_,rfl⟩
 rcases(show r=1∨r=2∨r=3∨r=4∨r=5∨r=6 by omega)with e1|e1|e1|e1|e1|e1
 all_goals first|omega|skip
 all_goals
  rw[e1]
  refine callID (Z:=[100010]) tabOK mixedOK Tryz.func116 rfl (by kernel_rfl) (ShapeOKD.of rfl rfl rfl rfl rfl rfl rfl rfl rfl rfl rfl) rfl (NamesOK.id rfl) ?_
  intro W0 w0 ρ0 hE
  conv=>whnf
  (repeat(first|(rw[Nat.zero_add];conv=>whnf)))
  refine SWx_move hE (fun k=>cond (Nat.ble 3010 k) (k - 2000) k) [0,9,10] (1001::1002::keysH r) (keysH r) (by subst e1;kernel_rfl) ?_
  refine SWx_adoptB (j:=1001) (p:=2) (k:=1003) (s:=1) (blk:=pvB true []) (by subst e1;rfl) rfl (by subst e1;rfl) rfl rfl ?_
  refine SW_loopN hE (fun k=>k) [0,9,10] KR (fun m' fr hp=>∃(k p:Nat) (sw:Mx) (sp:List Nat) (sd:Rat),m'=m - k∧k≤m∧red2F r k ⟨w,[],1⟩=⟨sw,sp,sd⟩∧Siz r c A ⟨sw,sp,sd⟩∧sp.length=p∧p≤r∧fr=[(0,.ptr 1001 0 0 0),(9,iv m),(10,iv k)]∧hp=hpR r m c p sw sp sd) m ?_ ?_ ?_
  ·subst e1 hKR;kernel_rfl
  ·refine⟨0,0,w,[],1,rfl,Nat.zero_le _,rfl,⟨fun a q ha hq=>by rw[List.length_nil,Nat.pow_zero,Nat.one_mul];exact hA a q ha hq,by rw[List.length_nil,Nat.pow_zero,Nat.one_mul];exact Nat.le_trans (Nat.le_of_eq fs_one) h2⟩,rfl,Nat.zero_le _,by subst e1;rfl,by subst e1 hKR;rfl⟩
  rintro m' _ _ ⟨k,p,sw,sp,sd,rfl,hk,hrd,hsz,hp,hpr,rfl,rfl⟩
  by_cases hlt:k<m
  ·have t1:=dlt hlt
   have t2:=winc (i:=k) (by omega)
   have hpd:p=0∨p=1∨p=2∨p=3∨p=4∨p=5∨p=6:=by omega
   rcases hpd with e2|e2|e2|e2|e2|e2|e2
   all_goals first|omega|skip
   all_goals
    rw[e1,e2]
    conv=>whnf
    (repeat(first|(refine tst_tt t1 ?_;conv=>whnf)|(rw[t1];conv=>whnf)|(rw[Nat.zero_add];conv=>whnf)))
    refine SW_loopN hE (fun k=>k) [0,3,4,5,9,10] KR (fun m'' fr hp=>∃i:Nat,m''=r - i∧p≤i∧i≤r∧(∀a,p≤a→a<i→sw a k=0)∧fr=[(0,.ptr 1001 0 0 0),(3,iv k),(4,iv p),(5,iv i),(9,iv m),(10,iv k)]∧hp=hpR r m c p sw sp sd) (r - p) ?_ ?_ ?_
    ·subst e1 hKR;kernel_rfl
    ·exact⟨p,by subst e1 e2;rfl,Nat.le_refl _,hpr,fun a h1 h2=>by omega,by subst e1 e2;rfl,by subst e1 e2 hKR;rfl⟩
    rintro m'' _ _ ⟨i,rfl,hpi,hir,hz,rfl,rfl⟩
    have hid:i=0∨i=1∨i=2∨i=3∨i=4∨i=5∨i=6:=by omega
    by_cases hi:i<r
    ·have x1:(rowsM c sw i).length=c:=rwL_len _ _
     have x2:(rowsM c sw i).getD k 0=sw i k:=rwL_get (Nat.lt_of_lt_of_le hlt hm)
     have k2:=c_fSign (sw i k)
     by_cases hz0:sw i k=0
     ·have t3:decide ((sw i k).num.sign=0)=true:=by rw[rat_sign0];exact decide_eq_true hz0
      have hz':∀a,p≤a→a<i+1→sw a k=0:=fun a h1 h2=>by
       by_cases e:a=i
       ·rw[e];exact hz0
       ·exact hz a h1 (by omega)
      subst e1 e2
      rcases hid with e3|e3|e3|e3|e3|e3|e3
      all_goals first|omega|skip
      all_goals
       subst e3
       conv=>whnf
       (repeat((first|refine step_w1 rfl rfl ?_|refine step_oL (by first|omega|decide|(simp only[tl0,dlen,List.length_replicate,List.length_set,List.length_map,List.length_zipWith,List.length_take,List.length_append,List.length_cons,List.length_nil];omega)) ?_|refine step_oA (by first|omega|decide|(simp only[tl0,dlen,List.length_replicate,List.length_set,List.length_map,List.length_zipWith,List.length_take,List.length_append,List.length_cons,List.length_nil];omega)) ?_|refine g_c (by assumption) ?_|refine tst_tt t3 ?_|refine g_load1 rfl (ev_ok rfl) rfl (tgt rfl) rfl (Nat.succ_ne_zero _) rfl ?_|rw[x1]|rw[x2]|rw[Int.toNat_natCast]|rw[Nat.zero_add]);conv=>whnf))
       exact⟨_,fun k=>k,[0,3,4,5,9,10],KR,Nat.sub_lt_sub_left hi (Nat.lt_succ_self _),by subst hKR;kernel_rfl,_,rfl,Nat.le_succ_of_le hpi,hi,hz',rfl,by subst hKR;rfl⟩
     ·have t3:decide ((sw i k).num.sign=0)=false:=by rw[rat_sign0];exact decide_eq_false hz0
      have hpl:p<r:=by omega
      have hst:=step_some (r:=r) (sp:=sp) (sd:=sd) (by omega) hi (fun a h1 h2=>hz a (by omega) h2) hz0
      have hsz2:=hsz.step (k:=k) (i:=i) (Nat.lt_of_lt_of_le hlt hm) hi (by omega)
      rw[hp]at hst hsz2
      have hrd2:red2F r (k+1) ⟨w,[],1⟩=⟨clW (swapRow sw i p) p k r,sp++[k],(if i=p then sd else - sd)*swapRow sw i p p k⟩:=by rw[red2F_succ,hrd];exact hst
      have hl2:(sp++[k]).length=p+1:=by rw[List.length_append,hp];rfl
      have h4:4*(4^p*A)≤4398046511104:=by
       have h5:4^p≤1024:=Nat.pow_le_pow_right (n:=4) (by decide) (show p≤5 by omega)
       have h6:=Nat.mul_le_mul_right A h5
       omega
      have hswz:=swap_siz (i:=i) (p:=p) hsz.w hi hpl
      have hsd:=hsz.d
      simp only[hp]at hswz hsd
      have hfd:fs (if i=p then sd else - sd)+4^p*A≤4398046511104:=by
       have:fs (if i=p then sd else - sd)=fs sd:=by split<;>simp[fs_neg]
       omega
      have k4:=e_clearW (k:=k) m c p (4^p*A) (if i=p then sd else - sd) (sp.map ofN) (swapRow sw i p) hr hpl (Nat.lt_of_lt_of_le hlt hm) hc (by rw[swapRow_t];exact hz0) hswz h4 hfd
      have hmap:(sp++[k]).map ofN=List.take p (sp.map ofN)++List.take 1 (List.drop 0 [(k:Int)]):=by rw[List.map_append,List.take_of_length_le (by rw[List.length_map];exact Nat.le_of_eq hp)];rfl
      have hml:(sp.map ofN).length=p:=by rw[List.length_map];exact hp
      by_cases hip:i=p
      ·have k3:=e_swap0 i
       subst hip
       all_goals first|(exfalso;omega)|skip
       all_goals
        subst e1 e2
        simp only[if_true]at k4 hrd2 hsz2
        conv=>whnf
        (repeat((first|refine step_w1 rfl rfl ?_|refine step_oL (by first|omega|decide|(simp only[tl0,dlen,List.length_replicate,List.length_set,List.length_map,List.length_zipWith,List.length_take,List.length_append,List.length_cons,List.length_nil];omega)) ?_|refine step_oA (by first|omega|decide|(simp only[tl0,dlen,List.length_replicate,List.length_set,List.length_map,List.length_zipWith,List.length_take,List.length_append,List.length_cons,List.length_nil];omega)) ?_|refine g_c (by assumption) ?_|refine tst_ff t3 ?_|refine g_load1 rfl (ev_ok rfl) rfl (tgt rfl) rfl (Nat.succ_ne_zero _) rfl ?_|refine g_cv k3 (by repeat(first|exact WkH.nil|refine WkH.cons rfl ?_ ?_|exact WkBlk.same (fun h=>h)|exact WkBlk.same ff_imp|exact WkBlk.same (fun _=>rfl)|refine WkBlk.one (fun h=>h) ?_|refine WkBlk.one ff_imp ?_|exact WL.refl|refine WL.eq ?_|refine WL.any rfl ?_|exact WkBlk.dead)) nil_upd ?_|rw[x1]|rw[x2]|rw[Int.toNat_natCast]|rw[Nat.zero_add]);conv=>whnf))
        refine SWx_go hE ?_
        conv=>whnf
        (repeat((first|refine step_oA (by first|omega|decide|(simp only[tl0,dlen,List.length_replicate,List.length_set,List.length_map,List.length_zipWith,List.length_take,List.length_append,List.length_cons,List.length_nil];omega)) ?_|refine g_cv k4 (by repeat(first|exact WkH.nil|refine WkH.cons rfl ?_ ?_|exact WkBlk.same (fun h=>h)|exact WkBlk.same ff_imp|exact WkBlk.same (fun _=>rfl)|refine WkBlk.one (fun h=>h) ?_|refine WkBlk.one ff_imp ?_|exact WL.refl|refine WL.eq ?_|refine WL.any rfl ?_|exact WkBlk.dead)) (updB_spec rfl rfl) ?_|rw[t2]|rw[Nat.zero_add]);conv=>whnf))
        exact⟨_,fun q=>cond (Nat.beq q 55) 1003 q,[0,9,10],K5,Nat.sub_lt_sub_left hlt (Nat.lt_succ_self _),by subst hK5;kernel_rfl,_,_,_,_,_,rfl,hlt,hrd2,hsz2,hl2,hpl,rfl,by unfold hpR;rw[hmap];subst hK5;rfl⟩
      ·have k3:=e_swap m c p sd (sp.map ofN) (rowsM c sw) hr hi (show p<i by omega)
       obtain⟨σ,hσ⟩:∃f:Nat→Nat,f=fun q=>cond (Nat.beq q (1010+i)) (1010+p) (cond (Nat.beq q (1010+p)) (1010+i) q):=⟨_,rfl⟩
       simp only[if_neg hip]at k4 hrd2 hsz2
       subst e1 e2
       rcases hid with e3|e3|e3|e3|e3|e3|e3
       all_goals first|omega|skip
       all_goals
        subst e3
        conv=>whnf
        (repeat((first|refine step_w1 rfl rfl ?_|refine step_oL (by first|omega|decide|(simp only[tl0,dlen,List.length_replicate,List.length_set,List.length_map,List.length_zipWith,List.length_take,List.length_append,List.length_cons,List.length_nil];omega)) ?_|refine step_oA (by first|omega|decide|(simp only[tl0,dlen,List.length_replicate,List.length_set,List.length_map,List.length_zipWith,List.length_take,List.length_append,List.length_cons,List.length_nil];omega)) ?_|refine g_c (by assumption) ?_|refine tst_ff t3 ?_|refine g_load1 rfl (ev_ok rfl) rfl (tgt rfl) rfl (Nat.succ_ne_zero _) rfl ?_|refine g_cv k3 (by repeat(first|exact WkH.nil|refine WkH.cons rfl ?_ ?_|exact WkBlk.same (fun h=>h)|exact WkBlk.same ff_imp|exact WkBlk.same (fun _=>rfl)|refine WkBlk.one (fun h=>h) ?_|refine WkBlk.one ff_imp ?_|exact WL.refl|refine WL.eq ?_|refine WL.any rfl ?_|exact WkBlk.dead)) (updB_spec rfl rfl) ?_|rw[x1]|rw[x2]|rw[Int.toNat_natCast]|rw[Nat.zero_add]);conv=>whnf))
        refine SWx_norm hE σ [0,3,4,9,10] KR (by subst hσ hKR;kernel_rfl) ?_
        subst hσ hKR
        refine SWx_go hE ?_
        conv=>whnf
        (repeat((first|refine step_oA (by first|omega|decide|(simp only[tl0,dlen,List.length_replicate,List.length_set,List.length_map,List.length_zipWith,List.length_take,List.length_append,List.length_cons,List.length_nil];omega)) ?_|refine g_cv k4 (by repeat(first|exact WkH.nil|refine WkH.cons rfl ?_ ?_|exact WkBlk.same (fun h=>h)|exact WkBlk.same ff_imp|exact WkBlk.same (fun _=>rfl)|refine WkBlk.one (fun h=>h) ?_|refine WkBlk.one ff_imp ?_|exact WL.refl|refine WL.eq ?_|refine WL.any rfl ?_|exact WkBlk.dead)) (updB_spec rfl rfl) ?_|refine And.intro ⟨Nat.le_of_eq hml.symm,Nat.le_refl _,Nat.le_of_ble_eq_true rfl,Nat.le_of_ble_eq_true rfl⟩ ?_|rw[t2]|rw[Nat.zero_add]);conv=>whnf))
        exact⟨_,fun q=>cond (Nat.beq q 55) 1003 q,[0,9,10],K5,Nat.sub_lt_sub_left hlt (Nat.lt_succ_self _),by subst hK5;kernel_rfl,_,_,_,_,_,rfl,hlt,hrd2,hsz2,hl2,hpl,rfl,by unfold hpR;rw[hmap];subst hK5;rfl⟩
    ·obtain rfl:i=r:=by omega
     have hst:=step_none (r:=i) (k:=k) (sw:=sw) (sp:=sp) (sd:=sd) (by omega) fun a h1 h2=>hz a (by omega) h2
     have hrd2:red2F i (k+1) ⟨w,[],1⟩=⟨sw,sp,sd⟩:=by rw[red2F_succ,hrd];exact hst
     subst e1 e2
     conv=>whnf
     (repeat(first|(refine step_w2 rfl rfl ?_;conv=>whnf)|(rw[t2];conv=>whnf)|(rw[Nat.zero_add];conv=>whnf)))
     exact⟨_,fun k=>k,[0,9,10],KR,Nat.sub_lt_sub_left hlt (Nat.lt_succ_self _),by subst hKR;kernel_rfl,_,_,sw,sp,sd,rfl,hlt,hrd2,hsz,hp,hpr,rfl,by subst hKR;rfl⟩
  ·obtain rfl:k=m:=by omega
   have t1:=dge hlt
   have hss:s=⟨sw,sp,sd⟩:=by rw[←hs];exact hrd
   subst hss hp
   rw[e1]
   conv=>whnf
   (repeat(first|(refine tst_ff t1 ?_;conv=>whnf)))
   subst e1
   exact⟨Recast.refl _,by repeat(first|exact get_nil|refine get_cons rfl ?_),by repeat(first|exact get_nil|refine get_cons rfl ?_)⟩
end Go.Proofs.YtfjhnollamkdcaaGreatDoor
