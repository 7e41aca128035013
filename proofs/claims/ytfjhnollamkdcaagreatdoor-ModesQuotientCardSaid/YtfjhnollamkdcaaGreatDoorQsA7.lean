/- The texts Qg. -/
import Derived.Test.YtfjhnollamkdcaaGreatDoorQsA6
namespace Go.Proofs.YtfjhnollamkdcaaGreatDoor
open Go.Sx
set_option linter.unusedSimpArgs false
set_option linter.unusedVariables false
set_option maxRecDepth 100000
set_option maxHeartbeats 40000000
def rwL (c:Nat) (f:Nat→Rat):List Rat:=(List.range c).map f
theorem rwL_len (c:Nat) (f:Nat→Rat):(rwL c f).length=c:=by simp[rwL]
theorem rwL_get {c k:Nat} {f:Nat→Rat} (h:k<c):(rwL c f).getD k 0=f k:=by simp[rwL,List.getD_eq_getElem?_getD,h]
def clW (w:Mx) (top k m:Nat):Mx:=fun a q=>if a=top then w top q/w top k else if a<m then w a q - w a k*(w top q/w top k)else w a q
theorem clW_top (w:Mx) (top k m:Nat):clW w top k m top=fun q=>w top q/w top k:=by funext q;exact if_pos rfl
theorem clW_at (w:Mx) {top k m:Nat} (h:m≠top):clW w top k m m=w m:=by funext q;unfold clW;rw[if_neg h,if_neg (Nat.lt_irrefl _)]
theorem clW_zero (w:Mx) {top k m:Nat} (h:m=top∨w m k=0):clW w top k m=clW w top k (m+1):=by
 funext a q
 unfold clW
 by_cases e:a=top
 ·rw[if_pos e,if_pos e]
 ·rw[if_neg e,if_neg e]
  by_cases g:a<m
  ·rw[if_pos g,if_pos (by omega)]
  ·rw[if_neg g]
   by_cases g2:a<m+1
   ·obtain rfl:a=m:=by omega
    rw[if_pos g2]
    rcases h with h|h
    ·exact absurd h e
    ·rw[h];grind
   ·rw[if_neg g2]
theorem clW_end (w:Mx) {top k r a:Nat} (h:a<r):clW w top k r a=clearM w top k a:=by
 funext q
 unfold clW clearM
 by_cases e:a=top
 ·rw[if_pos e,if_pos e]
 ·rw[if_neg e,if_neg e,if_pos h]
abbrev rowsM (c:Nat) (w:Mx):Nat→List Rat:=fun a=>rwL c (w a)
def cellV (j x c key:Nat):SV:=if j=x then .slc key 5 0 c else .any
def vA (i x c key:Nat):List SV:=(List.range i).map fun j=>cellV j x c key
def vB (r i x c key:Nat):List SV:=(List.range (r - i - 1)).map fun j=>cellV (i+1+j) x c key
theorem vA_w {i x c key:Nat}:∀a∈vA i x c key,a.width=1:=by
 intro a h
 simp only[vA,List.mem_map]at h
 obtain⟨j,_,rfl⟩:=h
 unfold cellV;split<;>rfl
theorem rat_sign0 {q:Rat}:(decide (q.num.sign=0))=decide (q=0):=by
 by_cases h:q=0
 ·subst h;rfl
 ·rw[decide_eq_false h,decide_eq_false]
  intro e
  exact h (Rat.num_eq_zero.1 (Int.sign_eq_zero_iff_zero.1 e))
theorem rowsE_congr {b:Nat→Bool} {M M':Nat→List Rat}:∀(n i:Nat),(∀a,i≤a→a<i+n→M a=M' a)→rowsE b M n i=rowsE b M' n i
 |0,_,_=>rfl
 |n+1,i,h=>by rw[rowsE,rowsE,h i (Nat.le_refl _) (by omega),rowsE_congr n (i+1) fun a h1 h2=>h a (by omega) (by omega)]
abbrev keysE (r:Nat):List Nat:=3::1001::1002::1003::(List.range r).map fun j=>1010+j
abbrev bxB:Blk:=⟨163,true,.one [.ptr 1001 0 0 0]⟩
theorem e_clearW {r top k:Nat} (m c p A:Nat) (d:Rat) (pv:List Int) (w:Mx) (hr:r≤6) (ht:top<r) (hk:k<c) (hc:c≤4096) (h0:w top k≠0) (hA:∀a q,a<r→q<c→fs (w a q)≤A) (hA2:4*A≤4398046511104) (hd:fs d+A≤4398046511104):
  CallOK Tryz.prog 164 [.ptr 1001 0 0 0,iv top,iv k] (hpE true false false (fun _=>true) r m c p d pv (rowsM c w)) (.tup []) []
   ((1001,wkB true r m p (d*w top k))::rowsE (fun _=>true) (rowsM c (clW w top k r)) r 0):=by
 obtain⟨KS,hKS⟩:∃K,K=keysE r:=⟨_,rfl⟩
 have k1:=x_Mul d (w top k) (by have:=hA top k ht hk;omega)
 have g1:(rowsM c w top).getD k 0=w top k:=rwL_get hk
 have g2:(rowsM c w top).length=c:=rwL_len _ _
 have f1:∀q,q<c→CallOK Tryz.prog 199 ([]++([iv (q:Nat),.frac ((rowsM c w top).getD q 0)]++[.ptr 1006 0 0 0])) [(1006,qB (w top k))] (.frac (w top q/w top k)) [] []:=fun q hq=>by
  rw[show(rowsM c w top).getD q 0=w top q from rwL_get hq]
  exact e_clear1 q (w top q) (w top k) h0 (by have:=hA top k ht hk;have:=hA top q ht hq;omega)
 rcases(show r=1∨r=2∨r=3∨r=4∨r=5∨r=6 by omega)with e1|e1|e1|e1|e1|e1
 all_goals rcases(show top=0∨top=1∨top=2∨top=3∨top=4∨top=5 by omega)with e2|e2|e2|e2|e2|e2
 all_goals first|omega|skip
 all_goals
  have each1:=e_each1 (r:=r) (i:=top) (vA top 9 c 0) (vB r top 9 c 0) m c (d*w top k) (w top k) (rowsM c w top) _ _ (by rw[e2];rfl) vA_w (by omega) (by omega) hc (rwL_len _ _) (by rw[e1,e2];rfl) f1 (renBy [(1010,1010+top),(1006,6)]) (NamesOK.of (by rw[e1,e2];rfl))
  rw[e1,e2]at each1
  rw[e2]at g1 g2 k1
  rw[e1,e2]
  refine callI (Z:=[4]) tabOK mixedOK Tryz.func164 rfl (by kernel_rfl) (ShapeOK.of rfl rfl rfl rfl rfl rfl rfl rfl rfl rfl rfl) rfl ?_
  intro W0 w0 ρ0 hE
  conv=>whnf
  (repeat((first|refine step_i (by kernel_rfl) ?_|refine step_oL (by first|omega|decide|(simp only[tl0,dlen,List.length_replicate,List.length_set,List.length_map,List.length_zipWith,List.length_take,List.length_append,List.length_cons,List.length_nil];omega)) ?_|refine step_oA (by first|omega|decide|(simp only[tl0,dlen,List.length_replicate,List.length_set,List.length_map,List.length_zipWith,List.length_take,List.length_append,List.length_cons,List.length_nil];omega)) ?_|refine g_c (by assumption) ?_|refine g_o (op_loadA rfl (ev_ok rfl) (tgt rfl) rfl (Nat.succ_ne_zero _) rfl) ?_|refine g_o (op_makeFunc rfl rfl rfl) ?_|refine g_load1 rfl (ev_ok rfl) rfl (tgt rfl) rfl (Nat.succ_ne_zero _) rfl ?_|refine g_cv each1 (by repeat(first|exact WkH.nil|refine WkH.cons rfl ?_ ?_|exact WkBlk.same (fun h=>h)|exact WkBlk.same ff_imp|exact WkBlk.same (fun _=>rfl)|refine WkBlk.one (fun h=>h) ?_|refine WkBlk.one ff_imp ?_|exact WL.refl|refine WL.eq ?_|refine WL.any rfl ?_|exact WkBlk.dead)) (updB_spec rfl rfl) ?_|rw[g1]|rw[g2]|rw[Int.toNat_natCast]|rw[Nat.zero_add]);conv=>whnf))
  refine SW_loopN hE (fun k=>k) [2,3,4,36,37] KS (fun m' fr hp=>∃i:Nat,m'=r - i∧i≤r∧fr=[(2,iv k),(3,.ptr 3 0 0 0),(4,ptrA [iv top]),(36,iv r),(37,iv i)]∧hp=(3,bxB)::hpE true false false (fun _=>true) r m c p (d*w top k) pv (rowsM c (clW w top k i))) r ?_ ?_ ?_
  ·subst e1 e2 hKS;kernel_rfl
  ·exact⟨0,rfl,Nat.zero_le _,by subst e1 e2;rfl,by subst e1 e2 hKS;rfl⟩
  rintro m' _ _ ⟨i,rfl,hi,rfl,rfl⟩
  by_cases hlt:i<r
  ·have x1:(rowsM c (clW w top k i) i).length=c:=rwL_len _ _
   have hid:i=0∨i=1∨i=2∨i=3∨i=4∨i=5:=by omega
   by_cases hit:i=top
   ·have hz:=clW_zero w (k:=k) (.inl hit)
    subst hit
    subst e2
    subst e1
    conv=>whnf
    (repeat((first|refine step_w1 rfl rfl ?_|refine step_w2 rfl rfl ?_|refine step_oL (by first|omega|decide|(simp only[tl0,dlen,List.length_replicate,List.length_set,List.length_map,List.length_zipWith,List.length_take,List.length_append,List.length_cons,List.length_nil];omega)) ?_|refine step_oA (by first|omega|decide|(simp only[tl0,dlen,List.length_replicate,List.length_set,List.length_map,List.length_zipWith,List.length_take,List.length_append,List.length_cons,List.length_nil];omega)) ?_|refine g_o (op_pickT rfl (ev_ok rfl) (ev_ok rfl)) ?_|rw[beq_self_eq_true]|refine g_o (op_loadA rfl (ev_ok rfl) (tgt rfl) rfl (Nat.succ_ne_zero _) rfl) ?_|refine g_load1 rfl (ev_ok rfl) rfl (tgt rfl) rfl (Nat.succ_ne_zero _) rfl ?_|rw[x1]|rw[Int.toNat_natCast]|rw[Nat.zero_add]);conv=>whnf))
    exact⟨_,fun k=>k,[2,3,4,36,37],KS,Nat.sub_lt_sub_left hlt (Nat.lt_succ_self _),by subst hKS;kernel_rfl,_,rfl,hlt,rfl,by rw[←hz];subst hKS;rfl⟩
   ·have x2:(rowsM c (clW w top k i) i).getD k 0=w i k:=by rw[show rowsM c (clW w top k i) i=rwL c (w i)from congrArg (rwL c) (clW_at w hit)];exact rwL_get hk
    have k2:=c_fSign (w i k)
    by_cases hz0:w i k=0
    ·have hz:=clW_zero w (k:=k) (m:=i) (top:=top) (.inr hz0)
     have t1:decide ((w i k).num.sign=0)=true:=by rw[rat_sign0];exact decide_eq_true hz0
     subst e1 e2
     rcases hid with e3|e3|e3|e3|e3|e3
     all_goals first|omega|skip
     all_goals
      subst e3
      conv=>whnf
      (repeat((first|refine step_w1 rfl rfl ?_|refine step_oL (by first|omega|decide|(simp only[tl0,dlen,List.length_replicate,List.length_set,List.length_map,List.length_zipWith,List.length_take,List.length_append,List.length_cons,List.length_nil];omega)) ?_|refine step_oA (by first|omega|decide|(simp only[tl0,dlen,List.length_replicate,List.length_set,List.length_map,List.length_zipWith,List.length_take,List.length_append,List.length_cons,List.length_nil];omega)) ?_|refine g_c (by assumption) ?_|refine g_o (op_pickF rfl (ev_ok rfl) (ev_ok rfl)) ?_|refine tst_tt t1 ?_|refine g_o (op_loadA rfl (ev_ok rfl) (tgt rfl) rfl (Nat.succ_ne_zero _) rfl) ?_|refine g_load1 rfl (ev_ok rfl) rfl (tgt rfl) rfl (Nat.succ_ne_zero _) rfl ?_|rw[x1]|rw[x2]|rw[Int.toNat_natCast]|rw[Nat.zero_add]);conv=>whnf))
      exact⟨_,fun k=>k,[2,3,4,36,37],KS,Nat.sub_lt_sub_left hlt (Nat.lt_succ_self _),by subst hKS;kernel_rfl,_,rfl,hlt,rfl,by rw[←hz];subst hKS;rfl⟩
    ·have t1:decide ((w i k).num.sign=0)=false:=by rw[rat_sign0];exact decide_eq_false hz0
     have each2:=e_each2 (r:=r) (i:=i) (top:=top) (vA i top c 1011) (vB r i top c 1011) m c (d*w top k) (w i k) (rowsM c (clW w top k i) i) (rowsM c (clW w top k i) top) (clW w top k (i+1) i) 200 (by simp[vA]) vA_w (by omega) hlt hc (rwL_len _ _)
      (by subst e1 e2;rcases hid with e|e|e|e|e|e<;>subst e<;>first|omega|rfl)
      (fun q o hq=>by
       have hy1:(rowsM c (clW w top k i) i).getD q 0=w i q:=by rw[show rowsM c (clW w top k i) i=rwL c (w i)from congrArg (rwL c) (clW_at w hit)];exact rwL_get hq
       have hy2:(rowsM c (clW w top k i) top).getD q 0=w top q/w top k:=by rw[show rowsM c (clW w top k i) top=rwL c (fun q=>w top q/w top k)from congrArg (rwL c) (clW_top w top k i)];exact rwL_get hq
       have hy3:clW w top k (i+1) i q=w i q - w i k*(w top q/w top k):=by unfold clW;rw[if_neg hit,if_pos (Nat.lt_succ_self _)]
       have hm:mid (vA i top c 1011) (vB r i top c 1011) c=mid2 (vA top i c 1010) (vB r top i c 1010) c:=by subst e1 e2;rcases hid with e|e|e|e|e|e<;>subst e<;>first|omega|rfl
       have hcl:=e_clear2 (r:=r) (top:=top) (k:=q) (vA top i c 1010) (vB r top i c 1010) m c A (d*w top k) (w i q) (w i k) (rowsM c (clW w top k i) top) o (by simp[vA]) vA_w (by omega) ht hq (rwL_len _ _)
        (by subst e1 e2;rcases hid with e|e|e|e|e|e<;>subst e<;>first|omega|rfl) (hA i q hlt hq) (hA i k hlt hk) (by rw[hy2];have:=fs_div (w top q) (w top k);have:=hA top q ht hq;have:=hA top k ht hk;omega) hA2
       rw[←hm,hy2]at hcl
       rw[hy1,hy3]
       exact hcl)
      (renBy [(1010,1010+i),(1011,1010+top),(1005,3),(1006,8)]) (NamesOK.of (by subst e1 e2;rcases hid with e|e|e|e|e|e<;>subst e<;>first|omega|rfl))
     subst e1 e2
     rcases hid with e3|e3|e3|e3|e3|e3
     all_goals first|omega|skip
     all_goals
      subst e3
      conv=>whnf
      (repeat((first|refine step_w1 rfl rfl ?_|refine step_oL (by first|omega|decide|(simp only[tl0,dlen,List.length_replicate,List.length_set,List.length_map,List.length_zipWith,List.length_take,List.length_append,List.length_cons,List.length_nil];omega)) ?_|refine step_oA (by first|omega|decide|(simp only[tl0,dlen,List.length_replicate,List.length_set,List.length_map,List.length_zipWith,List.length_take,List.length_append,List.length_cons,List.length_nil];omega)) ?_|refine g_c (by assumption) ?_|refine g_o (op_pickF rfl (ev_ok rfl) (ev_ok rfl)) ?_|refine tst_ff t1 ?_|refine g_o (op_loadA rfl (ev_ok rfl) (tgt rfl) rfl (Nat.succ_ne_zero _) rfl) ?_|refine g_o (op_makeFunc rfl rfl rfl) ?_|refine g_load1 rfl (ev_ok rfl) rfl (tgt rfl) rfl (Nat.succ_ne_zero _) rfl ?_|refine g_cv each2 (by repeat(first|exact WkH.nil|refine WkH.cons rfl ?_ ?_|exact WkBlk.same (fun h=>h)|exact WkBlk.same ff_imp|exact WkBlk.same (fun _=>rfl)|refine WkBlk.one (fun h=>h) ?_|refine WkBlk.one ff_imp ?_|exact WL.refl|refine WL.eq ?_|refine WL.any rfl ?_|exact WkBlk.dead)) (updB_spec rfl rfl) ?_|rw[x1]|rw[x2]|rw[Int.toNat_natCast]|rw[Nat.zero_add]);conv=>whnf))
      exact⟨_,fun k=>k,[2,3,4,36,37],KS,Nat.sub_lt_sub_left hlt (Nat.lt_succ_self _),by subst hKS;kernel_rfl,_,rfl,hlt,rfl,by subst hKS;rfl⟩
  ·obtain rfl:i=r:=by omega
   subst e1 e2
   conv=>whnf
   (repeat(first|(refine step_w2 rfl rfl ?_;conv=>whnf)))
   exact⟨Recast.refl _,get_nil,by repeat(first|exact get_nil|refine get_cons rfl ?_)⟩
end Go.Proofs.YtfjhnollamkdcaaGreatDoor
