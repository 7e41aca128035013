/- The texts Me. -/
import Derived.Test.YtfjhnollamkdcaaGreatDoorQsA8
namespace Go.Proofs.YtfjhnollamkdcaaGreatDoor
open Go.Sx
set_option linter.unusedSimpArgs false
set_option linter.unusedVariables false
set_option maxRecDepth 100000
set_option maxHeartbeats 40000000
def A1 (X:Mx) (t f:Nat) (c:Rat) (q:Nat):Mx:=fun a l=>if a=t∧l<q then X a l+c*X f l else X a l
def A2 (X:Mx) (t f:Nat) (c:Rat) (k:Nat):Mx:=fun a l=>if l=t∧a<k then X a l+c*X a f else X a l
theorem A1_zero (X:Mx) (t f:Nat) (c:Rat):A1 X t f c 0=X:=by funext a l;unfold A1;rw[if_neg (by omega)]
theorem A2_zero (X:Mx) (t f:Nat) (c:Rat):A2 X t f c 0=X:=by funext a l;unfold A2;rw[if_neg (by omega)]
theorem A1_at (X:Mx) (t f q a:Nat) (c:Rat):A1 X t f c q a q=X a q:=by unfold A1;rw[if_neg (by omega)]
theorem A2_at (X:Mx) (t f k l:Nat) (c:Rat):A2 X t f c k k l=X k l:=by unfold A2;rw[if_neg (by omega)]
theorem A1_step (X:Mx) (t f q:Nat) (c:Rat):putX (A1 X t f c q) t q (A1 X t f c q t q+c*A1 X t f c q f q)=A1 X t f c (q+1):=by
 funext a l
 rw[A1_at,A1_at]
 unfold putX A1
 by_cases e:a=t∧l=q
 ·rw[if_pos e,if_pos (by omega),e.1,e.2]
 ·rw[if_neg e]
  by_cases g:a=t∧l<q
  ·rw[if_pos g,if_pos (by omega)]
  ·rw[if_neg g,if_neg (by omega)]
theorem A2_step (X:Mx) (t f k:Nat) (c:Rat):putX (A2 X t f c k) k t (A2 X t f c k k t+c*A2 X t f c k k f)=A2 X t f c (k+1):=by
 funext a l
 rw[A2_at,A2_at]
 unfold putX A2
 by_cases e:a=k∧l=t
 ·rw[if_pos e,if_pos (by omega),e.1,e.2]
 ·rw[if_neg e]
  by_cases g:l=t∧a<k
  ·rw[if_pos g,if_pos (by omega)]
  ·rw[if_neg g,if_neg (by omega)]
theorem A12_addM {n t f:Nat} {X:Mx} {c:Rat} (hne:t≠f):∀a l,a<n→l<n→t<n→f<n→A2 (A1 X t f c n) t f c n a l=addM X t f c a l:=by
 intro a l ha hl ht hf
 unfold A2 A1 addM
 by_cases h1:a=t
 ·by_cases h2:l=t
  ·rw[if_pos ⟨h2,ha⟩,if_pos ⟨h1,hl⟩,if_pos ⟨h1,hf⟩,if_pos h1,if_pos h2,if_pos h1,if_pos h2];subst h1 h2;grind
  ·rw[if_neg (by omega),if_pos ⟨h1,hl⟩,if_pos h1,if_neg h2,if_pos h1,if_neg h2];grind
 ·by_cases h2:l=t
  ·rw[if_pos ⟨h2,ha⟩,if_neg (by omega),if_neg (by omega),if_neg h1,if_pos h2,if_neg h1];grind
  ·rw[if_neg (by omega),if_neg (by omega),if_neg h1,if_neg h2,if_neg h1];grind
theorem rowsM_congr {n a:Nat} {X Y:Mx} (h:∀l,l<n→X a l=Y a l):rowsM n X a=rowsM n Y a:=List.map_congr_left fun l hl=>h l (List.mem_range.1 hl)
theorem rowsS_congr {r n:Nat} {X Y:Mx} (h:∀a l,a<r→l<n→X a l=Y a l):rowsS r n X=rowsS r n Y:=rowsE_congr r 0 fun a _ h2=>rowsM_congr fun l hl=>h a l (by omega) hl
theorem hpS_congr {r n:Nat} {X Y:Mx} (h:∀a l,a<r→l<n→X a l=Y a l):hpS r n X=hpS r n Y:=by unfold hpS;rw[rowsS_congr h]
theorem A1_siz {n A C q:Nat} {X:Mx} {t f:Nat} {c:Rat} (hA:∀a q,a<n→q<n→fs (X a q)≤A) (hC:fs c≤C) (hf:f<n):∀a l,a<n→l<n→fs (A1 X t f c q a l)≤2*A+C:=by
 intro a l ha hl
 unfold A1
 split
 ·have h1:=fs_add (X a l) (c*X f l)
  have h2:=fs_mul c (X f l)
  have h3:=hA a l ha hl
  have h4:=hA f l hf hl
  omega
 ·have h3:=hA a l ha hl;omega
theorem addM_siz {n A C:Nat} {X:Mx} {t f:Nat} {c:Rat} (hA:∀a q,a<n→q<n→fs (X a q)≤A) (hC:fs c≤C) (ht:t<n) (hf:f<n) (hne:t≠f):∀a l,a<n→l<n→fs (addM X t f c a l)≤4*A+3*C:=by
 intro a l ha hl
 rw[←A12_addM hne a l ha hl ht hf]
 unfold A2
 have h5:=A1_siz (q:=n) (t:=t) hA hC hf a l ha hl
 split
 ·have h1:=fs_add (A1 X t f c n a l) (c*A1 X t f c n a f)
  have h2:=fs_mul c (A1 X t f c n a f)
  have h3:=A1_siz (q:=n) (t:=t) hA hC hf a f ha hf
  omega
 ·omega
theorem m_add {r n t f:Nat} (A C:Nat) (X:Mx) (c:Rat) (hrn:r=n) (hr:r≤6) (ht:t<n) (hf:f<n) (hne:t≠f) (hA:∀a q,a<n→q<n→fs (X a q)≤A) (hC:fs c≤C) (hH:4*A+3*C≤4398046511104):
  CallOK Tryz.prog 139 [.ptr 1001 0 0 0,iv t,iv f,.frac c] (hpS r n X) (.tup []) [] (hpS r n (addM X t f c)):=by
 rw[←hpS_congr (r:=r) (n:=n) (X:=A2 (A1 X t f c n) t f c n) fun a l ha hl=>A12_addM hne a l (by omega) hl ht hf]
 obtain⟨KR,hKR⟩:∃K,K=1001::1002::(List.range r).map fun j=>1010+j:=⟨_,rfl⟩
 have hs1:=sub_cells (r:=r) (n:=n) (j:=t) (by omega) (by omega)
 have hs2:=sub_cells (r:=r) (n:=n) (j:=f) (by omega) (by omega)
 have htr:t<r:=by omega
 have hfr:f<r:=by omega
 have hz:=fun q=>A1_siz (n:=n) (t:=t) (f:=f) (q:=q) hA hC hf
 rcases(show r=1∨r=2∨r=3∨r=4∨r=5∨r=6 by omega)with e1|e1|e1|e1|e1|e1
 all_goals
  rw[e1]
  rw[e1]at hs1 hs2
  refine callI (Z:=[7,700026,700035,700038,700055,700064,700067]) tabOK mixedOK Tryz.func139 rfl (by kernel_rfl) (ShapeOK.of rfl rfl rfl rfl rfl rfl rfl rfl rfl rfl rfl) rfl ?_
  intro W0 w0 ρ0 hE
  conv=>whnf
  (repeat(first|(refine g_o (op_makeFunc rfl rfl rfl) ?_;conv=>whnf)|(rw[Nat.zero_add];conv=>whnf)))
  refine SW_loopN hE (fun k=>k) [0,1,2,8,15,16] KR (fun m' fr hp=>∃q:Nat,m'=n - q∧q≤n∧fr=[(0,.ptr 1001 0 0 0),(1,iv t),(2,iv f),(8,.clo 188 [] [ptrA [.frac c]]),(15,iv n),(16,iv q)]∧hp=hpS r n (A1 X t f c q)) n ?_ ?_ ?_
  ·subst e1 hKR;kernel_rfl
  ·exact⟨0,rfl,Nat.zero_le _,rfl,by rw[A1_zero];subst e1 hKR;rfl⟩
  rintro m' _ _ ⟨q,rfl,hq,rfl,rfl⟩
  by_cases hlt:q<n
  ·have t1:=dlt hlt
   have t2:=winc (i:=q) (by omega)
   have hy:=hz q f q hf hlt
   have kc:=m_comb (A1 X t f c q) c (A1 X t f c q f q) htr hlt (by have:=hz q t q ht hlt;omega)
   rw[A1_step]at kc
   have hfd:=fun j=>find_hpS (r:=r) (n:=n) (j:=j) (X:=A1 X t f c q)
   have hf2:=hfr
   rw[e1]at kc hfd hf2
   rw[e1]
   conv=>whnf
   (repeat(first|(refine step_i (by kernel_rfl) ?_;conv=>whnf)|(refine step_oA (by first|omega|decide|(simp only[tl0,dlen,List.length_replicate,List.length_set,List.length_map,List.length_zipWith,List.length_take,List.length_append,List.length_cons,List.length_nil];omega)) ?_;conv=>whnf)|(refine g_c1u (by assumption) rfl rfl ?_;conv=>whnf)|(refine⟨[_,_],_,[],[_,_],(by assumption),two_fk rfl rfl,nil_new,two_upd (List.mem_cons_self ..) rfl rfl rfl (List.mem_cons_of_mem _ (List.mem_cons_self ..)) rfl rfl rfl, ?_⟩;conv=>whnf)|(refine tst_tt t1 ?_;conv=>whnf)|(refine g_load1 rfl (ev_ok rfl) rfl (tgt rfl) hs1 (Nat.succ_ne_zero _) rfl ?_;conv=>whnf)|(refine g_load1 rfl (ev_ok rfl) rfl (tgt rfl) hs2 (Nat.succ_ne_zero _) rfl ?_;conv=>whnf)|(refine g_loadR rfl (ev_ok rfl) (hfd f hf2) (tgt rfl) (by rw[rwL_len];omega) (rwL_get (by omega)) rfl (Nat.succ_ne_zero _) rfl ?_;conv=>whnf)|(refine⟨_,_,[],_,kc,fk_rows hfd,nil_new,upd_rows, ?_⟩;conv=>whnf)|(rw[t1];conv=>whnf)|(rw[t2];conv=>whnf)|(rw[Int.toNat_natCast];conv=>whnf)|(rw[Nat.zero_add];conv=>whnf)))
   exact⟨n - (q+1),fun k=>k,[0,1,2,8,15,16],KR,by omega,by subst e1 hKR;kernel_rfl,q+1,rfl,hlt,rfl,by subst e1 hKR;rfl⟩
  ·have t1:=dge hlt
   obtain rfl:q=n:=by omega
   rw[e1]
   conv=>whnf
   (repeat(first|(refine tst_ff t1 ?_;conv=>whnf)|(rw[t1];conv=>whnf)|(rw[Nat.zero_add];conv=>whnf)))
   refine SW_loopN hE (fun k=>k) [0,1,2,8,44,45] KR (fun m' fr hp=>∃k:Nat,m'=q - k∧k≤q∧fr=[(0,.ptr 1001 0 0 0),(1,iv t),(2,iv f),(8,.clo 188 [] [ptrA [.frac c]]),(44,iv q),(45,iv k)]∧hp=hpS r q (A2 (A1 X t f c q) t f c k)) q ?_ ?_ ?_
   ·subst e1 hKR;kernel_rfl
   ·exact⟨0,rfl,Nat.zero_le _,rfl,by rw[A2_zero];subst e1 hKR;rfl⟩
   rintro m' _ _ ⟨k,rfl,hk,rfl,rfl⟩
   by_cases hlk:k<q
   ·have t3:=dlt hlk
    have t2:=winc (i:=k) (by omega)
    have hkr:=Nat.lt_of_lt_of_eq hlk hrn.symm
    have hs3:=sub_cells (n:=q) (by omega) hkr
    have kc:=m_comb (A2 (A1 X t f c q) t f c k) c (A2 (A1 X t f c q) t f c k k f) hkr ht (by rw[A2_at,A2_at];have h1:=hz q k t hlk ht;have h2:=hz q k f hlk hf;omega)
    rw[A2_step]at kc
    have hfd:=fun j=>find_hpS (r:=r) (n:=q) (j:=j) (X:=A2 (A1 X t f c q) t f c k)
    rw[e1]at kc hfd hkr hs3
    rw[e1]
    conv=>whnf
    (repeat(first|(refine step_i (by kernel_rfl) ?_;conv=>whnf)|(refine step_oA (by first|omega|decide|(simp only[tl0,dlen,List.length_replicate,List.length_set,List.length_map,List.length_zipWith,List.length_take,List.length_append,List.length_cons,List.length_nil];omega)) ?_;conv=>whnf)|(refine g_c1u (by assumption) rfl rfl ?_;conv=>whnf)|(refine⟨[_,_],_,[],[_,_],(by assumption),two_fk rfl rfl,nil_new,two_upd (List.mem_cons_self ..) rfl rfl rfl (List.mem_cons_of_mem _ (List.mem_cons_self ..)) rfl rfl rfl, ?_⟩;conv=>whnf)|(refine tst_tt t3 ?_;conv=>whnf)|(refine g_load1 rfl (ev_ok rfl) rfl (tgt rfl) hs3 (Nat.succ_ne_zero _) rfl ?_;conv=>whnf)|(refine g_loadR rfl (ev_ok rfl) (hfd k hkr) (tgt rfl) (by rw[rwL_len];omega) (rwL_get (by omega)) rfl (Nat.succ_ne_zero _) rfl ?_;conv=>whnf)|(refine⟨_,_,[],_,kc,fk_rows hfd,nil_new,upd_rows, ?_⟩;conv=>whnf)|(rw[t3];conv=>whnf)|(rw[t2];conv=>whnf)|(rw[Int.toNat_natCast];conv=>whnf)|(rw[Nat.zero_add];conv=>whnf)))
    exact⟨q - (k+1),fun k=>k,[0,1,2,8,44,45],KR,by omega,by subst e1 hKR;kernel_rfl,k+1,rfl,hlk,rfl,by subst e1 hKR;rfl⟩
   ·have t3:=dge hlk
    obtain rfl:k=q:=by omega
    rw[e1]
    conv=>whnf
    (repeat(first|(refine tst_ff t3 ?_;conv=>whnf)))
    exact⟨Recast.refl _,get_nil,by repeat(first|exact get_nil|refine get_cons rfl ?_)⟩
end Go.Proofs.YtfjhnollamkdcaaGreatDoor
