/- The texts Mh. -/
import Derived.Test.YtfjhnollamkdcaaGreatDoorQsA10
namespace Go.Proofs.YtfjhnollamkdcaaGreatDoor
open Go.Sx
set_option linter.unusedSimpArgs false
set_option linter.unusedVariables false
set_option maxRecDepth 100000
set_option maxHeartbeats 40000000
theorem fk_hpS {r n:Nat} {X:Mx} {hp:List (Nat×Blk)} (h1:find hp 1001=some (sqB r n)) (h2:find hp 1002=some (rkB true (cellsE r n))) (h:∀j,j<r→find hp (1010+j)=some (rwB true (rowsM n X j))):FkOK hp (hpS r n X):=by
 intro k b hm
 rcases List.mem_cons.1 hm with e|hm
 ·cases e;exact h1
 ·rcases List.mem_cons.1 hm with e|hm
  ·cases e;exact h2
  ·exact fk_rows h k b hm
theorem upd_hpS {r n:Nat} {X Y:Mx}:UpdOK (hpS r n X) (hpS r n Y):=by
 intro k b hm
 rcases List.mem_cons.1 hm with e|hm
 ·cases e;exact⟨_,List.mem_cons_self ..,rfl,rfl,rfl⟩
 ·rcases List.mem_cons.1 hm with e|hm
  ·cases e;exact⟨_,List.mem_cons_of_mem _ (List.mem_cons_self ..),rfl,rfl,rfl⟩
  ·obtain⟨b0,h1,h2⟩:=upd_rows k b hm
   exact⟨b0,List.mem_cons_of_mem _ (List.mem_cons_of_mem _ h1),h2⟩
theorem sign_eq {q:Rat} (h:q=0):(q.num.sign != 0)=false:=by rw[bne,sign0,decide_eq_true h];rfl
theorem sign_ne {q:Rat} (h:q≠0):(q.num.sign != 0)=true:=by rw[bne,sign0,decide_eq_false h];rfl
theorem m_pivot2 {r n i k:Nat} (A:Nat) (X Y:Mx) (d:Nat→Bool) (ri:Int) (rb:Bool) (hrn:r=n) (hr:r≤5) (hr1:1≤r) (hi:i≤n) (hA:∀a q,a<n→q<n→fs (X a q)≤A) (hH:4*A+6≤4398046511104) (h0:∀j,j<n→d j=true∨X j j=0)
  (hlex:∀j l,j<n→l<n→(j<i∨(j=i∧l<k))→d j=true∨d l=true∨X j l=0)
  (hf:i<n→k<n∧d i=false∧d k=false∧X i k≠0∧ri=i∧rb=true∧Y=addM X i k 1) (he:i=n→ri=0∧rb=false∧Y=X):
  CallOK Tryz.prog 138 [.ptr 1001 0 0 0,.slc 1003 1 0 n] (hpD r n X d) (.tup [iv ri,.val (.bool rb)]) [] (hpD r n Y d):=by
 obtain⟨KR,hKR⟩:∃K,K=1003::1001::1002::(List.range r).map fun j=>1010+j:=⟨_,rfl⟩
 have k0:CallOK Tryz.prog 26 [iv 1] [] (.frac 1) [] []:=c_fInt 1 (by decide) (by decide)
 rcases(show r=1∨r=2∨r=3∨r=4∨r=5 by omega)with e1|e1|e1|e1|e1
 all_goals
  rw[e1]
  refine callI (Z:=[700019,700028,700031,700054,700060,700070,700073]) tabOK mixedOK Tryz.func138 rfl (by kernel_rfl) (ShapeOK.of rfl rfl rfl rfl rfl rfl rfl rfl rfl rfl rfl) rfl ?_
  intro W0 w0 ρ0 hE
  conv=>whnf
  (repeat(first|(rw[Nat.zero_add];conv=>whnf)))
  refine SW_loopN hE (fun k=>k) [0,1,12,13] KR (fun m' fr hp=>∃q:Nat,m'=n - q∧q≤n∧fr=[(0,.ptr 1001 0 0 0),(1,.slc 1003 1 0 n),(12,iv n),(13,iv q)]∧hp=hpD r n X d) n ?_ ?_ ?_
  ·subst e1 hKR;kernel_rfl
  ·exact⟨0,rfl,Nat.zero_le _,rfl,by subst e1 hKR;rfl⟩
  rintro m' _ _ ⟨q,rfl,hq,rfl,rfl⟩
  by_cases hlt:q<n
  ·have t1:=dlt hlt
   have t2:=winc (i:=q) (by omega)
   have hqr:=Nat.lt_of_lt_of_eq hlt hrn.symm
   have hs:=sub_cells (n:=n) (by omega) hqr
   have hfd:=find_hpD (n:=n) (X:=X) (d:=d) hqr
   have k1:=c_fSign (X q q)
   rw[e1]at hfd hs
   rw[e1]
   cases hdq:d q with
   |true=>
    conv=>whnf
    (repeat((first|refine step_w2 rfl rfl ?_|refine step_oA (by first|omega|decide|(simp only[tl0,dlen,List.length_replicate,List.length_set,List.length_map,List.length_zipWith,List.length_take,List.length_append,List.length_cons,List.length_nil];omega)) ?_|refine g_o (op_pickF rfl (ev_ok rfl) (ev_ok rfl)) ?_|refine tst_tt t1 ?_|refine g_loadB rfl (ev_ok rfl) rfl (tgt rfl) hlt hdq rfl rfl ?_|rw[t1]|rw[t2]|rw[Int.toNat_natCast]|rw[Nat.zero_add]);conv=>whnf))
    exact⟨n - (q+1),fun k=>k,[0,1,12,13],KR,by omega,by subst e1 hKR;kernel_rfl,q+1,rfl,hlt,rfl,by subst e1 hKR;rfl⟩
   |false=>
    have t3:((X q q).num.sign != 0)=false:=sign_eq ((h0 q hlt).resolve_left (by rw[hdq];decide))
    conv=>whnf
    (repeat(first|(refine step_w1 rfl rfl ?_;conv=>whnf)|(refine step_oA (by first|omega|decide|(simp only[tl0,dlen,List.length_replicate,List.length_set,List.length_map,List.length_zipWith,List.length_take,List.length_append,List.length_cons,List.length_nil];omega)) ?_;conv=>whnf)|(refine g_c (by assumption) ?_;conv=>whnf)|(refine g_o (op_pickT rfl (ev_ok rfl) (ev_ok rfl)) ?_;conv=>whnf)|(refine tst_tt t1 ?_;conv=>whnf)|(refine tst_ff t3 ?_;conv=>whnf)|(refine g_loadB rfl (ev_ok rfl) rfl (tgt rfl) hlt hdq rfl rfl ?_;conv=>whnf)|(refine g_load1 rfl (ev_ok rfl) rfl (tgt rfl) hs (Nat.succ_ne_zero _) rfl ?_;conv=>whnf)|(refine g_loadR rfl (ev_ok rfl) hfd (tgt rfl) (by rw[rwL_len];omega) (rwL_get (by omega)) rfl (Nat.succ_ne_zero _) rfl ?_;conv=>whnf)|(rw[t1];conv=>whnf)|(rw[t2];conv=>whnf)|(rw[t3];conv=>whnf)|(rw[Int.toNat_natCast];conv=>whnf)|(rw[Nat.zero_add];conv=>whnf)))
    exact⟨n - (q+1),fun k=>k,[0,1,12,13],KR,by omega,by subst e1 hKR;kernel_rfl,q+1,rfl,hlt,rfl,by subst e1 hKR;rfl⟩
  have t1:=dge hlt
  rw[e1]
  conv=>whnf
  (repeat(first|(refine tst_ff t1 ?_;conv=>whnf)|(rw[t1];conv=>whnf)|(rw[Nat.zero_add];conv=>whnf)))
  clear t1 hlt hq
  refine SW_loopN hE (fun k=>k) [0,1,40,41] KR (fun m' fr hp=>∃q:Nat,m'=n - q∧q≤i∧fr=[(0,.ptr 1001 0 0 0),(1,.slc 1003 1 0 n),(40,iv n),(41,iv q)]∧hp=hpD r n X d) n ?_ ?_ ?_
  ·subst e1 hKR;kernel_rfl
  ·exact⟨0,rfl,Nat.zero_le _,rfl,by subst e1 hKR;rfl⟩
  clear q
  rintro m' _ _ ⟨q,rfl,hq,rfl,rfl⟩
  by_cases hlt:q<n
  ·have t1:=dlt hlt
   have t2:=winc (i:=q) (by omega)
   have hqr:=Nat.lt_of_lt_of_eq hlt hrn.symm
   have hs:=sub_cells (n:=n) (by omega) hqr
   have hfd:=find_hpD (n:=n) (X:=X) (d:=d) hqr
   rw[e1]at hfd hs
   rw[e1]
   conv=>whnf
   (repeat(first|(refine tst_tt t1 ?_;conv=>whnf)|(rw[t1];conv=>whnf)|(rw[Nat.zero_add];conv=>whnf)))
   refine SW_loopN hE (fun k=>k) [0,1,7,40,41,47,48] KR (fun m' fr hp=>∃l:Nat,m'=n - l∧l≤n∧(q=i→l≤k)∧fr=[(0,.ptr 1001 0 0 0),(1,.slc 1003 1 0 n),(7,iv q),(40,iv n),(41,iv q),(47,iv n),(48,iv l)]∧hp=hpD r n X d) n ?_ ?_ ?_
   ·subst e1 hKR;kernel_rfl
   ·exact⟨0,rfl,Nat.zero_le _,fun _=>Nat.zero_le _,rfl,by subst e1 hKR;rfl⟩
   rintro m' _ _ ⟨l,rfl,hl,hlk,rfl,rfl⟩
   by_cases hln:l<n
   ·have t4:=dlt hln
    have t5:=winc (i:=l) (by omega)
    have k1:=c_fSign (X q l)
    by_cases hxx:d q=false∧d l=false∧X q l≠0
    ·obtain⟨x1,x2,x3⟩:=hxx
     have hqi:q=i:=by
      rcases Nat.lt_or_ge q i with g|g
      ·rcases hlex q l hlt hln (.inl g)with y|y|y
       ·rw[y]at x1;cases x1
       ·rw[y]at x2;cases x2
       ·exact absurd y x3
      ·omega
     have hlk2:l=k:=by
      rcases Nat.lt_or_ge l k with g|g
      ·rcases hlex q l hlt hln (.inr ⟨hqi,g⟩)with y|y|y
       ·rw[y]at x1;cases x1
       ·rw[y]at x2;cases x2
       ·exact absurd y x3
      ·have:=hlk hqi;omega
     subst hqi hlk2
     obtain⟨_,_,_,_,f5,f6,f7⟩:=hf hlt
     have hne:q≠l:=fun e=>by
      rcases h0 q hlt with y|y
      ·rw[y]at x1;cases x1
      ·rw[←e]at x3;exact x3 y
     have kadd:=m_add (t:=q) (f:=l) A 2 X 1 hrn (by omega) hlt hln hne hA (Nat.le_of_eq fs_one) (by omega)
     rw[←f7]at kadd
     have hfa:=fun j=>find_hpD (r:=r) (n:=n) (j:=j) (X:=X) (d:=d)
     have t3:=sign_ne x3
     rw[e1]at kadd hfa
     rw[e1,f5,f6]
     conv=>whnf
     (repeat(first|(refine step_w1 rfl rfl ?_;conv=>whnf)|(refine step_oA (by first|omega|decide|(simp only[tl0,dlen,List.length_replicate,List.length_set,List.length_map,List.length_zipWith,List.length_take,List.length_append,List.length_cons,List.length_nil];omega)) ?_;conv=>whnf)|(refine g_c (by assumption) ?_;conv=>whnf)|(refine g_o (op_pickT rfl (ev_ok rfl) (ev_ok rfl)) ?_;conv=>whnf)|(refine tst_tt t4 ?_;conv=>whnf)|(refine tst_tt t3 ?_;conv=>whnf)|(refine g_loadB rfl (ev_ok rfl) rfl (tgt rfl) hlt x1 rfl rfl ?_;conv=>whnf)|(refine g_loadB rfl (ev_ok rfl) rfl (tgt rfl) hln x2 rfl rfl ?_;conv=>whnf)|(refine g_load1 rfl (ev_ok rfl) rfl (tgt rfl) hs (Nat.succ_ne_zero _) rfl ?_;conv=>whnf)|(refine g_loadR rfl (ev_ok rfl) hfd (tgt rfl) (by rw[rwL_len];omega) (rwL_get (by omega)) rfl (Nat.succ_ne_zero _) rfl ?_;conv=>whnf)|(refine⟨_,_,[],_,kadd,fk_hpS rfl rfl hfa,nil_new,upd_hpS, ?_⟩;conv=>whnf)|(rw[t4];conv=>whnf)|(rw[Int.toNat_natCast];conv=>whnf)|(rw[Nat.zero_add];conv=>whnf)))
     exact⟨Recast.refl _,get_nil,by repeat(first|exact get_nil|refine get_cons rfl ?_)⟩
    ·have hlk3:q=i→l+1≤k:=fun e=>by
      have g:=hlk e
      rcases Nat.lt_or_ge l k with g2|g2
      ·omega
      ·obtain rfl:l=k:=by omega
       subst e
       obtain⟨_,f2,f3,f4,_⟩:=hf hlt
       exact absurd ⟨f2,f3,f4⟩ hxx
     rw[e1]
     cases x1:d q with
     |true=>
      conv=>whnf
      (repeat((first|refine step_w2 rfl rfl ?_|refine step_oA (by first|omega|decide|(simp only[tl0,dlen,List.length_replicate,List.length_set,List.length_map,List.length_zipWith,List.length_take,List.length_append,List.length_cons,List.length_nil];omega)) ?_|refine g_o (op_pickF rfl (ev_ok rfl) (ev_ok rfl)) ?_|refine tst_tt t4 ?_|refine g_loadB rfl (ev_ok rfl) rfl (tgt rfl) hlt x1 rfl rfl ?_|rw[t4]|rw[t5]|rw[Int.toNat_natCast]|rw[Nat.zero_add]);conv=>whnf))
      exact⟨n - (l+1),fun k=>k,[0,1,7,40,41,47,48],KR,by omega,by subst e1 hKR;kernel_rfl,l+1,rfl,hln,hlk3,rfl,by subst e1 hKR;rfl⟩
     |false=>
      cases x2:d l with
      |true=>
       conv=>whnf
       (repeat((first|refine step_w1 rfl rfl ?_|refine step_w2 rfl rfl ?_|refine step_oA (by first|omega|decide|(simp only[tl0,dlen,List.length_replicate,List.length_set,List.length_map,List.length_zipWith,List.length_take,List.length_append,List.length_cons,List.length_nil];omega)) ?_|refine g_o (op_pickT rfl (ev_ok rfl) (ev_ok rfl)) ?_|refine g_o (op_pickF rfl (ev_ok rfl) (ev_ok rfl)) ?_|refine tst_tt t4 ?_|refine g_loadB rfl (ev_ok rfl) rfl (tgt rfl) hlt x1 rfl rfl ?_|refine g_loadB rfl (ev_ok rfl) rfl (tgt rfl) hln x2 rfl rfl ?_|rw[t4]|rw[t5]|rw[Int.toNat_natCast]|rw[Nat.zero_add]);conv=>whnf))
       exact⟨n - (l+1),fun k=>k,[0,1,7,40,41,47,48],KR,by omega,by subst e1 hKR;kernel_rfl,l+1,rfl,hln,hlk3,rfl,by subst e1 hKR;rfl⟩
      |false=>
       have t3:=sign_eq (q:=X q l) (Classical.byContradiction fun y=>hxx ⟨x1,x2,y⟩)
       conv=>whnf
       (repeat(first|(refine step_w1 rfl rfl ?_;conv=>whnf)|(refine step_oA (by first|omega|decide|(simp only[tl0,dlen,List.length_replicate,List.length_set,List.length_map,List.length_zipWith,List.length_take,List.length_append,List.length_cons,List.length_nil];omega)) ?_;conv=>whnf)|(refine g_c (by assumption) ?_;conv=>whnf)|(refine g_o (op_pickT rfl (ev_ok rfl) (ev_ok rfl)) ?_;conv=>whnf)|(refine tst_tt t4 ?_;conv=>whnf)|(refine tst_ff t3 ?_;conv=>whnf)|(refine g_loadB rfl (ev_ok rfl) rfl (tgt rfl) hlt x1 rfl rfl ?_;conv=>whnf)|(refine g_loadB rfl (ev_ok rfl) rfl (tgt rfl) hln x2 rfl rfl ?_;conv=>whnf)|(refine g_load1 rfl (ev_ok rfl) rfl (tgt rfl) hs (Nat.succ_ne_zero _) rfl ?_;conv=>whnf)|(refine g_loadR rfl (ev_ok rfl) hfd (tgt rfl) (by rw[rwL_len];omega) (rwL_get (by omega)) rfl (Nat.succ_ne_zero _) rfl ?_;conv=>whnf)|(rw[t4];conv=>whnf)|(rw[t5];conv=>whnf)|(rw[t3];conv=>whnf)|(rw[Int.toNat_natCast];conv=>whnf)|(rw[Nat.zero_add];conv=>whnf)))
       exact⟨n - (l+1),fun k=>k,[0,1,7,40,41,47,48],KR,by omega,by subst e1 hKR;kernel_rfl,l+1,rfl,hln,hlk3,rfl,by subst e1 hKR;rfl⟩
   ·have t4:=dge hln
    have hqi:q+1≤i:=by
     rcases Nat.lt_or_ge q i with g|g
     ·exact g
     ·obtain rfl:q=i:=by omega
      have:=hlk rfl
      have:=(hf hlt).1
      omega
    rw[e1]
    conv=>whnf
    (repeat(first|(refine tst_ff t4 ?_;conv=>whnf)|(rw[t4];conv=>whnf)|(rw[t2];conv=>whnf)))
    exact⟨n - (q+1),fun k=>k,[0,1,40,41],KR,by omega,by subst e1 hKR;kernel_rfl,q+1,rfl,hqi,rfl,by subst e1 hKR;rfl⟩
  ·have t1:=dge hlt
   obtain⟨f5,f6,f7⟩:=he (by omega)
   rw[e1,f5,f6,f7]
   conv=>whnf
   (repeat(first|(refine tst_ff t1 ?_;conv=>whnf)))
   exact⟨Recast.refl _,get_nil,by repeat(first|exact get_nil|refine get_cons rfl ?_)⟩
end Go.Proofs.YtfjhnollamkdcaaGreatDoor
