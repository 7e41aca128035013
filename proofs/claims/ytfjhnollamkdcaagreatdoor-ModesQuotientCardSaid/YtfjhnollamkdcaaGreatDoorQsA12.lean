/- The texts Mj. -/
import Derived.Test.YtfjhnollamkdcaaGreatDoorQsA11
namespace Go.Proofs.YtfjhnollamkdcaaGreatDoor
open Go.Sx
set_option linter.unusedSimpArgs false
set_option linter.unusedVariables false
set_option maxRecDepth 100000
set_option maxHeartbeats 80000000
theorem bls_start (n:Nat):List.replicate n (SV.val (.bool false))=bls n fun _=>false:=List.ext_getElem (by simp[bls]) (by simp[bls])
theorem m_pivotS {r n i:Nat} {A:Nat} {X Y:Mx} {d:Nat→Bool} (hrn:r=n) (hr:r≤5) (hr1:1≤r) (hA:∀a q,a<n→q<n→fs (X a q)≤A) (hH:4*A+6≤4398046511104) (h:pivF n X d=some (i,Y)):
  CallOK Tryz.prog 138 [.ptr 1001 0 0 0,.slc 1003 1 0 n] (hpD r n X d) (.tup [iv i,.val (.bool true)]) [] (hpD r n Y d):=by
 have hs:=pivF_spec n X d
 rw[h]at hs
 cases hs with
 |diag h1 h2 h3 h4=>exact m_pivot1 X d hrn hr h1 h4 h2 h3
 |@mix i k h1 h2 h3 h4 h5 h6 h7=>exact m_pivot2 (i:=i) (k:=k) A X _ d i true hrn hr hr1 (by omega) hA hH h6 h7 (fun _=>⟨h2,h3,h4,h5,rfl,rfl,rfl⟩) (fun e=>by omega)
theorem m_pivotN {r n:Nat} {A:Nat} {X:Mx} {d:Nat→Bool} (hrn:r=n) (hr:r≤5) (hr1:1≤r) (hA:∀a q,a<n→q<n→fs (X a q)≤A) (hH:4*A+6≤4398046511104) (h:pivF n X d=none):
  CallOK Tryz.prog 138 [.ptr 1001 0 0 0,.slc 1003 1 0 n] (hpD r n X d) (.tup [iv 0,.val (.bool false)]) [] (hpD r n X d):=by
 have hs:=pivF_spec n X d
 rw[h]at hs
 cases hs with
 |none h1 h2=>exact m_pivot2 (i:=n) (k:=0) A X _ d 0 false hrn hr hr1 (Nat.le_refl _) hA hH h1 (fun j l hj hl _=>h2 j l hj hl) (fun e=>by omega) (fun _=>⟨rfl,rfl,rfl⟩)
theorem piv_siz {n i A:Nat} {X Y:Mx} {d:Nat→Bool} (hA:∀a q,a<n→q<n→fs (X a q)≤A) (h:pivF n X d=some (i,Y)):∀a q,a<n→q<n→fs (Y a q)≤4*A+6:=by
 have hs:=pivF_spec n X d
 rw[h]at hs
 cases hs with
 |diag h1 h2 h3 h4=>exact fun a q ha hq=>by have:=hA a q ha hq;omega
 |@mix i k h1 h2 h3 h4 h5 h6 h7=>
  have hne:i≠k:=fun e=>by
   rcases h6 i h1 with g|g
   ·rw[g]at h3;cases h3
   ·rw[←e]at h5;exact h5 g
  exact fun a q ha hq=>addM_siz (C:=2) hA (Nat.le_of_eq fs_one) h1 h2 hne a q ha hq
theorem stF_siz {n i k B:Nat} {Y:Mx} (hi:i<n) (hB:∀a q,a<n→q<n→fs (Y a q)≤B):∀a q,a<n→q<n→fs (stF Y i k a q)≤4*B:=by
 intro a q ha hq
 unfold stF
 have h1:=hB a q ha hq
 have h2:=hB a i ha hi
 have h3:=hB i q hi hq
 have h4:=hB i i hi hi
 split
 ·have g1:=fs_sub (Y a q) (Y a i*Y i q/Y i i)
  have g2:=fs_div (Y a i*Y i q) (Y i i)
  have g3:=fs_mul (Y a i) (Y i q)
  omega
 ·omega
theorem stk {Y:Mx} {i k:Nat}:stF Y i k k i=Y k i:=by unfold stF;rw[if_neg (by omega)]
abbrev cB (m p:Nat):Blk:=⟨125,true,.one [iv m,iv (0:Nat),iv p]⟩
abbrev qdB (q:Rat):Blk:=⟨49,true,.one [.frac q]⟩
theorem fk_hpD {r n:Nat} {X:Mx} {d:Nat→Bool} {hp:List (Nat×Blk)} (h0:find hp 1003=some (doB n d)) (h1:find hp 1001=some (sqB r n)) (h2:find hp 1002=some (rkB true (cellsE r n))) (h:∀j,j<r→find hp (1010+j)=some (rwB true (rowsM n X j))):FkOK hp (hpD r n X d):=by
 intro k b hm
 rcases List.mem_cons.1 hm with e|hm
 ·cases e;exact h0
 ·exact fk_hpS h1 h2 h k b hm
theorem upd_hpD {r n:Nat} {X Y:Mx} {d:Nat→Bool}:UpdOK (hpD r n X d) (hpD r n Y d):=by
 intro k b hm
 rcases List.mem_cons.1 hm with e|hm
 ·cases e;exact⟨_,List.mem_cons_self ..,rfl,rfl,rfl⟩
 ·obtain⟨b0,h1,h2⟩:=upd_hpS (X:=X) k b hm
  exact⟨b0,List.mem_cons_of_mem _ h1,h2⟩
theorem sign_neg {q:Rat} (h:q<0):q.num.sign= -1:=by
 have:¬0≤q.num:=fun g=>by have:=Rat.num_nonneg.1 g;grind
 exact Int.sign_eq_neg_one_of_neg (by omega)
theorem sign_pos {q:Rat} (h:0<q):q.num.sign=1:=by
 have h1:0≤q.num:=Rat.num_nonneg.2 (by grind)
 have h2:q.num≠0:=fun g=>by have:=Rat.num_eq_zero.1 g;grind
 exact Int.sign_eq_one_of_pos (by omega)
theorem m_inertia {r n:Nat} (A:Nat) (X:Mx) (F:IS) (hrn:r=n) (hr:r≤5) (hr1:1≤r) (hsy:SymX n X) (hA:∀a q,a<n→q<n→fs (X a q)≤A) (h2:2≤A) (hM:A≤80000) (hF:inRun n n (startS n X)=F):
  CallOK Tryz.prog 78 [.ptr 1001 0 0 0] (hpS r n X) (.agg [iv F.m,iv F.left,iv F.p]) [] (hpS r n F.X):=by
 obtain⟨KR,hKR⟩:∃K,K=2::1003::1001::1002::(List.range r).map fun j=>1010+j:=⟨_,rfl⟩
 obtain⟨K0,hK0⟩:∃K,K=2::15::1001::1002::(List.range r).map fun j=>1010+j:=⟨_,rfl⟩
 have hM0:28^n*A≤1377000000000:=by
  have h5:28^n≤28^5:=Nat.pow_le_pow_right (by decide) (by omega)
  exact Nat.le_trans (Nat.mul_le_mul h5 hM) (by decide)
 rcases(show r=1∨r=2∨r=3∨r=4∨r=5 by omega)with e1|e1|e1|e1|e1
 all_goals
  rw[e1]
  refine callI (Z:=[100015,700036,700039,700050,700063,700066,700077,700080]) tabOK mixedOK Tryz.func78 rfl (by kernel_rfl) (ShapeOK.of rfl rfl rfl rfl rfl rfl rfl rfl rfl rfl rfl) rfl ?_
  intro W0 w0 ρ0 hE
  conv=>whnf
  (repeat(first|(refine step_oA (by first|omega|decide|(simp only[tl0,dlen,List.length_replicate,List.length_set,List.length_map,List.length_zipWith,List.length_take,List.length_append,List.length_cons,List.length_nil];omega)) ?_;conv=>whnf)|(rw[Int.toNat_natCast];conv=>whnf)|(rw[Nat.zero_add];conv=>whnf)))
  refine SW_loopN hE (fun k=>cond (Nat.beq k 15) 1003 k) [0,2,3,4] K0 (fun m' fr hp=>∃(s:IS) (B:Nat),m'=s.left∧GoodS n X s∧2≤B∧(∀a q,a<n→q<n→fs (s.X a q)≤B)∧28^s.left*B≤1377000000000∧inRun n s.left s=F∧s.m≤n∧s.p≤n∧
   fr=[(0,.ptr 1001 0 0 0),(2,.ptr 2 0 0 0),(3,.slc 1003 1 0 n),(4,iv s.left)]∧hp=(2,cB s.m s.p)::hpD r n s.X s.d) n ?_ ?_ ?_
  ·subst e1 hK0;kernel_rfl
  ·exact⟨startS n X,A,rfl,.start hsy,h2,hA,hM0,hF,Nat.zero_le _,Nat.zero_le _,rfl,by show _=(2,cB 0 0)::(1003,⟨_,true,.seq 1 (bls n fun _=>false)⟩)::hpS r n X;rw[←bls_start];subst e1 hK0;rfl⟩
  rintro m' _ _ ⟨s,B,rfl,hg,hB2,hB,hBM,hrun,hsm,hsp,rfl,rfl⟩
  have hfa:∀j,j<r→find ((2,cB s.m s.p)::hpD r n s.X s.d) (1010+j)=some (rwB true (rowsM n s.X j)):=fun j hj=>by rw[find_skip (by omega)];exact find_hpD hj
  have hln:=hg.left
  have w0:IntKind.i64.wrap (((0:Nat):Int)+((s.left:Nat):Int))=((s.left:Nat):Int):=by rw[wrap_i64 (by omega) (by omega)];omega
  have w1:IntKind.i64.wrap (0+((s.left:Nat):Int))=((s.left:Nat):Int):=by rw[wrap_i64 (by omega) (by omega)];omega
  by_cases hl:s.left=0
  ·have t1:decide (((s.left:Nat):Int)>0)=false:=decide_eq_false (by omega)
   have hFs:s=F:=by rw[hl]at hrun;exact hrun
   subst hFs
   rw[e1]
   conv=>whnf
   (repeat(first|(refine step_oA (by first|omega|decide|(simp only[tl0,dlen,List.length_replicate,List.length_set,List.length_map,List.length_zipWith,List.length_take,List.length_append,List.length_cons,List.length_nil];omega)) ?_;conv=>whnf)|(refine tst_ff t1 ?_;conv=>whnf)|(rw[w0];conv=>whnf)))
   exact⟨Recast.refl _,get_nil,by repeat(first|exact get_nil|refine get_cons rfl ?_)⟩
  ·have t1:decide (((s.left:Nat):Int)>0)=true:=decide_eq_true (by omega)
   obtain⟨f,hf⟩:∃f,s.left=f+1:=⟨s.left - 1,by omega⟩
   have hB28:28*B≤1377000000000:=by
    refine Nat.le_trans (Nat.mul_le_mul_right B ?_) hBM
    rw[hf,Nat.pow_succ]
    exact Nat.le_mul_of_pos_left _ (Nat.pow_pos (by decide))
   cases hp:pivF n s.X s.d with
   |none=>
    have kp:=m_pivotN hrn hr hr1 hB (by omega) hp
    have hFs:s=F:=by rw[hf,inRun,hp]at hrun;exact hrun
    subst hFs
    rw[e1]at kp hfa
    rw[e1]
    conv=>whnf
    (repeat((first|refine step_w1 rfl rfl ?_|refine step_oA (by first|omega|decide|(simp only[tl0,dlen,List.length_replicate,List.length_set,List.length_map,List.length_zipWith,List.length_take,List.length_append,List.length_cons,List.length_nil];omega)) ?_|refine tst_tt t1 ?_|refine⟨_,_,[],_,kp,fk_hpD rfl rfl rfl hfa,nil_new,upd_hpD, ?_⟩|rw[w0]|rw[Nat.zero_add]);conv=>whnf))
    exact⟨Recast.refl _,get_nil,by repeat(first|exact get_nil|refine get_cons rfl ?_)⟩
   |some iy=>
    obtain⟨i,Y⟩:=iy
    obtain⟨g1,g2,g3,g4,_⟩:=hg.piv hp
    have hnx:=(hg.next hp).1
    have kp:=m_pivotS hrn hr hr1 hB (by omega) hp
    have hY:=piv_siz hB hp
    have hst:=fun k=>stF_siz (k:=k) g1 hY
    have hir:i<r:=by omega
    have hsI:=sub_cells (r:=r) (n:=n) (j:=i) (by omega) hir
    have hfI:find ((2,cB s.m s.p)::hpD r n Y s.d) (1010+i)=some (rwB true (rowsM n Y i)):=by rw[find_skip (by omega)];exact find_hpD hir
    have hrun2:inRun n f (nextS n s i Y)=F:=by rw[hf,inRun,hp]at hrun;exact hrun
    have hsI2:=hsI
    rw[e1]at kp hfa hsI2 hfI
    rw[e1]
    conv=>whnf
    (repeat(first|(refine step_w2 rfl rfl ?_;conv=>whnf)|(refine step_oA (by first|omega|decide|(simp only[tl0,dlen,List.length_replicate,List.length_set,List.length_map,List.length_zipWith,List.length_take,List.length_append,List.length_cons,List.length_nil];omega)) ?_;conv=>whnf)|(refine tst_tt t1 ?_;conv=>whnf)|(refine⟨_,_,[],_,kp,fk_hpD rfl rfl rfl hfa,nil_new,upd_hpD, ?_⟩;conv=>whnf)|(refine g_load1 rfl (ev_ok rfl) rfl (tgt rfl) hsI2 (Nat.succ_ne_zero _) rfl ?_;conv=>whnf)|(refine g_loadR rfl (ev_ok rfl) hfI (tgt rfl) (by rw[rwL_len];omega) (rwL_get (by omega)) rfl (Nat.succ_ne_zero _) rfl ?_;conv=>whnf)|(rw[t1];conv=>whnf)|(rw[Int.toNat_natCast];conv=>whnf)|(rw[Nat.zero_add];conv=>whnf)))
    refine SW_loopN hE (fun k=>k) [0,2,3,4,5,7,43,44] (7::KR) (fun m'' fr hp=>∃k:Nat,m''=n - k∧k≤n∧fr=[(0,.ptr 1001 0 0 0),(2,.ptr 2 0 0 0),(3,.slc 1003 1 0 n),(4,iv s.left),(5,iv i),(7,.ptr 7 0 0 0),(43,iv n),(44,iv k)]∧
     hp=(7,qdB (Y i i))::(2,cB s.m s.p)::hpD r n (stF Y i k) s.d) n ?_ ?_ ?_
    ·subst e1 hKR;kernel_rfl
    ·exact⟨0,rfl,Nat.zero_le _,rfl,by rw[stF_zero];subst e1 hKR;rfl⟩
    rintro m'' _ _ ⟨k,rfl,hk,rfl,rfl⟩
    by_cases hkn:k<n
    ·have t2:=dlt hkn
     have t3:=winc (i:=k) (by omega)
     have hkr:=Nat.lt_of_lt_of_eq hkn hrn.symm
     have hs:=sub_cells (n:=n) (by omega) hkr
     have hfK:find ((7,qdB (Y i i))::(2,cB s.m s.p)::hpD r n (stF Y i k) s.d) (1010+k)=some (rwB true (rowsM n (stF Y i k) k)):=by rw[find_skip (by omega),find_skip (by omega)];exact find_hpD hkr
     have hval:(rowsM n (stF Y i k) k).getD i 0=Y k i:=(rwL_get g1).trans stk
     have k1:=c_fSign (Y k i)
     rw[e1]at hs hfK
     by_cases hskip:s.d k=true∨k=i∨Y k i=0
     ·have hX:hpD r n (stF Y i (k+1)) s.d=hpD r n (stF Y i k) s.d:=by
       refine congrArg (List.cons (1003,doB n s.d)) (hpS_congr fun a l ha hl2=> ?_)
       by_cases e:k=i
       ·rw[e,stF_self]
       ·have hz:Y k i=0:=by
         rcases hskip with g|g|g
         ·exact(g4.dn k hkn g).2 i g1 (Ne.symm e)
         ·exact absurd g e
         ·exact g
        exact stF_skip g4.sym g1 hkn hz e a l (by omega) hl2
      rw[e1]at hX
      rw[e1]
      cases x1:s.d k with
      |true=>
       conv=>whnf
       (repeat((first|refine step_w1 rfl rfl ?_|refine step_w2 rfl rfl ?_|refine step_oA (by first|omega|decide|(simp only[tl0,dlen,List.length_replicate,List.length_set,List.length_map,List.length_zipWith,List.length_take,List.length_append,List.length_cons,List.length_nil];omega)) ?_|refine g_o (op_pickT rfl (ev_ok rfl) (ev_ok rfl)) ?_|refine tst_tt t2 ?_|refine g_loadB rfl (ev_ok rfl) rfl (tgt rfl) hkn x1 rfl rfl ?_|rw[t2]|rw[t3]|rw[Int.toNat_natCast]|rw[Nat.zero_add]);conv=>whnf))
       exact⟨n - (k+1),fun k=>k,[0,2,3,4,5,7,43,44],7::KR,by omega,by subst e1 hKR;kernel_rfl,k+1,rfl,hkn,rfl,by rw[hX];subst e1 hKR;rfl⟩
      |false=>
       by_cases x2:k=i
       ·have t4:(((k:Nat):Int)==((i:Nat):Int))=true:=by rw[x2];exact beq_self_eq_true _
        conv=>whnf
        (repeat((first|refine step_w1 rfl rfl ?_|refine step_w2 rfl rfl ?_|refine step_oA (by first|omega|decide|(simp only[tl0,dlen,List.length_replicate,List.length_set,List.length_map,List.length_zipWith,List.length_take,List.length_append,List.length_cons,List.length_nil];omega)) ?_|refine g_o (op_pickT rfl (ev_ok rfl) (ev_ok rfl)) ?_|refine g_o (op_pickF rfl (ev_ok rfl) (ev_ok rfl)) ?_|refine tst_tt t2 ?_|refine g_loadB rfl (ev_ok rfl) rfl (tgt rfl) hkn x1 rfl rfl ?_|rw[t2]|rw[t3]|rw[t4]|rw[Int.toNat_natCast]|rw[Nat.zero_add]);conv=>whnf))
        exact⟨n - (k+1),fun k=>k,[0,2,3,4,5,7,43,44],7::KR,by omega,by subst e1 hKR;kernel_rfl,k+1,rfl,hkn,rfl,by rw[hX];subst e1 hKR;rfl⟩
       ·have hz:Y k i=0:=by
         rcases hskip with g|g|g
         ·rw[g]at x1;cases x1
         ·exact absurd g x2
         ·exact g
        have t4:(((k:Nat):Int)==((i:Nat):Int))=false:=beq_eq_false_iff_ne.2 (by omega)
        have t5:((Y k i).num.sign==0)=true:=by rw[sign0];exact decide_eq_true hz
        conv=>whnf
        (repeat(first|(refine step_w1 rfl rfl ?_;conv=>whnf)|(refine step_oA (by first|omega|decide|(simp only[tl0,dlen,List.length_replicate,List.length_set,List.length_map,List.length_zipWith,List.length_take,List.length_append,List.length_cons,List.length_nil];omega)) ?_;conv=>whnf)|(refine g_c (by assumption) ?_;conv=>whnf)|(refine g_o (op_pickF rfl (ev_ok rfl) (ev_ok rfl)) ?_;conv=>whnf)|(refine tst_tt t2 ?_;conv=>whnf)|(refine tst_tt t5 ?_;conv=>whnf)|(refine g_loadB rfl (ev_ok rfl) rfl (tgt rfl) hkn x1 rfl rfl ?_;conv=>whnf)|(refine g_load1 rfl (ev_ok rfl) rfl (tgt rfl) hs (Nat.succ_ne_zero _) rfl ?_;conv=>whnf)|(refine g_loadR rfl (ev_ok rfl) hfK (tgt rfl) (by rw[rwL_len];omega) hval rfl (Nat.succ_ne_zero _) rfl ?_;conv=>whnf)|(rw[t2];conv=>whnf)|(rw[t3];conv=>whnf)|(rw[t4];conv=>whnf)|(rw[t5];conv=>whnf)|(rw[Int.toNat_natCast];conv=>whnf)|(rw[Nat.zero_add];conv=>whnf)))
        exact⟨n - (k+1),fun k=>k,[0,2,3,4,5,7,43,44],7::KR,by omega,by subst e1 hKR;kernel_rfl,k+1,rfl,hkn,rfl,by rw[hX];subst e1 hKR;rfl⟩
     ·have x1:s.d k=false:=by
       cases h:s.d k
       ·rfl
       ·exact absurd (.inl h) hskip
      have x2:k≠i:=fun h=>hskip (.inr (.inl h))
      have x3:Y k i≠0:=fun h=>hskip (.inr (.inr h))
      have y1:=hY k i hkn g1
      have y2:=hY i i g1 g1
      have kd:=x_Div (Y k i) (Y i i) g3 (by omega)
      have kn:=c_fNeg (Y k i/Y i i)
      have ka:=m_add (t:=k) (f:=i) (4*(4*B+6)) (2*(4*B+6)) (stF Y i k) (-(Y k i/Y i i)) hrn (by omega) hkn g1 x2 (hst k) (by rw[fs_neg];have:=fs_div (Y k i) (Y i i);omega) (by omega)
      rw[hpS_congr (r:=r) (n:=n) (X:=addM (stF Y i k) k i (-(Y k i/Y i i))) (Y:=stF Y i (k+1)) fun a l ha hl2=>stF_step g4.sym g1 hkn g3 x2 a l (by omega) hl2]at ka
      have t4:(((k:Nat):Int)==((i:Nat):Int))=false:=beq_eq_false_iff_ne.2 (by omega)
      have t5:((Y k i).num.sign==0)=false:=by rw[sign0];exact decide_eq_false x3
      rw[e1]at ka
      rw[e1]
      have hkd:k=0∨k=1∨k=2∨k=3∨k=4:=by omega
      clear hBM hM0 hB hB2 hB28 hsm hsp hln w0 w1 hA h2 hM hst hY y1 y2 hrun hrun2 hnx hF hg
      conv=>whnf
      (repeat(first|(refine step_w1 rfl rfl ?_;conv=>whnf)|(refine step_i (by rcases hkd with h|h|h|h|h<;>subst h<;>kernel_rfl) ?_;conv=>whnf)|(refine step_oA (by first|omega|decide|(simp only[tl0,dlen,List.length_replicate,List.length_set,List.length_map,List.length_zipWith,List.length_take,List.length_append,List.length_cons,List.length_nil];omega)) ?_;conv=>whnf)|(refine g_c (by assumption) ?_;conv=>whnf)|(refine g_o (op_pickF rfl (ev_ok rfl) (ev_ok rfl)) ?_;conv=>whnf)|(refine tst_tt t2 ?_;conv=>whnf)|(refine tst_ff t5 ?_;conv=>whnf)|(refine g_loadB rfl (ev_ok rfl) rfl (tgt rfl) hkn x1 rfl rfl ?_;conv=>whnf)|(refine g_load1 rfl (ev_ok rfl) rfl (tgt rfl) hs (Nat.succ_ne_zero _) rfl ?_;conv=>whnf)|(refine g_loadR rfl (ev_ok rfl) hfK (tgt rfl) (by rw[rwL_len];omega) hval rfl (Nat.succ_ne_zero _) rfl ?_;conv=>whnf)|(refine⟨_,_,[],_,ka,fk_hpS rfl rfl (fun j hj=>by(rcases(show j=0∨j=1∨j=2∨j=3∨j=4 by omega)with h|h|h|h|h)<;>first|(exfalso;omega)|(subst h;rfl)),nil_new,upd_hpS, ?_⟩;conv=>whnf)|(rw[t2];conv=>whnf)|(rw[t3];conv=>whnf)|(rw[t4];conv=>whnf)|(rw[t5];conv=>whnf)|(rw[Int.toNat_natCast];conv=>whnf)|(rw[Nat.zero_add];conv=>whnf)))
      exact⟨n - (k+1),fun k=>k,[0,2,3,4,5,7,43,44],7::KR,by omega,by subst e1 hKR;kernel_rfl,k+1,rfl,hkn,rfl,by subst e1 hKR;rfl⟩
    ·have t2:=dge hkn
     have hkn2:k=n:=by omega
     rw[hkn2]at t2
     rw[hkn2,e1]
     have k3:=c_fSign (Y i i)
     have wm:=winc (i:=s.m) (by omega)
     have wp:=winc (i:=s.p) (by omega)
     have w3:IntKind.i64.wrap (((s.left:Nat):Int) - 1)=((s.left - 1:Nat):Int):=by rw[wrap_i64 (by omega) (by omega)];omega
     have hb:∀d,bls n d=bls r d:=fun d=>by rw[hrn]
     have hdB:∀d,doB n d=(⟨4,true,.seq 1 (bls r d)⟩:Blk):=fun d=>by rw[←hb]
     have hDD:∀Z d,hpD r n Z d=(1003,(⟨4,true,.seq 1 (bls r d)⟩:Blk))::hpS r n Z:=fun Z d=>by rw[←hb]
     rw[e1]at hb hdB hDD
     have hBN:28^(s.left - 1)*(16*B+24)≤1377000000000:=by
      refine Nat.le_trans ?_ hBM
      rw[hf,Nat.add_sub_cancel,Nat.pow_succ,Nat.mul_assoc]
      exact Nat.mul_le_mul_left _ (by omega)
     have hmn:(nextS n s i Y).m≤n:=by rw[hnx.m];exact cntN_le _ _
     have hpn:(nextS n s i Y).p≤n:=by rw[hnx.p];exact cntN_le _ _
     have hid:i=0∨i=1∨i=2∨i=3∨i=4:=by omega
     by_cases hneg:Y i i<0
     ·rw[sign_neg hneg]at k3
      have hm1:(nextS n s i Y).m=s.m+1:=by simp[nextS,hneg]
      have hp1:(nextS n s i Y).p=s.p:=by simp only[nextS];rw[if_neg (by grind)];rfl
      conv=>whnf
      (repeat((first|refine step_oA (by first|omega|decide|(simp only[tl0,dlen,List.length_replicate,List.length_set,List.length_map,List.length_zipWith,List.length_take,List.length_append,List.length_cons,List.length_nil];omega)) ?_|refine g_c (by assumption) ?_|refine tst_ff t2 ?_|rw[t2]|rw[wm]|rw[Nat.zero_add]);conv=>whnf))
      rcases hid with e3|e3|e3|e3|e3
      all_goals first|omega|skip
      all_goals
       refine SWx_go hE ?_
       first|rw[hDD (stF Y i n) s.d,e3]|rw[hdB s.d,e3]|rw[hb s.d,e3]
       conv=>whnf
       (repeat((first|refine step_oA (by first|omega|decide|(simp only[tl0,dlen,List.length_replicate,List.length_set,List.length_map,List.length_zipWith,List.length_take,List.length_append,List.length_cons,List.length_nil];omega)) ?_|refine And.intro (show _<(bls _ s.d).length from by simp[bls]) ?_|rw[w3]|rw[Int.toNat_natCast]|rw[Nat.zero_add]);conv=>whnf))
       exact⟨s.left - 1,fun k=>k,[0,2,3,4],KR,by omega,by subst e1 hKR;kernel_rfl,nextS n s i Y,16*B+24,rfl,hnx,by omega,(fun a q ha hq=>by have:=hst n a q ha hq;show fs (stF Y i n a q)≤_;omega),hBN,(by show inRun n (s.left - 1) _=F;rw[hf];exact hrun2),hmn,hpn,rfl,by rw[hm1,hp1];show _=(2,cB (s.m+1) s.p)::(1003,⟨_,true,.seq 1 (bls n (doneF s.d i))⟩)::hpS _ n (stF Y i n);rw[hb (doneF s.d i)];subst e1 e3 hKR;rfl⟩
     ·have hpos:0<Y i i:=by grind
      rw[sign_pos hpos]at k3
      have hm1:(nextS n s i Y).m=s.m:=by simp only[nextS];rw[if_neg hneg];rfl
      have hp1:(nextS n s i Y).p=s.p+1:=by simp[nextS,hpos]
      conv=>whnf
      (repeat((first|refine step_oA (by first|omega|decide|(simp only[tl0,dlen,List.length_replicate,List.length_set,List.length_map,List.length_zipWith,List.length_take,List.length_append,List.length_cons,List.length_nil];omega)) ?_|refine g_c (by assumption) ?_|refine tst_ff t2 ?_|rw[t2]|rw[wp]|rw[Nat.zero_add]);conv=>whnf))
      rcases hid with e3|e3|e3|e3|e3
      all_goals first|omega|skip
      all_goals
       refine SWx_go hE ?_
       first|rw[hDD (stF Y i n) s.d,e3]|rw[hdB s.d,e3]|rw[hb s.d,e3]
       conv=>whnf
       (repeat((first|refine step_oA (by first|omega|decide|(simp only[tl0,dlen,List.length_replicate,List.length_set,List.length_map,List.length_zipWith,List.length_take,List.length_append,List.length_cons,List.length_nil];omega)) ?_|refine And.intro (show _<(bls _ s.d).length from by simp[bls]) ?_|rw[w3]|rw[Int.toNat_natCast]|rw[Nat.zero_add]);conv=>whnf))
       exact⟨s.left - 1,fun k=>k,[0,2,3,4],KR,by omega,by subst e1 hKR;kernel_rfl,nextS n s i Y,16*B+24,rfl,hnx,by omega,(fun a q ha hq=>by have:=hst n a q ha hq;show fs (stF Y i n a q)≤_;omega),hBN,(by show inRun n (s.left - 1) _=F;rw[hf];exact hrun2),hmn,hpn,rfl,by rw[hm1,hp1];show _=(2,cB s.m (s.p+1))::(1003,⟨_,true,.seq 1 (bls n (doneF s.d i))⟩)::hpS _ n (stF Y i n);rw[hb (doneF s.d i)];subst e1 e3 hKR;rfl⟩
end Go.Proofs.YtfjhnollamkdcaaGreatDoor
