/- The texts Mf. -/
import Derived.Test.YtfjhnollamkdcaaGreatDoorQsA13
namespace Go.Proofs.YtfjhnollamkdcaaGreatDoor
open Go.Sx
set_option linter.unusedSimpArgs false
set_option linter.unusedVariables false
set_option maxRecDepth 100000
set_option maxHeartbeats 40000000
def begX (n:Nat) (a m:List Rat) (t:Rat):Mx:=fun i q=>a.getD (i*n+q) 0 - t*m.getD (i*n+q) 0
def parB (w:Mx) (i k:Nat):Nat→Rat:=fun q=>if q<k then w i q else 0
theorem parB_start (w:Mx) (n i:Nat):List.replicate n (0:Rat)=rwL n (parB w i 0):=by
 refine range_ext (by simp) fun q hq=> ?_
 unfold parB
 rw[if_neg (by omega)]
 simp[List.getD_eq_getElem?_getD,List.getElem?_replicate,hq]
theorem parB_set {n k:Nat} (w:Mx) (i:Nat) (hk:k<n):(rwL n (parB w i k)).set k (w i k)=rwL n (parB w i (k+1)):=by
 refine range_ext (by rw[List.length_set,rwL_len]) fun q hq=> ?_
 by_cases e:q=k
 ·subst e;rw[set_at (by rw[rwL_len];exact hk)];unfold parB;rw[if_pos (by omega)]
 ·rw[set_off e,rwL_get hq]
  unfold parB
  by_cases g:q<k
  ·rw[if_pos g,if_pos (by omega)]
  ·rw[if_neg g,if_neg (by omega)]
theorem parB_end (w:Mx) (i n:Nat):rwL n (parB w i n)=rwL n (w i):=List.map_congr_left fun q hq=>by
 unfold parB;rw[if_pos (List.mem_range.1 hq)]
def stS (n:Nat) (w:Mx):Nat→List (Nat×Blk)
 |0=>[(1001,⟨117,true,.one [iv n,.val (.slice none 0 0)]⟩)]
 |i+1=>(1001,sqB (i+1) n)::(1002,rkB true (cellsE (i+1) n))::rowsE (fun _=>true) (rowsM n w) (i+1) 0
abbrev keysS (r:Nat):List Nat:=(List.range r).map fun j=>1010+j
def ksS:Nat→List Nat
 |0=>[1001]
 |i+1=>1001::1002::keysS (i+1)
theorem m_begin {r n:Nat} (a m:List Rat) (t:Rat) (hrn:r=n) (hr:r≤5) (hr1:1≤r) (ha:OKM n n a) (hm:OKM n n m)
  (hA:∀i q,i<n→q<n→fs (a.getD (i*n+q) 0)+(fs t+fs (m.getD (i*n+q) 0))≤4398046511104):
  CallOK Tryz.prog 59 [mA n n a,mA n n m,.frac t] [] (.ptr 1001 0 0 0) (hpS r n (begX n a m t)) []:=by
 obtain⟨w,hw⟩:∃w,begX n a m t=w:=⟨_,rfl⟩
 rw[hw]
 rcases(show r=1∨r=2∨r=3∨r=4∨r=5 by omega)with e1|e1|e1|e1|e1
 all_goals
  rw[e1]
  refine callID (Z:=[3,4,5]) tabOK mixedOK Tryz.func59 rfl (by kernel_rfl) (ShapeOKD.of rfl rfl rfl rfl rfl rfl rfl rfl rfl rfl rfl) rfl (NamesOK.id rfl) ?_
  intro W0 w0 ρ0 hE
  conv=>whnf
  (repeat(first|(refine g_o (op_loadA rfl (ev_ok rfl) (tgt rfl) rfl (Nat.succ_ne_zero _) rfl) ?_;conv=>whnf)|(refine g_o (op_fieldA rfl (ev_ok rfl) (tgt rfl) rfl rfl (Nat.succ_ne_zero _) rfl) ?_;conv=>whnf)))
  refine SW_loopN hE (fun k=>cond (Nat.beq k 14) 1001 k) [3,4,5,7,16,17] [14] (fun m' fr hp=>∃i:Nat,m'=n - i∧i≤n∧fr=[(3,ptrA (mC n n a)),(4,ptrA (mC n n m)),(5,ptrA [.frac t]),(7,.ptr 1001 0 0 0),(16,iv n),(17,iv i)]∧hp=stS n w i) n ?_ ?_ ?_
  ·kernel_rfl
  ·exact⟨0,rfl,Nat.zero_le _,rfl,rfl⟩
  rintro m' _ _ ⟨i,rfl,hi,rfl,rfl⟩
  by_cases hlt:i<n
  ·have hid:i=0∨i=1∨i=2∨i=3∨i=4:=by omega
   have t9:=dlt hlt
   have t5:=winc (i:=i) (by omega)
   obtain⟨KB,hKB⟩:∃K,K=22::ksS i:=⟨_,rfl⟩
   obtain⟨KE,hKE⟩:∃K,K=(1001::62::keysS i)++[22]:=⟨_,rfl⟩
   obtain⟨σ,hσ⟩:∃f:Nat→Nat,f=fun q=>cond (Nat.beq q 62) 1002 (cond (Nat.beq q 22) (1010+i) q):=⟨_,rfl⟩
   rcases hid with e3|e3|e3|e3|e3
   all_goals first|omega|skip
   all_goals
    have s9:=t9
    have s5:=t5
    rw[e3]at s9 s5
    rw[e3]
    conv=>whnf
    (repeat((first|refine step_oA (by first|omega|decide|(simp only[tl0,dlen,List.length_replicate,List.length_set,List.length_map,List.length_zipWith,List.length_take,List.length_append,List.length_cons,List.length_nil];omega)) ?_|refine tst_tt s9 ?_|refine g_o (op_loadA rfl (ev_ok rfl) (tgt rfl) rfl (Nat.succ_ne_zero _) rfl) ?_|refine g_o (op_fieldA rfl (ev_ok rfl) (tgt rfl) rfl rfl (Nat.succ_ne_zero _) rfl) ?_|rw[s9]|rw[Int.toNat_natCast]|rw[Nat.zero_add]);conv=>whnf))
    refine SW_loopN hE (fun k=>k) [3,4,5,7,8,9,16,17,24,25] KB (fun m'' fr hp=>∃k:Nat,m''=n - k∧k≤n∧fr=[(3,ptrA (mC n n a)),(4,ptrA (mC n n m)),(5,ptrA [.frac t]),(7,.ptr 1001 0 0 0),(8,iv i),(9,.slc 22 5 0 n),(16,iv n),(17,iv i),(24,iv n),(25,iv k)]∧hp=(22,fblk (rwL n (parB w i k)))::stS n w i) n ?_ ?_ ?_
    ·subst e3 hKB;kernel_rfl
    ·exact⟨0,rfl,Nat.zero_le _,by subst e3;rfl,by rw[←parB_start];subst e3 hKB;rfl⟩
    rintro m'' _ _ ⟨k,rfl,hk,rfl,rfl⟩
    have hz:=rwL_len n (parB w i k)
    by_cases hkm:k<n
    ·have t6:=dlt hkm
     have t7:=winc (i:=k) (by omega)
     have hin:i*n+k<n*n:=Nat.lt_of_lt_of_le (show i*n+k<(i+1)*n by rw[Nat.succ_mul];omega) (Nat.mul_le_mul_right n hlt)
     obtain⟨t3,t4⟩:=idx_w (i:=i) (k:=k) (c:=n) (by omega) (by omega) (by omega)
     have ha1:i*n+k<a.length:=by rw[ha.n];exact hin
     have hm1:i*n+k<m.length:=by rw[hm.n];exact hin
     have hs:=hA i k hlt hkm
     have k1:=x_Mul t (m.getD (i*n+k) 0) (by omega)
     have k2:=x_Sub (a.getD (i*n+k) 0) (t*m.getD (i*n+k) 0) (by have:=fs_mul t (m.getD (i*n+k) 0);omega)
     have hset:=parB_set w i hkm
     rw[←hw]at hset
     rw[show begX n a m t i k=a.getD (i*n+k) 0 - t*m.getD (i*n+k) 0 from rfl,hw]at hset
     rw[e3]at hz t3 t4 ha1 hm1 k1 k2 hset
     rw[e3]
     conv=>whnf
     (repeat((first|refine step_i (by kernel_rfl) ?_|refine step_oL (by first|omega|decide|(simp only[tl0,dlen,List.length_replicate,List.length_set,List.length_map,List.length_zipWith,List.length_take,List.length_append,List.length_cons,List.length_nil];omega)) ?_|refine step_oA (by first|omega|decide|(simp only[tl0,dlen,List.length_replicate,List.length_set,List.length_map,List.length_zipWith,List.length_take,List.length_append,List.length_cons,List.length_nil];omega)) ?_|refine g_c (by assumption) ?_|refine tst_tt t6 ?_|refine g_o (op_loadA rfl (ev_ok rfl) (tgt rfl) rfl (Nat.succ_ne_zero _) rfl) ?_|refine g_o (op_indexM (α:=Rat) (d:=0) rfl (ev_ok rfl) (ev_ok rfl) (tgt rfl) rfl (tgt rfl) rfl (by omega)) ?_|refine g_o (op_fieldA rfl (ev_ok rfl) (tgt rfl) rfl rfl (Nat.succ_ne_zero _) rfl) ?_|rw[t6]|rw[t7]|rw[t3]|rw[t4]|rw[Int.toNat_natCast]|rw[Nat.zero_add]);conv=>whnf))
     exact⟨_,fun k=>k,[3,4,5,7,8,9,16,17,24,25],KB,Nat.sub_lt_sub_left hkm (Nat.lt_succ_self _),by subst e3 hKB;kernel_rfl,k+1,rfl,hkm,by subst e3;rfl,by rw[←hset];subst e3 hKB;rfl⟩
    ·have t6:=dge hkm
     obtain rfl:k=n:=by omega
     rw[parB_end]
     rw[e3]
     conv=>whnf
     (repeat((first|refine tst_ff t6 ?_|refine⟨_,[],[(61,⟨28,true,.one [.slc 22 5 0 k]⟩)],[],op_buildSlice1 rfl (tabOK.get (t:=115) rfl) rfl (tabOK.get (t:=28) rfl) rfl rfl rfl rfl (by decide),nil_fk,one_new rfl,nil_upd, ?_⟩|refine⟨_,[(61,⟨28,true,.one [.slc 22 5 0 k]⟩)],[(62,_)],[],op_append1n (kn:=62) rfl rfl rfl (ev_ok rfl) (ev_ok rfl) (tabOK.get (t:=115) rfl) rfl (tabOK.get (t:=115) rfl) rfl (tabOK.get (t:=28) rfl) (List.mem_cons_self ..) rfl Nat.one_pos rfl rfl (by decide) (by decide),one_fk rfl,one_new rfl,nil_upd, ?_⟩|refine⟨_,[(1002,_),(61,⟨28,true,.one [.slc 22 5 0 k]⟩)],[(62,_)],[(1002,_)],op_append1 (kn:=62) rfl rfl rfl (ev_ok rfl) (ev_ok rfl) (tabOK.get (t:=115) rfl) rfl (tabOK.get (t:=115) rfl) rfl (tabOK.get (t:=28) rfl) (List.mem_cons_self ..) (List.mem_cons_of_mem _ (List.mem_cons_self ..)) (by rfl) rfl Nat.one_pos rfl (by rfl) rfl (by decide) (by decide),two_fk rfl rfl,one_new rfl,one_upd (List.mem_cons_self ..) rfl rfl rfl, ?_⟩|rw[t6]|rw[s5]|rw[Nat.zero_add]);conv=>whnf))
     subst e3
     exact⟨_,σ,[3,4,5,7,16,17],KE,Nat.sub_lt_sub_left hlt (Nat.lt_succ_self _),by subst hσ hKE;kernel_rfl,_,rfl,hlt,by subst hσ;rfl,by subst hσ hKE;rfl⟩
  ·have t9:=dge hlt
   have e3:i=r:=by omega
   rw[e3,e1]at t9
   rw[e3,e1]
   conv=>whnf
   (repeat(first|(refine tst_ff t9 ?_;conv=>whnf)))
   exact⟨Recast.refl _,by repeat(first|exact get_nil|refine get_cons rfl ?_),get_nil⟩
end Go.Proofs.YtfjhnollamkdcaaGreatDoor
