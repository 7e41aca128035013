/- The texts Qp. -/
import Derived.Test.YtbopchpncgdaaaaGreatDoorQsB3
namespace Go.Proofs.YtbopchpncgdaaaaGreatDoor
open Go.Sx
set_option linter.unusedSimpArgs false
set_option linter.unusedVariables false
set_option maxRecDepth 100000
set_option maxHeartbeats 40000000
theorem s_Index (l:List Int) (x:Int) (hl:l.length<1099511627776):∃n:Int,decide (0≤n)=decide (x∈l)∧CallOK Tryz.prog 195 [ivec .i64 l,iv x] [] (iv n) [] []:=by
 by_cases h:∃j,j<l.length∧l.getD j 0=x∧∀i,i<j→l.getD i 0≠x
 ·obtain⟨j,hj,hx,hb⟩:=h
  have hm:x∈l:=by rw[←hx,List.getD_eq_getElem?_getD,List.getElem?_eq_getElem hj];exact List.getElem_mem hj
  refine⟨j,by rw[decide_eq_true (Int.natCast_nonneg j),decide_eq_true hm], ?_⟩
  refine callV (Z:=[]) tabOK mixedOK Tryz.func195 rfl (by kernel_rfl) rfl rfl (by kernel_rfl) rfl ?_
  intro W0 w0 ρ0 hE
  conv=>whnf
  (repeat(first|(refine g_o (op_lenM rfl rfl rfl (ev_ok rfl) (tgt rfl) rfl) ?_;conv=>whnf)))
  refine SW_loopN hE (fun k=>k) [0,1,7,8] [] (fun m fr hp=>∃i:Nat,m=l.length - i∧i≤j∧fr=[(0,ivec .i64 l),(1,iv x),(7,iv l.length),(8,iv i)]∧hp=[]) l.length ?_ ?_ ?_
  ·kernel_rfl
  ·exact⟨0,rfl,Nat.zero_le _,rfl,rfl⟩
  rintro m _ _ ⟨i,rfl,hi,rfl,rfl⟩
  have t1:=dlt (show i<l.length by omega)
  have t2:=winc (i:=i) (by omega)
  conv=>whnf
  by_cases e:i=j
  ·subst e
   have t3:decide (x=l.getD i 0)=true:=decide_eq_true hx.symm
   (repeat((first|refine tst_tt t1 ?_|refine tst_tt t3 ?_|refine g_o (op_loadA rfl (ev_ok rfl) (tgt rfl) rfl (Nat.succ_ne_zero _) rfl) ?_|refine g_o (op_indexN (α:=Int) (d:=0) rfl (ev_ok rfl) (ev_ok rfl) (tgt rfl) rfl (tgt rfl) rfl (by omega)) ?_);conv=>whnf));(first|exact Recast.refl _|exact Frz.recast (Recast.refl _) rfl|(refine Frz.one rfl rfl ?_;skip)|(refine Frz.tup ?_;skip))
  ·have t3:decide (x=l.getD i 0)=false:=decide_eq_false fun g=>hb i (by omega) g.symm
   (repeat((first|refine tst_tt t1 ?_|refine tst_ff t3 ?_|refine g_o (op_loadA rfl (ev_ok rfl) (tgt rfl) rfl (Nat.succ_ne_zero _) rfl) ?_|refine g_o (op_indexN (α:=Int) (d:=0) rfl (ev_ok rfl) (ev_ok rfl) (tgt rfl) rfl (tgt rfl) rfl (by omega)) ?_|rw[t1]|rw[t2]);conv=>whnf))
   exact⟨l.length - (i+1),fun k=>k,[0,1,7,8],[],by omega,by kernel_rfl,i+1,rfl,by omega,rfl,rfl⟩
 ·have hno:∀j,j<l.length→l.getD j 0≠x:=by
   intro j
   induction j using Nat.strongRecOn with
   |ind j ih=>
    intro hj hx
    exact h ⟨j,hj,hx,fun i hi=>ih i hi (by omega)⟩
  have hm:x∉l:=fun hm=>by
   obtain⟨j,hj,e⟩:=List.getElem_of_mem hm
   exact hno j hj (by rw[List.getD_eq_getElem?_getD,List.getElem?_eq_getElem hj];exact e)
  refine⟨-1,by rw[decide_eq_false hm];rfl, ?_⟩
  refine callV (Z:=[]) tabOK mixedOK Tryz.func195 rfl (by kernel_rfl) rfl rfl (by kernel_rfl) rfl ?_
  intro W0 w0 ρ0 hE
  conv=>whnf
  (repeat(first|(refine g_o (op_lenM rfl rfl rfl (ev_ok rfl) (tgt rfl) rfl) ?_;conv=>whnf)))
  refine SW_loopN hE (fun k=>k) [0,1,7,8] [] (fun m fr hp=>∃i:Nat,m=l.length - i∧i≤l.length∧fr=[(0,ivec .i64 l),(1,iv x),(7,iv l.length),(8,iv i)]∧hp=[]) l.length ?_ ?_ ?_
  ·kernel_rfl
  ·exact⟨0,rfl,Nat.zero_le _,rfl,rfl⟩
  rintro m _ _ ⟨i,rfl,hi,rfl,rfl⟩
  conv=>whnf
  by_cases hlt:i<l.length
  ·have t1:=dlt hlt
   have t2:=winc (i:=i) (by omega)
   have t3:decide (x=l.getD i 0)=false:=decide_eq_false fun g=>hno i hlt g.symm
   (repeat((first|refine tst_tt t1 ?_|refine tst_ff t3 ?_|refine g_o (op_loadA rfl (ev_ok rfl) (tgt rfl) rfl (Nat.succ_ne_zero _) rfl) ?_|refine g_o (op_indexN (α:=Int) (d:=0) rfl (ev_ok rfl) (ev_ok rfl) (tgt rfl) rfl (tgt rfl) rfl (by omega)) ?_|rw[t1]|rw[t2]);conv=>whnf))
   exact⟨l.length - (i+1),fun k=>k,[0,1,7,8],[],by omega,by kernel_rfl,i+1,rfl,hlt,rfl,rfl⟩
  ·have t1:=dge hlt
   (repeat(first|(refine tst_ff t1 ?_;conv=>whnf)));(first|exact Recast.refl _|exact Frz.recast (Recast.refl _) rfl|(refine Frz.one rfl rfl ?_;skip)|(refine Frz.tup ?_;skip))
theorem s_Contains (l:List Int) (x:Int) (hl:l.length<1099511627776):CallOK Tryz.prog 143 [ivec .i64 l,iv x] [] (.val (.bool (decide (x∈l)))) [] []:=by
 obtain⟨n,hn,k1⟩:=s_Index l x hl
 rw[←hn]
 refine callV (Z:=[]) tabOK mixedOK Tryz.func143 rfl (by kernel_rfl) rfl rfl (by kernel_rfl) rfl ?_
 intro W0 w0 ρ0 hE
 conv=>whnf
 (repeat(first|(refine g_c (by assumption) ?_;conv=>whnf)));(first|exact Recast.refl _|exact Frz.recast (Recast.refl _) rfl|(refine Frz.one rfl rfl ?_;skip)|(refine Frz.tup ?_;skip))
theorem v_UnitM (n i:Nat) (hn:n≤2048) (hi:i<n) (K:Nat):CallOK Tryz.prog 144 [iv (n:Nat),iv (i:Nat)] [] (.tup [.slc K 5 0 n,iv 0]) [(K,⟨53,true,.fracs ((List.replicate n 0).set i 1)⟩)] []:=by
 have k1:=v_ZeroM n hn 1001
 have k2:CallOK Tryz.prog 41 [iv 1] [] (.frac 1) [] []:=c_fInt 1 (by decide) (by decide)
 have t1:decide ((i:Int)<0)=false:=decide_eq_false (by omega)
 have t2:decide ((i:Int)≥(n:Int))=false:=decide_eq_false (by omega)
 refine callK (Z:=[]) tabOK mixedOK Tryz.func144 rfl (by kernel_rfl) (args:=[iv (n:Nat),iv (i:Nat)]) (fk:=[]) (c:=.tup [.slc 1001 5 0 n,iv 0]) (new:=[(1001,⟨53,true,.fracs ((List.replicate n 0).set i 1)⟩)]) (upd:=[]) (ShapeOK.of rfl rfl rfl rfl rfl rfl rfl rfl rfl rfl rfl) rfl (fun _=>K) NamesOK.one ?_
 intro W0 w0 ρ0 hE
 conv=>whnf
 (repeat((first|refine step_w1 rfl rfl ?_|refine step_w2 rfl rfl ?_|refine step_oL (by first|omega|decide|(simp only[tl0,dlen,List.length_replicate,List.length_set,List.length_map,List.length_zipWith,List.length_take,List.length_append,List.length_cons,List.length_nil];omega)) ?_|refine step_oA (by first|omega|decide|(simp only[tl0,dlen,List.length_replicate,List.length_set,List.length_map,List.length_zipWith,List.length_take,List.length_append,List.length_cons,List.length_nil];omega)) ?_|refine g_c (by assumption) ?_|refine g_cn (by assumption) rfl ?_|refine g_o (op_pickF rfl (ev_ok rfl) (ev_ok rfl)) ?_|rw[bne_self_eq_false]|refine tst_ff t2 ?_|rw[Int.toNat_natCast]|rw[Nat.zero_add]);conv=>whnf))
 exact⟨Recast.refl _,get_cons rfl get_nil,get_nil⟩
theorem freeF_len (sp:List Nat) (k:Nat):(freeF sp k).length≤k:=by
 have:=List.length_filter_le (fun q=>decide (q∉sp)) (List.range k)
 simpa [freeF]using this
theorem mem_ofN {sp:List Nat} {k:Nat}:((k:Int)∈sp.map ofN)↔k∈sp:=by
 simp only[List.mem_map]
 constructor
 ·rintro⟨a,ha,h⟩;rw[←Int.ofNat_inj.1 (show(a:Int)=(k:Int)from h)];exact ha
 ·intro h;exact⟨k,h,rfl⟩
abbrev vblk (l:List (List Rat)):Blk:=⟨25,true,.seq 1 (l.map fvec)⟩
theorem vblk_snoc (l:List (List Rat)) (v:List Rat):vblk (l++[v])=⟨25,true,.seq 1 (List.take l.length (l.map fvec)++List.take 1 (List.drop 0 [fvec v]))⟩:=by
 rw[List.take_of_length_le (by rw[List.length_map];exact Nat.le_refl _),vblk,List.map_append];rfl
theorem e_kernel {r m c:Nat} {M:Nat→List Rat} {sp:List Nat} {d:Rat} (hM:∀i,i<r→(M i).length=c) (hr:r≤2048) (hm:m≤2048) (hmc:m≤c) (hp:sp.length≤r) (hsp:∀j,j<sp.length→sp.getD j 0<m):
  CallOK Tryz.prog 77 [wkA r m c M (sp.map ofN) d] [] (mvec 1 fvec ((freeF sp m).map (kvL M sp m))) [] []:=by
 have hpl:(sp.map ofN).length=sp.length:=List.length_map _
 have hrl:=rM_len r M
 refine callF (Z:=[100011]) tabOK mixedOK Tryz.func77 rfl (by kernel_rfl) (by first|rfl|(simp[keylessL,keyless,keylessL_map, *];done)) (by first|rfl|(simp[keylessL,keyless,keylessL_map, *];done)) (by kernel_rfl) rfl ?_
 intro w0 ρ0 hE
 conv=>whnf
 (repeat(first|(refine g_o (op_loadA rfl (ev_ok rfl) (tgt rfl) rfl (Nat.succ_ne_zero _) rfl) ?_;conv=>whnf)|(refine g_o (op_fieldA rfl (ev_ok rfl) (tgt rfl) rfl rfl (Nat.succ_ne_zero _) rfl) ?_;conv=>whnf)|(refine g_o (op_nilCheckA rfl (ev_ok rfl)) ?_;conv=>whnf)))
 refine SWx_adopt (t:=2) (k:=2001) (s:=1) (blk:=vblk []) rfl rfl rfl ?_
 refine SW_loopN hE (fun k=>k) [0,2,11,12] [2001] (fun m' fr hp=>∃k n:Nat,m'=m - k∧k≤m∧n=(freeF sp k).length∧fr=[(0,wkA r m c M (sp.map ofN) d),(2,.slc 2001 1 0 n),(11,iv m),(12,iv k)]∧hp=[(2001,vblk ((freeF sp k).map (kvL M sp m)))]) m ?_ ?_ ?_
 ·kernel_rfl
 ·exact⟨0,0,rfl,Nat.zero_le _,rfl,rfl,rfl⟩
 rintro m' _ _ ⟨k,n,rfl,hk,hn,rfl,rfl⟩
 conv=>whnf
 by_cases hlt:k<m
 ·have t1:=dlt hlt
  have t2:=winc (i:=k) (by omega)
  have k1:=s_Contains (sp.map ofN) k (by rw[hpl];omega)
  have hfs:=freeF_succ sp k
  by_cases hin:k∈sp
  ·have t3:decide ((k:Int)∈sp.map ofN)=true:=decide_eq_true (mem_ofN.2 hin)
   rw[if_pos hin,List.append_nil]at hfs
   rw[t3]at k1
   (repeat((first|refine step_w1 rfl rfl ?_|refine g_c (by assumption) ?_|refine tst_tt t1 ?_|refine g_o (op_loadA rfl (ev_ok rfl) (tgt rfl) rfl (Nat.succ_ne_zero _) rfl) ?_|refine g_o (op_fieldA rfl (ev_ok rfl) (tgt rfl) rfl rfl (Nat.succ_ne_zero _) rfl) ?_|refine g_o (op_nilCheckA rfl (ev_ok rfl)) ?_|rw[t1]|rw[t2]);conv=>whnf))
   exact⟨m - (k+1),fun q=>q,[0,2,11,12],[2001],by omega,by kernel_rfl,k+1,n,rfl,hlt,by rw[hfs];exact hn,rfl,by rw[hfs];rfl⟩
  ·have t3:decide ((k:Int)∈sp.map ofN)=false:=decide_eq_false fun h=>hin (mem_ofN.1 h)
   rw[if_neg hin]at hfs
   rw[t3]at k1
   have k2:=v_UnitM m k hm hlt 2002
   have hnl:((freeF sp k).map (kvL M sp m)).length=n:=by rw[List.length_map];exact hn.symm
   have hnm:n≤m:=by rw[hn];exact Nat.le_trans (freeF_len sp k) hk
   have hsn:=vblk_snoc ((freeF sp k).map (kvL M sp m)) (kvL M sp m k)
   rw[hnl]at hsn
   have hs2:(freeF sp (k+1)).map (kvL M sp m)=(freeF sp k).map (kvL M sp m)++[kvL M sp m k]:=by rw[hfs,List.map_append];rfl
   rw[←hs2]at hsn
   have hn2:n+1=(freeF sp (k+1)).length:=by rw[hfs,List.length_append,←hn];rfl
   (repeat((first|refine step_w2 rfl rfl ?_|refine g_c (by assumption) ?_|refine g_cn (by assumption) rfl ?_|refine tst_tt t1 ?_|refine g_o (op_lenM rfl rfl rfl (ev_ok rfl) (tgt rfl) rfl) ?_|refine g_o (op_loadA rfl (ev_ok rfl) (tgt rfl) rfl (Nat.succ_ne_zero _) rfl) ?_|refine g_o (op_fieldA rfl (ev_ok rfl) (tgt rfl) rfl rfl (Nat.succ_ne_zero _) rfl) ?_|refine g_o (op_nilCheckA rfl (ev_ok rfl)) ?_|rw[t1]);conv=>whnf))
   refine SW_loopN hE (fun k=>k) [0,2,3,4,11,12,33,34,35] [2001,2002] (fun m' fr hp=>∃i:Nat,m'=sp.length - i∧i≤sp.length∧fr=[(0,wkA r m c M (sp.map ofN) d),(2,.slc 2001 1 0 n),(3,iv k),(4,.slc 2002 5 0 m),(11,iv m),(12,iv k),(33,ivec .i64 (sp.map ofN)),(34,iv sp.length),(35,iv i)]∧
    hp=[(2001,vblk ((freeF sp k).map (kvL M sp m))),(2002,fblk (kvS M sp m k i))]) sp.length ?_ ?_ ?_
   ·kernel_rfl
   ·exact⟨0,rfl,Nat.zero_le _,by rw[←hpl];rfl,rfl⟩
   rintro m' _ _ ⟨i,rfl,hi,rfl,rfl⟩
   conv=>whnf
   by_cases hip:i<sp.length
   ·have t4:=dlt hip
    have t5:=winc (i:=i) (by omega)
    have g1:(sp.map ofN).getD i 0=((sp.getD i 0:Nat):Int):=by simp[List.getD_eq_getElem?_getD,hip]
    have g2:=rM_get (M:=M) (show i<r by omega)
    have g3:=hM i (by omega)
    have g4:=hsp i hip
    have g5:=kvS_len M sp m k i
    have k3:=c_fNeg ((M i).getD k 0)
    clear k1 k2
    (repeat((first|refine step_oL (by first|omega|decide|(simp only[tl0,dlen,List.length_replicate,List.length_set,List.length_map,List.length_zipWith,List.length_take,List.length_append,List.length_cons,List.length_nil];omega)) ?_|refine step_oA (by first|omega|decide|(simp only[tl0,dlen,List.length_replicate,List.length_set,List.length_map,List.length_zipWith,List.length_take,List.length_append,List.length_cons,List.length_nil];omega)) ?_|refine g_c (by assumption) ?_|refine tst_tt t4 ?_|refine g_o (op_indexN (α:=Rat) (d:=0) rfl (ev_ok rfl) (ev_ok rfl) (tgt rfl) rfl (tgt rfl) rfl (by omega)) ?_|refine g_o (op_loadA rfl (ev_ok rfl) (tgt rfl) rfl (Nat.succ_ne_zero _) rfl) ?_|refine g_o (op_indexN (α:=Int) (d:=0) rfl (ev_ok rfl) (ev_ok rfl) (tgt rfl) rfl (tgt rfl) rfl (by omega)) ?_|refine g_o (op_indexN (α:=List Rat) (d:=[]) rfl (ev_ok rfl) (ev_ok rfl) (tgt rfl) rfl (tgt rfl) rfl (by omega)) ?_|refine g_o (op_fieldA rfl (ev_ok rfl) (tgt rfl) rfl rfl (Nat.succ_ne_zero _) rfl) ?_|refine g_o (op_nilCheckA rfl (ev_ok rfl)) ?_|rw[t4]|rw[t5]|rw[g1]|rw[g2]|rw[Int.toNat_natCast]|rw[Nat.zero_add]);conv=>whnf))
    exact⟨sp.length - (i+1),fun q=>q,[0,2,3,4,11,12,33,34,35],[2001,2002],by omega,by kernel_rfl,i+1,rfl,hip,rfl,rfl⟩
   ·have t4:=dge hip
    obtain rfl:i=sp.length:=by omega
    clear k1 k2
    (repeat(first|(refine tst_ff t4 ?_;conv=>whnf)|(rw[t4];conv=>whnf)))
    refine SWx_freezeF 4 2002 (fun _ h=>h) rfl rfl (kvS_len M sp m k _).symm ?_
    refine SWx_go hE ?_
    conv=>whnf
    (repeat(first|(refine step_oA (by first|omega|decide|(simp only[tl0,dlen,List.length_replicate,List.length_set,List.length_map,List.length_zipWith,List.length_take,List.length_append,List.length_cons,List.length_nil];omega)) ?_;conv=>whnf)|(rw[t2];conv=>whnf)))
    refine⟨m - (k+1),renBy [(58,2001)],[0,2,11,12],[58],by omega,by kernel_rfl,k+1,n+1,rfl,hlt,hn2,rfl, ?_⟩
    rw[hsn];rfl
 ·have t1:=dge hlt
  obtain rfl:k=m:=by omega
  have hnl:((freeF sp k).map (kvL M sp k)).length=n:=by rw[List.length_map];exact hn.symm
  (repeat(first|(refine tst_ff t1 ?_;conv=>whnf)));(first|exact Recast.refl _|exact Frz.recast (Recast.refl _) rfl|(refine Frz.one rfl rfl ?_;(repeat(first|(refine FrzC.seq rfl (by first|rfl|(apply keylessL_map;intro _;rfl)) ?_;(first|rfl|omega|(simp<;>fail)|(simp<;>omega))))))|(refine Frz.tup ?_;skip))
end Go.Proofs.YtbopchpncgdaaaaGreatDoor
