/- The texts Oo, Op, Ow, Qr. -/
import Derived.Test.YtbopchpncgdaaaaGreatDoorQLBareissCramer11
namespace Go.Proofs.YtbopchpncgdaaaaGreatDoor
open Go.Sx
set_option linter.unusedSimpArgs false
set_option linter.unusedVariables false
set_option maxRecDepth 100000
set_option maxHeartbeats 40000000
abbrev WW:=Int×Int×List Int
abbrev wQ:WW→SV:=ag3 (iel .u8) (iel .u8) (ivec .i64)
abbrev nilW:WW:=(0,0,[])
def wOK (m:WW):Prop:=(0≤m.1∧m.1<256)∧(0≤m.2.1∧m.2.1<256)∧m.2.2.length≤maxLen∧∀x∈m.2.2, -9223372036854775808≤x∧x<9223372036854775808
def zLw (l:List Int) (n:Nat):List Int:=(List.range n).map fun p=>l.getD p 0
theorem zLw_len (l:List Int) (n:Nat):(zLw l n).length=n:=by simp[zLw]
theorem zLw_get {l:List Int} {n p:Nat} (h:p<n):(zLw l n).getD p 0=l.getD p 0:=by simp[zLw,List.getD_eq_getElem?_getD,h]
theorem i64_at {l:List Int} (h:∀x∈l, -9223372036854775808≤x∧x<9223372036854775808) (p:Nat): -9223372036854775808≤l.getD p 0∧l.getD p 0<9223372036854775808:=by
 by_cases hp:p<l.length
 ·exact h _ (getD_mem hp)
 ·rw[List.getD_eq_getElem?_getD,List.getElem?_eq_none (by omega)];exact⟨by decide,by decide⟩
theorem Zm_zLw {l:List Int} (h:∀x∈l, -9223372036854775808≤x∧x<9223372036854775808) (n:Nat):Zm 65 (zLw l n):=by
 intro p hp
 rw[zLw_len]at hp
 rw[zLw_get hp];obtain⟨a,b⟩:=i64_at h p;exact zs_i64 a b
theorem OKZ_zLw (l:List Int) {r c:Nat} (hr:r≤2048) (hc:c≤2048):OKZ r c (zLw l (r*c)):=⟨hr,hc,zLw_len ..⟩
theorem c_fewW (ms:List WW) (h:ms.length<1000) (hl:∀m∈ms,m.2.2.length≤maxLen):CallOK Tryz.prog 62 [mvec 3 wQ ms] [] (.val (.bool (ms.all fun m=>decide (m.2.2.length≤40)))) [] []:=by
 refine callV (Z:=[]) tabOK mixedOK Tryz.func62 rfl (by kernel_rfl) rfl rfl (by kernel_rfl) rfl ?_
 intro W0 w0 ρ0 hE
 conv=>whnf
 skip
 refine SW_loopN hE (fun k=>k) [0,3] [] (fun m fr hp=>∃i:Nat,m=ms.length - i∧i≤ms.length∧(∀j,j<i→decide ((ms.getD j nilW).2.2.length≤40)=true)∧fr=[(0,mvec 3 wQ ms),(3,iv (i:Nat))]∧hp=[]) ms.length ?_ ?_ ?_
 ·kernel_rfl
 ·exact⟨0,rfl,Nat.zero_le _,(fun j hj=>by omega),rfl,rfl⟩
 rintro m _ _ ⟨i,rfl,hi,hs,rfl,rfl⟩
 conv=>whnf
 by_cases hlt:i<ms.length
 ·have t1:=dlt hlt
  have t2:=winc (i:=i) (by omega)
  by_cases hL:(ms.getD i nilW).2.2.length≤40
  ·have t3:decide (((ms.getD i nilW).2.2.length:Int)>40)=false:=decide_eq_false (by omega)
   (repeat((first|refine tst_tt t1 ?_|refine tst_ff t3 ?_|refine g_o (op_lenM rfl rfl rfl (ev_ok rfl) (tgt rfl) rfl) ?_|refine g_o (op_loadA rfl (ev_ok rfl) (tgt rfl) rfl (Nat.succ_ne_zero _) rfl) ?_|refine g_o (op_fieldA rfl (ev_ok rfl) (tgt rfl) rfl rfl (Nat.succ_ne_zero _) rfl) ?_|refine g_o (op_indexN (α:=WW) (d:=nilW) rfl (ev_ok rfl) (ev_ok rfl) (tgt rfl) rfl (tgt rfl) rfl (by omega)) ?_|rw[t1]|rw[t3]|rw[t2]);conv=>whnf))
   refine⟨ms.length - (i+1),fun k=>k,[0,3],[],by omega,by kernel_rfl,i+1,rfl,hlt, ?_,rfl,rfl⟩
   intro j hj
   by_cases hji:j=i
   ·rw[hji];exact decide_eq_true hL
   ·exact hs j (by omega)
  ·have t3:decide (((ms.getD i nilW).2.2.length:Int)>40)=true:=decide_eq_true (by omega)
   have e:(ms.all fun m=>decide (m.2.2.length≤40))=false:=all_no (d:=nilW) hlt (decide_eq_false hL)
   rw[e]
   (repeat((first|refine tst_tt t1 ?_|refine tst_tt t3 ?_|refine g_o (op_lenM rfl rfl rfl (ev_ok rfl) (tgt rfl) rfl) ?_|refine g_o (op_loadA rfl (ev_ok rfl) (tgt rfl) rfl (Nat.succ_ne_zero _) rfl) ?_|refine g_o (op_fieldA rfl (ev_ok rfl) (tgt rfl) rfl rfl (Nat.succ_ne_zero _) rfl) ?_|refine g_o (op_indexN (α:=WW) (d:=nilW) rfl (ev_ok rfl) (ev_ok rfl) (tgt rfl) rfl (tgt rfl) rfl (by omega)) ?_);conv=>whnf));(first|exact Recast.refl _|exact Frz.recast (Recast.refl _) rfl|(refine Frz.one rfl rfl ?_;skip)|(refine Frz.tup ?_;skip))
 ·have t1:=dge hlt
  obtain rfl:i=ms.length:=by omega
  have e:(ms.all fun m=>decide (m.2.2.length≤40))=true:=all_at nilW hs
  rw[e]
  (repeat(first|(refine tst_ff t1 ?_;conv=>whnf)|(refine g_o (op_lenM rfl rfl rfl (ev_ok rfl) (tgt rfl) rfl) ?_;conv=>whnf)));(first|exact Recast.refl _|exact Frz.recast (Recast.refl _) rfl|(refine Frz.one rfl rfl ?_;skip)|(refine Frz.tup ?_;skip))
theorem c_WOf (m:WW) (hm:wOK m) {r c:Nat} (hr:r≤100) (hc:c≤100):CallOK Tryz.prog 63 [wQ m,iv r,iv c] [] (wA r c (zLw m.2.2 (r*c))) [] []:=by
 obtain⟨A,B,l⟩:=m
 obtain⟨_,_,hl,hq⟩:=hm
 replace hl:l.length≤maxLen:=hl
 have hz:=zLw_len l (r*c)
 have hz2:((zLw l (r*c)).map SV.int).length=r*c:=by rw[List.length_map,hz]
 have hN:r*c≤100*100:=Nat.mul_le_mul hr hc
 have t0:IntKind.i64.wrap ((r:Int)*(c:Int))=((r*c:Nat):Int):=by rw[←Int.natCast_mul,wrap_i64 (by omega) (by omega)]
 generalize r*c=N at*
 refine callF (Z:=[3]) tabOK mixedOK Tryz.func63 rfl (by kernel_rfl) (by first|rfl|(simp[keylessL,keyless,keylessL_map, *];done)) (by first|rfl|(simp[keylessL,keyless,keylessL_map, *];done)) (by kernel_rfl) rfl ?_
 intro w0 ρ0 hE
 conv=>whnf
 skip
 refine SWx_adoptB (j:=7) (k:=2001) (s:=3) (p:=2) (blk:=zB3 []) rfl rfl rfl rfl rfl ?_
 refine SW_loopS hE (fun k=>k) [1,2,3,6,7,8] [6,7,2001] (fun m fr hp=>∃i:Nat,m=N - i∧i≤N∧fr=[(1,iv r),(2,iv c),(3,ptrA [iel .u8 A,iel .u8 B,ivec .i64 l]),(6,.ptr 6 0 0 0),(7,.ptr 7 0 0 0),(8,iv (i:Nat))]∧
  hp=[(6,zW),(7,⟨101,true,.one [iv r,iv c,.slc 2001 3 0 i]⟩),(2001,⟨51,true,.seq 3 (((zLw l N).map SV.int).take i)⟩)]) N ?_ ?_ ?_
 ·kernel_rfl
 ·exact⟨0,rfl,Nat.zero_le _,rfl,rfl⟩
 rintro m _ _ ⟨i,rfl,hi,rfl,rfl⟩
 have hlt0:(((zLw l N).map SV.int).take i).length=i:=by rw[List.length_take];omega
 by_cases hlt:i<N
 ·have t1:=dlt hlt
  have t2:=winc (i:=i) (by omega)
  obtain⟨b1,b2⟩:=i64_at hq i
  have o1:=c_iOf (l.getD i 0) b1 b2
  have e1:=app_one (d:=SV.int 0) (show i<((zLw l N).map SV.int).length by omega)
  rw[map_getD (d:=0) (by omega),zLw_get hlt]at e1
  refine SWx.of hE ?_
  conv=>whnf
  by_cases hil:i<l.length
  ·have t3:=dlt hil
   (repeat((first|refine step_i (by kernel_rfl) ?_|refine step_oA (by first|omega|decide|(simp only[tl0,dlen,List.length_replicate,List.length_set,List.length_map,List.length_zipWith,List.length_take,List.length_append,List.length_cons,List.length_nil];omega)) ?_|refine g_c (by assumption) ?_|refine tst_tt t1 ?_|refine tst_tt t3 ?_|refine g_o (op_lenM rfl rfl rfl (ev_ok rfl) (tgt rfl) rfl) ?_|refine g_o (op_loadA rfl (ev_ok rfl) (tgt rfl) rfl (Nat.succ_ne_zero _) rfl) ?_|refine g_o (op_indexN (α:=Int) (d:=0) rfl (ev_ok rfl) (ev_ok rfl) (tgt rfl) rfl (tgt rfl) rfl (by omega)) ?_|refine g_o (op_fieldA rfl (ev_ok rfl) (tgt rfl) rfl rfl (Nat.succ_ne_zero _) rfl) ?_|rw[t0]|rw[t1]|rw[t3]|rw[t2]|rw[Nat.zero_add]);conv=>whnf))
   refine⟨N - (i+1),renBy [(35,2001)],[1,2,3,6,7,8],[6,7,35],by omega,by kernel_rfl,i+1,rfl,hlt,rfl, ?_⟩
   rw[e1];rfl
  ·have t3:=dge hil
   have e2:l.getD i 0=0:=by rw[List.getD_eq_getElem?_getD,List.getElem?_eq_none (by omega)];rfl
   rw[e2]at o1 e1
   (repeat((first|refine step_i (by kernel_rfl) ?_|refine step_oA (by first|omega|decide|(simp only[tl0,dlen,List.length_replicate,List.length_set,List.length_map,List.length_zipWith,List.length_take,List.length_append,List.length_cons,List.length_nil];omega)) ?_|refine g_c (by assumption) ?_|refine tst_tt t1 ?_|refine tst_ff t3 ?_|refine g_o (op_lenM rfl rfl rfl (ev_ok rfl) (tgt rfl) rfl) ?_|refine g_o (op_loadA rfl (ev_ok rfl) (tgt rfl) rfl (Nat.succ_ne_zero _) rfl) ?_|refine g_o (op_fieldA rfl (ev_ok rfl) (tgt rfl) rfl rfl (Nat.succ_ne_zero _) rfl) ?_|rw[t0]|rw[t1]|rw[t3]|rw[t2]|rw[Nat.zero_add]);conv=>whnf))
   refine⟨N - (i+1),renBy [(35,2001)],[1,2,3,6,7,8],[6,7,35],by omega,by kernel_rfl,i+1,rfl,hlt,rfl, ?_⟩
   rw[e1];rfl
 ·have t1:=dge hlt
  obtain rfl:i=N:=by omega
  rw[List.take_of_length_le (by omega)]
  refine SWx.of hE ?_
  conv=>whnf
  (repeat(first|(refine tst_ff t1 ?_;conv=>whnf)|(rw[t0];conv=>whnf)))
  (first|exact Recast.refl _|exact Frz.recast (Recast.refl _) rfl|(refine Frz.one rfl rfl ?_;(repeat(first|exact FrzC.keyless rfl|exact FrzL.nil|refine FrzL.cons ?_ ?_|refine FrzC.agg ?_|(refine FrzC.seq rfl (by first|rfl|(apply keylessL_map;intro _;rfl)) ?_;(first|rfl|omega|(simp<;>fail)|(simp<;>omega))))))|(refine Frz.tup ?_;skip))
abbrev WWf (m:WW):Prop:=((Lit.int .u8 m.1).wf=true)∧((Lit.int .u8 m.2.1).wf=true)∧(m.2.2.length≤maxLen∧∀x∈m.2.2,(Lit.int .i64 x).wf=true)
theorem wOK_of {m:WW} (w:WWf m):wOK m:=⟨wf_u8 w.1,wf_u8 w.2.1,w.2.2.1,fun x h=>wf_i64 (w.2.2.2 x h)⟩
end Go.Proofs.YtbopchpncgdaaaaGreatDoor
namespace Go.Proofs.YtbopchpncgdaaaaGreatDoor
open Go.Sx
set_option linter.unusedSimpArgs false
set_option linter.unusedVariables false
set_option maxRecDepth 100000
set_option maxHeartbeats 40000000
theorem pow6 {k:Nat} (h:k<6):2*(65*4^k)≤1073741824:=by
 have:4^k≤4^6:=Nat.pow_le_pow_right (by decide) (by omega)
 omega
end Go.Proofs.YtbopchpncgdaaaaGreatDoor
namespace Go.Proofs.YtbopchpncgdaaaaGreatDoor
open Go.Sx
set_option linter.unusedSimpArgs false
set_option linter.unusedVariables false
set_option maxRecDepth 100000
set_option maxHeartbeats 40000000
theorem ofInts_len (l:List Int):(ofInts l).length=l.length:=by simp[ofInts]
theorem ofInts_at {l:List Int} {i:Nat} (h:i<l.length):(ofInts l).getD i 0=((l.getD i 0:Int):Rat):=map_getD h
theorem ofInts_Sm {l:List Int} {B:Nat} (h:Zm B l):Sm (B+1) (ofInts l):=by
 intro p hp
 rw[ofInts_len]at hp
 rw[ofInts_at hp];have:=fs_zs (l.getD p 0);have:=h p hp;omega
theorem el_ofInts {l:List Int} {r c i k:Nat} (hl:l.length=r*c) (hi:i<r) (hk:k<c):el (ofInts l) c i k=((elz l c i k:Int):Rat):=ofInts_at (by rw[hl];exact idx_lt hi hk)
theorem lw_frac (n:Int) (h:zs n≤536870912):CallOK Tryz.prog 47 [.int n] [] (.frac n) [] []:=by
 have k1:=c_nOf 1 (by decide)
 have k2:=c_fFrom natBig n 1 (by unfold zs at h;omega) (by rw[sz_one];decide) (by decide)
 rw[Rat.mkRat_one]at k2
 refine callV (Z:=[]) tabOK mixedOK Tryz.func47 rfl (by kernel_rfl) rfl rfl (by kernel_rfl) rfl ?_
 intro W0 w0 ρ0 hE
 conv=>whnf
 (repeat(first|(refine step_i (by kernel_rfl) ?_;conv=>whnf)|(refine g_c (by assumption) ?_;conv=>whnf)));(first|exact Recast.refl _|exact Frz.recast (Recast.refl _) rfl|(refine Frz.one rfl rfl ?_;skip)|(refine Frz.tup ?_;skip))
theorem zs_le_fs (z:Int):zs z≤fs (z:Rat):=by
 have:=fsz_num (z:Rat)
 rw[Rat.num_intCast]at this
 unfold zs fs;omega
theorem pS_70 {n B m:Nat} (hn:n≤5) (hB:B≤70) (hm:m≤5):pS n B m≤300000:=by
 have h:∀m,pS n B m≤pS 5 70 m:=by
  intro m
  induction m with
  |zero=>exact Nat.le_refl _
  |succ m ih=>exact Nat.add_le_add_left (Nat.mul_le_mul hn (Nat.add_le_add hB ih)) 2
 refine Nat.le_trans (h m) ?_
 obtain rfl|rfl|rfl|rfl|rfl|rfl:m=0∨m=1∨m=2∨m=3∨m=4∨m=5:=by omega
 all_goals decide
theorem detZ_zs {n B:Nat} {A:Mz} (hn:n≤5) (hB:B≤69) (h:∀i k,i<n→k<n→zs (A i k)≤B):zs (detZ n A)≤300000:=by
 refine Nat.le_trans (zs_le_fs _) ?_
 rw[detZ_cast]
 have:=picks_fs (n:=n) (B:=B+1) (a:=mk n n (toR A)) (mk_len ..) (Sm_mk fun i k hi hk=>by have:=fs_zs (A i k);have:=h i k hi hk;show fs ((A i k:Int):Rat)≤_;omega) n 0 [] (Nat.zero_add _)
 rw[picks_det,det_congr (B:=toR A) fun i k hi hk=>mk_el hi hk]at this
 exact Nat.le_trans this (pS_70 hn (by omega) hn)
end Go.Proofs.YtbopchpncgdaaaaGreatDoor
namespace Go.Proofs.YtbopchpncgdaaaaGreatDoor
open Go.Sx
set_option linter.unusedSimpArgs false
set_option linter.unusedVariables false
set_option maxRecDepth 100000
set_option maxHeartbeats 40000000
theorem redS_inv (r c:Nat) (W:Mx) {s:St} (hs:redS r c W=s):s.piv.length≤r∧∀j,j<s.piv.length→s.piv.getD j 0<c:=by
 have h:=red_agree r W c
 rw[show red2F r c ⟨W,[],1⟩=s from hs]at h
 have hi:=Inv.red (r:=r) (W:=W) c
 exact⟨h.le,fun j hj=>by rw[h.piv]at hj ⊢;exact hi.lt j hj⟩
end Go.Proofs.YtbopchpncgdaaaaGreatDoor
