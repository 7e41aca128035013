/- The texts Bl. -/
import Derived.Test.YtbopchpncgdaaaaGreatDoorQLElimsErrors1
namespace Go.Proofs.YtbopchpncgdaaaaGreatDoor
open Go.Sx
set_option linter.unusedSimpArgs false
set_option linter.unusedVariables false
set_option maxRecDepth 100000
set_option maxHeartbeats 40000000
abbrev rowsB (l:List (List Rat)):Blk:=⟨22,true,.seq 1 (l.map fvec)⟩
theorem rowsB_take {l:List (List Rat)} {i:Nat} (hi:i<l.length):rowsB (l.take (i+1))=⟨22,true,.seq 1 (List.take i ((l.take i).map fvec)++List.take 1 (List.drop 0 [fvec (l.getD i [])]))⟩:=by
 have hl:((l.take i).map fvec).length=i:=by rw[List.length_map,List.length_take];omega
 have e:l.take (i+1)=l.take i++[l.getD i []]:=by rw[List.take_add_one,List.getD_eq_getElem?_getD,List.getElem?_eq_getElem hi];rfl
 rw[rowsB,e,List.map_append,List.take_of_length_le (l:=(l.take i).map fvec) (by omega)];rfl
theorem rows_kl (l:List (List Rat)):keylessL (l.map fvec)=true:=keylessL_map (fun _=>rfl) _
theorem has_wn {ρ:Rho} {m:Nat} {x:SV} (z:List (List Value)) (h:HasZ ρ [x,iv m,.val (.slice none 0 0),.frac 1] z):HasZ ρ [x,iv m,ivec .i64 [],.frac 1] z:=by
 simp only[HasZ]at h ⊢
 obtain⟨x,r,rfl,h1,y,r2,rfl,h2,z,r3,rfl,h3,h4⟩:=h
 exact⟨x,_,rfl,h1,y,_,rfl,h2,z,_,rfl,nil_vec h3,h4⟩
theorem e_begunA0 {r c:Nat} (more:Nat) (a:List Rat) (b:Mx) (g:FuncId) (hr:r≤2000) (ha:OKM r c a) (hc:c≤40) (hm:more≤60)
  (hb:∀i k,i<r→k<more→CallOK Tryz.prog g ([]++([iv (i:Nat),iv (k:Nat)]++[])) [] (.frac (b i k)) [] []):
  CallOK Tryz.prog 73 [mA r c a,iv more,.clo g [] []] [] (wkA r c (c+more) (rowsM (c+more) (augW a c b)) [] 1) [] []:=by
 have t0:IntKind.i64.wrap ((c:Int)+(more:Int))=((c+more:Nat):Int):=by rw[wrap_i64 (by omega) (by omega)];omega
 have k0:CallOK Tryz.prog 41 [iv 1] [] (.frac 1) [] []:=c_fInt 1 (by decide) (by decide)
 obtain⟨L,hL⟩:∃L,(List.range r).map (rowsM (c+more) (augW a c b))=L:=⟨_,rfl⟩
 have lL:L.length=r:=by rw[←hL];simp
 have hLg:∀i,i<r→L.getD i []=rwL (c+more) (augW a c b i):=fun i hi=>by rw[←hL];simp[List.getD_eq_getElem?_getD,hi]
 refine callF (Z:=[3,100012,100014]) tabOK mixedOK Tryz.func73 rfl (by kernel_rfl) (by first|rfl|(simp[keylessL,keyless,keylessL_map, *];done)) (by first|rfl|(simp[keylessL,keyless,keylessL_map, *];done)) (by kernel_rfl) rfl ?_
 intro w0 ρ0 hE
 conv=>whnf
 (repeat((first|refine step_i (by kernel_rfl) ?_|refine g_c (by assumption) ?_|refine g_o (op_loadA rfl (ev_ok rfl) (tgt rfl) rfl (Nat.succ_ne_zero _) rfl) ?_|refine g_o (op_fieldA rfl (ev_ok rfl) (tgt rfl) rfl rfl (Nat.succ_ne_zero _) rfl) ?_);conv=>whnf))
 refine SWx_adoptB (j:=15) (k:=1002) (s:=1) (p:=0) (blk:=rowsB []) rfl rfl rfl rfl rfl ?_
 refine SW_loopN hE (fun k=>k) [1,2,3,7,17,18] [15,1002] (fun m' fr hp=>∃i:Nat,m'=r - i∧i≤r∧fr=[(1,iv more),(2,.clo g [] []),(3,ptrA (mC r c a)),(7,.ptr 15 0 0 0),(17,iv r),(18,iv i)]∧
  hp=[(15,⟨147,true,.one [.slc 1002 1 0 i,iv c,.val (.slice none 0 0),.frac 1]⟩),(1002,rowsB (L.take i))]) r ?_ ?_ ?_
 ·kernel_rfl
 ·exact⟨0,rfl,Nat.zero_le _,rfl,rfl⟩
 rintro m' _ _ ⟨i,rfl,hi,rfl,rfl⟩
 have hlt0:((L.take i).map fvec).length=i:=by rw[List.length_map,List.length_take];omega
 conv=>whnf
 by_cases hlt:i<r
 ·have t1:=dlt hlt
  have t2:=winc (i:=i) (by omega)
  obtain⟨t3,t4,t5⟩:=row_w (i:=i) (c:=c) (by omega) (by omega)
  have hil:=rowL_len hlt ha.n
  have hps:=par_start (more:=more) b hlt ha.n
  have hin2:(i+1)*c≤a.length:=by rw[ha.n];exact Nat.mul_le_mul_right c hlt
  have hX:List.take ((i+1)*c - i*c) (List.drop (i*c) a)=rowL a c i:=by rw[Nat.succ_mul,Nat.add_sub_cancel_left]
  have hic:i*c≤(i+1)*c:=Nat.mul_le_mul_right c (by omega)
  (repeat(first|(refine step_oA (by first|omega|decide|(simp only[tl0,dlen,List.length_replicate,List.length_set,List.length_map,List.length_zipWith,List.length_take,List.length_append,List.length_cons,List.length_nil];omega)) ?_;conv=>whnf)|(refine tst_tt t1 ?_;conv=>whnf)|(refine g_o (op_loadA rfl (ev_ok rfl) (tgt rfl) rfl (Nat.succ_ne_zero _) rfl) ?_;conv=>whnf)|(refine g_o (op_fieldA rfl (ev_ok rfl) (tgt rfl) rfl rfl (Nat.succ_ne_zero _) rfl) ?_;conv=>whnf)|(refine g_o (op_sliceM rfl (ev_ok rfl) (bound_spec rfl) (bound_spec rfl) (.inl rfl) (tgt rfl) rfl (tgt rfl) rfl (by omega)) ?_;conv=>whnf)|(refine⟨_,[(25,fblk (List.replicate (c+more) 0))],[],[(25,fblk (rowL a c _++List.replicate more 0))],op_copyV (c:=c) (n:=c+more) (m:=c) (i:=0) (k:=25) rfl rfl rfl (ev_ok rfl) (ev_ok rfl) (rows_fracs _) (tabOK.get (t:=22) rfl) rfl (tabOK.get (t:=53) rfl) (List.mem_cons_self ..) rfl rfl (by simp[dlen]) (by rw[List.length_map];exact hil.symm) (by show 0+c≤List.length _;omega) (Nat.min_eq_left (Nat.le_add_right _ _)).symm (copy_row hil),one_fk rfl,nil_new,one_upd (List.mem_cons_self ..) rfl rfl rfl, ?_⟩;conv=>whnf)|(rw[t0];conv=>whnf)|(rw[t1];conv=>whnf)|(rw[t3];conv=>whnf)|(rw[t4];conv=>whnf)|(rw[t5];conv=>whnf)|(rw[hX];conv=>whnf)|(rw[Int.toNat_natCast];conv=>whnf)))
  refine SW_loopN hE (fun k=>k) [1,2,3,7,8,9,17,18,40,41] [15,25,1002] (fun m'' fr hp=>∃k:Nat,m''=more - k∧k≤more∧fr=[(1,iv more),(2,.clo g [] []),(3,ptrA (mC r c a)),(7,.ptr 15 0 0 0),(8,iv i),(9,.slc 25 5 0 (c+more)),(17,iv r),(18,iv i),(40,iv more),(41,iv k)]∧
   hp=[(15,⟨147,true,.one [.slc 1002 1 0 i,iv c,.val (.slice none 0 0),.frac 1]⟩),(25,fblk (rwL (c+more) (parW a c b i k))),(1002,rowsB (L.take i))]) more ?_ ?_ ?_
  ·kernel_rfl
  ·exact⟨0,rfl,Nat.zero_le _,rfl,by rw[←hps];rfl⟩
  rintro m'' _ _ ⟨k,rfl,hk,rfl,rfl⟩
  have hz:=rwL_len (c+more) (parW a c b i k)
  conv=>whnf
  by_cases hkm:k<more
  ·have t6:=dlt hkm
   have t7:=winc (i:=k) (by omega)
   have t8:IntKind.i64.wrap ((c:Int)+(k:Int))=((c+k:Nat):Int):=by rw[wrap_i64 (by omega) (by omega)];omega
   have kb:=hb i k hlt hkm
   have hset:=par_set (a:=a) (b:=b) (c:=c) (i:=i) hkm
   (repeat((first|refine step_i (by kernel_rfl) ?_|refine step_oL (by first|omega|decide|(simp only[tl0,dlen,List.length_replicate,List.length_set,List.length_map,List.length_zipWith,List.length_take,List.length_append,List.length_cons,List.length_nil];omega)) ?_|refine step_oA (by first|omega|decide|(simp only[tl0,dlen,List.length_replicate,List.length_set,List.length_map,List.length_zipWith,List.length_take,List.length_append,List.length_cons,List.length_nil];omega)) ?_|refine g_c (by assumption) ?_|refine tst_tt t6 ?_|refine g_o (op_loadA rfl (ev_ok rfl) (tgt rfl) rfl (Nat.succ_ne_zero _) rfl) ?_|refine g_o (op_fieldA rfl (ev_ok rfl) (tgt rfl) rfl rfl (Nat.succ_ne_zero _) rfl) ?_|rw[t6]|rw[t7]|rw[t8]|rw[Int.toNat_natCast]|rw[Nat.zero_add]);conv=>whnf))
   exact⟨more - (k+1),fun k=>k,[1,2,3,7,8,9,17,18,40,41],[15,25,1002],by omega,by kernel_rfl,k+1,rfl,hkm,rfl,by rw[←hset];rfl⟩
  ·have t6:=dge hkm
   obtain rfl:k=more:=by omega
   have hpe:=par_end (a:=a) (b:=b) (c:=c) (more:=k) (i:=i)
   have e3:=rowsB_take (l:=L) (i:=i) (by omega)
   rw[hLg i hlt]at e3
   rw[hpe]at hz
   rw[hpe]
   (repeat(first|(refine tst_ff t6 ?_;conv=>whnf)|(rw[t6];conv=>whnf)))
   refine SWx_freezeF 9 25 (fun _ h=>h) rfl rfl hz.symm ?_
   refine SWx_go hE ?_
   conv=>whnf
   (repeat(first|(refine step_oA (by first|omega|decide|(simp only[tl0,dlen,List.length_replicate,List.length_set,List.length_map,List.length_zipWith,List.length_take,List.length_append,List.length_cons,List.length_nil];omega)) ?_;conv=>whnf)|(rw[t2];conv=>whnf)|(rw[Nat.zero_add];conv=>whnf)))
   refine⟨r - (i+1),renBy [(62,1002)],[1,2,3,7,17,18],[15,62],by omega,by kernel_rfl,i+1,rfl,hlt,rfl, ?_⟩
   rw[e3];rfl
 ·have t1:=dge hlt
  obtain rfl:i=r:=by omega
  rw[List.take_of_length_le (by omega)]
  (repeat(first|(refine tst_ff t1 ?_;conv=>whnf)|(rw[t1];conv=>whnf)))
  refine⟨fun a' W' hR=> ?_⟩
  have hR1:=freezeCS (jj:=15) (pp:=0) (k:=1002) (n:=i) (fun _ h=>h) rfl (by decide) rfl rfl (rows_kl L) (by rw[List.length_map,lL]) hR
  have hR2:=retell_RR (j:=15) rfl (fun _ z hz=>has_wn z hz) hR1
  have hR3:=freezeP_RR 7 15 (fun _ h=>h) rfl rfl rfl hR2
  refine(SWx_go hE ?_).run a' W' hR3
  rw[←hL]
  conv=>whnf
  skip;(first|exact Recast.refl _|exact Frz.recast (Recast.refl _) rfl|(refine Frz.one rfl rfl ?_;skip)|(refine Frz.tup ?_;skip))
theorem e_begunA1 {r c:Nat} (more:Nat) (a:List Rat) (b:Mx) (g:FuncId) (p:Pred) (hr:r≤2000) (ha:OKM r c a) (hc:c≤40) (hm:more≤60)
  (hb:∀i k,i<r→k<more→CallOK Tryz.prog g ([]++([iv (i:Nat),iv (k:Nat)]++[.atom p])) [] (.frac (b i k)) [] []):
  CallOK Tryz.prog 73 [mA r c a,iv more,.clo g [] [.atom p]] [] (wkA r c (c+more) (rowsM (c+more) (augW a c b)) [] 1) [] []:=by
 have t0:IntKind.i64.wrap ((c:Int)+(more:Int))=((c+more:Nat):Int):=by rw[wrap_i64 (by omega) (by omega)];omega
 have k0:CallOK Tryz.prog 41 [iv 1] [] (.frac 1) [] []:=c_fInt 1 (by decide) (by decide)
 obtain⟨L,hL⟩:∃L,(List.range r).map (rowsM (c+more) (augW a c b))=L:=⟨_,rfl⟩
 have lL:L.length=r:=by rw[←hL];simp
 have hLg:∀i,i<r→L.getD i []=rwL (c+more) (augW a c b i):=fun i hi=>by rw[←hL];simp[List.getD_eq_getElem?_getD,hi]
 refine callF (Z:=[3,100012,100014]) tabOK mixedOK Tryz.func73 rfl (by kernel_rfl) (by first|rfl|(simp[keylessL,keyless,keylessL_map, *];done)) (by first|rfl|(simp[keylessL,keyless,keylessL_map, *];done)) (by kernel_rfl) rfl ?_
 intro w0 ρ0 hE
 conv=>whnf
 (repeat((first|refine step_i (by kernel_rfl) ?_|refine g_c (by assumption) ?_|refine g_o (op_loadA rfl (ev_ok rfl) (tgt rfl) rfl (Nat.succ_ne_zero _) rfl) ?_|refine g_o (op_fieldA rfl (ev_ok rfl) (tgt rfl) rfl rfl (Nat.succ_ne_zero _) rfl) ?_);conv=>whnf))
 refine SWx_adoptB (j:=15) (k:=1002) (s:=1) (p:=0) (blk:=rowsB []) rfl rfl rfl rfl rfl ?_
 refine SW_loopN hE (fun k=>k) [1,2,3,7,17,18] [15,1002] (fun m' fr hp=>∃i:Nat,m'=r - i∧i≤r∧fr=[(1,iv more),(2,.clo g [] [.atom p]),(3,ptrA (mC r c a)),(7,.ptr 15 0 0 0),(17,iv r),(18,iv i)]∧
  hp=[(15,⟨147,true,.one [.slc 1002 1 0 i,iv c,.val (.slice none 0 0),.frac 1]⟩),(1002,rowsB (L.take i))]) r ?_ ?_ ?_
 ·kernel_rfl
 ·exact⟨0,rfl,Nat.zero_le _,rfl,rfl⟩
 rintro m' _ _ ⟨i,rfl,hi,rfl,rfl⟩
 have hlt0:((L.take i).map fvec).length=i:=by rw[List.length_map,List.length_take];omega
 conv=>whnf
 by_cases hlt:i<r
 ·have t1:=dlt hlt
  have t2:=winc (i:=i) (by omega)
  obtain⟨t3,t4,t5⟩:=row_w (i:=i) (c:=c) (by omega) (by omega)
  have hil:=rowL_len hlt ha.n
  have hps:=par_start (more:=more) b hlt ha.n
  have hin2:(i+1)*c≤a.length:=by rw[ha.n];exact Nat.mul_le_mul_right c hlt
  have hX:List.take ((i+1)*c - i*c) (List.drop (i*c) a)=rowL a c i:=by rw[Nat.succ_mul,Nat.add_sub_cancel_left]
  have hic:i*c≤(i+1)*c:=Nat.mul_le_mul_right c (by omega)
  (repeat(first|(refine step_oA (by first|omega|decide|(simp only[tl0,dlen,List.length_replicate,List.length_set,List.length_map,List.length_zipWith,List.length_take,List.length_append,List.length_cons,List.length_nil];omega)) ?_;conv=>whnf)|(refine tst_tt t1 ?_;conv=>whnf)|(refine g_o (op_loadA rfl (ev_ok rfl) (tgt rfl) rfl (Nat.succ_ne_zero _) rfl) ?_;conv=>whnf)|(refine g_o (op_fieldA rfl (ev_ok rfl) (tgt rfl) rfl rfl (Nat.succ_ne_zero _) rfl) ?_;conv=>whnf)|(refine g_o (op_sliceM rfl (ev_ok rfl) (bound_spec rfl) (bound_spec rfl) (.inl rfl) (tgt rfl) rfl (tgt rfl) rfl (by omega)) ?_;conv=>whnf)|(refine⟨_,[(25,fblk (List.replicate (c+more) 0))],[],[(25,fblk (rowL a c _++List.replicate more 0))],op_copyV (c:=c) (n:=c+more) (m:=c) (i:=0) (k:=25) rfl rfl rfl (ev_ok rfl) (ev_ok rfl) (rows_fracs _) (tabOK.get (t:=22) rfl) rfl (tabOK.get (t:=53) rfl) (List.mem_cons_self ..) rfl rfl (by simp[dlen]) (by rw[List.length_map];exact hil.symm) (by show 0+c≤List.length _;omega) (Nat.min_eq_left (Nat.le_add_right _ _)).symm (copy_row hil),one_fk rfl,nil_new,one_upd (List.mem_cons_self ..) rfl rfl rfl, ?_⟩;conv=>whnf)|(rw[t0];conv=>whnf)|(rw[t1];conv=>whnf)|(rw[t3];conv=>whnf)|(rw[t4];conv=>whnf)|(rw[t5];conv=>whnf)|(rw[hX];conv=>whnf)|(rw[Int.toNat_natCast];conv=>whnf)))
  refine SW_loopN hE (fun k=>k) [1,2,3,7,8,9,17,18,40,41] [15,25,1002] (fun m'' fr hp=>∃k:Nat,m''=more - k∧k≤more∧fr=[(1,iv more),(2,.clo g [] [.atom p]),(3,ptrA (mC r c a)),(7,.ptr 15 0 0 0),(8,iv i),(9,.slc 25 5 0 (c+more)),(17,iv r),(18,iv i),(40,iv more),(41,iv k)]∧
   hp=[(15,⟨147,true,.one [.slc 1002 1 0 i,iv c,.val (.slice none 0 0),.frac 1]⟩),(25,fblk (rwL (c+more) (parW a c b i k))),(1002,rowsB (L.take i))]) more ?_ ?_ ?_
  ·kernel_rfl
  ·exact⟨0,rfl,Nat.zero_le _,rfl,by rw[←hps];rfl⟩
  rintro m'' _ _ ⟨k,rfl,hk,rfl,rfl⟩
  have hz:=rwL_len (c+more) (parW a c b i k)
  conv=>whnf
  by_cases hkm:k<more
  ·have t6:=dlt hkm
   have t7:=winc (i:=k) (by omega)
   have t8:IntKind.i64.wrap ((c:Int)+(k:Int))=((c+k:Nat):Int):=by rw[wrap_i64 (by omega) (by omega)];omega
   have kb:=hb i k hlt hkm
   have hset:=par_set (a:=a) (b:=b) (c:=c) (i:=i) hkm
   (repeat((first|refine step_i (by kernel_rfl) ?_|refine step_oL (by first|omega|decide|(simp only[tl0,dlen,List.length_replicate,List.length_set,List.length_map,List.length_zipWith,List.length_take,List.length_append,List.length_cons,List.length_nil];omega)) ?_|refine step_oA (by first|omega|decide|(simp only[tl0,dlen,List.length_replicate,List.length_set,List.length_map,List.length_zipWith,List.length_take,List.length_append,List.length_cons,List.length_nil];omega)) ?_|refine g_c (by assumption) ?_|refine tst_tt t6 ?_|refine g_o (op_loadA rfl (ev_ok rfl) (tgt rfl) rfl (Nat.succ_ne_zero _) rfl) ?_|refine g_o (op_fieldA rfl (ev_ok rfl) (tgt rfl) rfl rfl (Nat.succ_ne_zero _) rfl) ?_|rw[t6]|rw[t7]|rw[t8]|rw[Int.toNat_natCast]|rw[Nat.zero_add]);conv=>whnf))
   exact⟨more - (k+1),fun k=>k,[1,2,3,7,8,9,17,18,40,41],[15,25,1002],by omega,by kernel_rfl,k+1,rfl,hkm,rfl,by rw[←hset];rfl⟩
  ·have t6:=dge hkm
   obtain rfl:k=more:=by omega
   have hpe:=par_end (a:=a) (b:=b) (c:=c) (more:=k) (i:=i)
   have e3:=rowsB_take (l:=L) (i:=i) (by omega)
   rw[hLg i hlt]at e3
   rw[hpe]at hz
   rw[hpe]
   (repeat(first|(refine tst_ff t6 ?_;conv=>whnf)|(rw[t6];conv=>whnf)))
   refine SWx_freezeF 9 25 (fun _ h=>h) rfl rfl hz.symm ?_
   refine SWx_go hE ?_
   conv=>whnf
   (repeat(first|(refine step_oA (by first|omega|decide|(simp only[tl0,dlen,List.length_replicate,List.length_set,List.length_map,List.length_zipWith,List.length_take,List.length_append,List.length_cons,List.length_nil];omega)) ?_;conv=>whnf)|(rw[t2];conv=>whnf)|(rw[Nat.zero_add];conv=>whnf)))
   refine⟨r - (i+1),renBy [(62,1002)],[1,2,3,7,17,18],[15,62],by omega,by kernel_rfl,i+1,rfl,hlt,rfl, ?_⟩
   rw[e3];rfl
 ·have t1:=dge hlt
  obtain rfl:i=r:=by omega
  rw[List.take_of_length_le (by omega)]
  (repeat(first|(refine tst_ff t1 ?_;conv=>whnf)|(rw[t1];conv=>whnf)))
  refine⟨fun a' W' hR=> ?_⟩
  have hR1:=freezeCS (jj:=15) (pp:=0) (k:=1002) (n:=i) (fun _ h=>h) rfl (by decide) rfl rfl (rows_kl L) (by rw[List.length_map,lL]) hR
  have hR2:=retell_RR (j:=15) rfl (fun _ z hz=>has_wn z hz) hR1
  have hR3:=freezeP_RR 7 15 (fun _ h=>h) rfl rfl rfl hR2
  refine(SWx_go hE ?_).run a' W' hR3
  rw[←hL]
  conv=>whnf
  skip;(first|exact Recast.refl _|exact Frz.recast (Recast.refl _) rfl|(refine Frz.one rfl rfl ?_;skip)|(refine Frz.tup ?_;skip))
theorem e_reduceF {r m c:Nat} {M:Nat→List Rat} {d:Rat} (hr:r≤2000) (hmc:m≤c) (hc:c≤4096) (hM:∀i,i<r→(M i).length=c∧∀k,k<m→(M i).getD k 0=0):
  CallOK Tryz.prog 75 [wkA r m c M [] d] [] (wkA r m c M [] d) [] []:=by
 have hrl:=rM_len r M
 have ks:=c_fSign 0
 refine callV (Z:=[]) tabOK mixedOK Tryz.func75 rfl (by kernel_rfl) rfl rfl (by kernel_rfl) rfl ?_
 intro W0 w0 ρ0 hE
 conv=>whnf
 (repeat(first|(refine g_o (op_loadA rfl (ev_ok rfl) (tgt rfl) rfl (Nat.succ_ne_zero _) rfl) ?_;conv=>whnf)|(refine g_o (op_fieldA rfl (ev_ok rfl) (tgt rfl) rfl rfl (Nat.succ_ne_zero _) rfl) ?_;conv=>whnf)|(refine g_o (op_nilCheckA rfl (ev_ok rfl)) ?_;conv=>whnf)))
 refine SW_loopN hE (fun k=>k) [0,9,10] [] (fun m' fr hp=>∃k:Nat,m'=m - k∧k≤m∧fr=[(0,wkA r m c M [] d),(9,iv m),(10,iv k)]∧hp=[]) m ?_ ?_ ?_
 ·kernel_rfl
 ·exact⟨0,rfl,Nat.zero_le _,rfl,rfl⟩
 rintro m' _ _ ⟨k,rfl,hk,rfl,rfl⟩
 conv=>whnf
 by_cases hlt:k<m
 ·have t1:=dlt hlt
  have t2:=winc (i:=k) (by omega)
  (repeat((first|refine tst_tt t1 ?_|refine g_o (op_lenM rfl rfl rfl (ev_ok rfl) (tgt rfl) rfl) ?_|refine g_o (op_loadA rfl (ev_ok rfl) (tgt rfl) rfl (Nat.succ_ne_zero _) rfl) ?_|refine g_o (op_fieldA rfl (ev_ok rfl) (tgt rfl) rfl rfl (Nat.succ_ne_zero _) rfl) ?_|refine g_o (op_nilCheckA rfl (ev_ok rfl)) ?_|rw[t1]);conv=>whnf))
  refine SW_loopN hE (fun k=>k) [0,3,4,5,9,10] [] (fun m' fr hp=>∃i:Nat,m'=r - i∧i≤r∧fr=[(0,wkA r m c M [] d),(3,iv k),(4,iv (0:Nat)),(5,iv i),(9,iv m),(10,iv k)]∧hp=[]) r ?_ ?_ ?_
  ·kernel_rfl
  ·exact⟨0,rfl,Nat.zero_le _,rfl,rfl⟩
  rintro m' _ _ ⟨i,rfl,hi,rfl,rfl⟩
  conv=>whnf
  by_cases hir:i<r
  ·have t3:decide ((i:Int)<(((List.range r).map M).length:Int))=true:=by rw[hrl];exact dlt hir
   have t4:=winc (i:=i) (by omega)
   have g2:=rM_get (M:=M) hir
   obtain⟨g3,g4⟩:=hM i hir
   have g5:=g4 k hlt
   have t5:((0:Rat).num.sign==0)=true:=rfl
   have b1:i<((List.range r).map M).length:=by omega
   clear hM g4
   (repeat((first|refine step_w1 rfl rfl ?_|refine g_c (by assumption) ?_|refine tst_tt t3 ?_|refine g_o (op_lenM rfl rfl rfl (ev_ok rfl) (tgt rfl) rfl) ?_|refine g_o (op_indexN (α:=Rat) (d:=0) rfl (ev_ok rfl) (ev_ok rfl) (tgt rfl) rfl (tgt rfl) rfl (by omega)) ?_|refine g_o (op_loadA rfl (ev_ok rfl) (tgt rfl) rfl (Nat.succ_ne_zero _) rfl) ?_|refine g_o (op_indexN (α:=List Rat) (d:=[]) rfl (ev_ok rfl) (ev_ok rfl) (tgt rfl) rfl (tgt rfl) rfl (by omega)) ?_|refine g_o (op_fieldA rfl (ev_ok rfl) (tgt rfl) rfl rfl (Nat.succ_ne_zero _) rfl) ?_|refine g_o (op_nilCheckA rfl (ev_ok rfl)) ?_|rw[t3]|rw[t4]|rw[g2]|rw[g5]|rw[t5]);conv=>whnf))
   exact⟨r - (i+1),fun k=>k,[0,3,4,5,9,10],[],by omega,by kernel_rfl,i+1,rfl,hir,rfl,rfl⟩
  ·have t3:decide ((i:Int)<(((List.range r).map M).length:Int))=false:=by rw[hrl];exact dge hir
   (repeat((first|refine tst_ff t3 ?_|refine g_o (op_lenM rfl rfl rfl (ev_ok rfl) (tgt rfl) rfl) ?_|refine g_o (op_loadA rfl (ev_ok rfl) (tgt rfl) rfl (Nat.succ_ne_zero _) rfl) ?_|refine g_o (op_fieldA rfl (ev_ok rfl) (tgt rfl) rfl rfl (Nat.succ_ne_zero _) rfl) ?_|refine g_o (op_nilCheckA rfl (ev_ok rfl)) ?_|rw[t3]|rw[t2]);conv=>whnf))
   exact⟨m - (k+1),fun k=>k,[0,9,10],[],by omega,by kernel_rfl,k+1,rfl,hlt,rfl,rfl⟩
 ·have t1:=dge hlt
  (repeat(first|(refine tst_ff t1 ?_;conv=>whnf)));(first|exact Recast.refl _|exact Frz.recast (Recast.refl _) rfl|(refine Frz.one rfl rfl ?_;skip)|(refine Frz.tup ?_;skip))
end Go.Proofs.YtbopchpncgdaaaaGreatDoor
