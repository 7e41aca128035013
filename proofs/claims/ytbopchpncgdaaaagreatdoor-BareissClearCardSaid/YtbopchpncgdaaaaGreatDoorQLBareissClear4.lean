/- The texts Oj. -/
import Derived.Test.YtbopchpncgdaaaaGreatDoorQLBareissClear3
namespace Go.Proofs.YtbopchpncgdaaaaGreatDoor
open Go.Sx
set_option linter.unusedSimpArgs false
set_option linter.unusedVariables false
set_option maxRecDepth 100000
set_option maxHeartbeats 40000000
theorem b_over64 (F:Int→Int) (g:FuncId) (l:List Int) (hl:l.length<1099511627776) (hf:∀i,i<l.length→CallOK Tryz.prog g ([]++([iv (l.getD i 0)]++[])) [] (.int (F (l.getD i 0))) [] []):
  CallOK Tryz.prog 171 [ivec .i64 l,.clo g [] []] [] (zvec (l.map F)) [] []:=by
 have hz:(l.map F).length=l.length:=List.length_map _
 refine callF (Z:=[]) tabOK mixedOK Tryz.func171 rfl (by kernel_rfl) (by first|rfl|(simp[keylessL,keyless,keylessL_map, *];done)) (by first|rfl|(simp[keylessL,keyless,keylessL_map, *];done)) (by kernel_rfl) rfl ?_
 intro w0 ρ0 hE
 conv=>whnf
 (repeat(first|(refine step_oA (by first|omega|decide|(simp only[tl0,dlen,List.length_replicate,List.length_set,List.length_map,List.length_zipWith,List.length_take,List.length_append,List.length_cons,List.length_nil];omega)) ?_;conv=>whnf)|(refine g_o (op_lenM rfl rfl rfl (ev_ok rfl) (tgt rfl) rfl) ?_;conv=>whnf)|(rw[Int.toNat_natCast];conv=>whnf)))
 refine SW_loopN hE (fun k=>k) [1,4,5,11,12,13] [10] (fun m fr hp=>∃i,m=l.length - i∧i≤l.length∧fr=[(1,.clo g [] []),(4,.val (.slice none 0 0)),(5,.slc 10 3 0 l.length),(11,ivec .i64 l),(12,iv (l.length:Nat)),(13,iv (i:Nat))]∧
  hp=[(10,zfil (l.map F) l.length i)]) l.length ?_ ?_ ?_
 ·kernel_rfl
 ·exact⟨0,rfl,Nat.zero_le _,rfl,by rw[zfil,List.take_zero];rfl⟩
 rintro m _ _ ⟨i,rfl,hi,rfl,rfl⟩
 conv=>whnf
 have hlen:=zfil_len hi hz
 by_cases hlt:i<l.length
 ·have t1:=dlt hlt
  have t2:=winc (i:=i) (by omega)
  have t3:=zfil_get hlt hz
  have k1:=hf i hlt
  rw[←map_getD (f:=F) (d:=0) (e:=0) hlt]at k1
  (repeat((first|refine step_oL (by first|omega|decide|(simp only[tl0,dlen,List.length_replicate,List.length_set,List.length_map,List.length_zipWith,List.length_take,List.length_append,List.length_cons,List.length_nil];omega)) ?_|refine step_oA (by first|omega|decide|(simp only[tl0,dlen,List.length_replicate,List.length_set,List.length_map,List.length_zipWith,List.length_take,List.length_append,List.length_cons,List.length_nil];omega)) ?_|refine g_c (by assumption) ?_|refine tst_tt t1 ?_|refine g_o (op_loadA rfl (ev_ok rfl) (tgt rfl) rfl (Nat.succ_ne_zero _) rfl) ?_|refine g_o (op_indexN (α:=Int) (d:=0) rfl (ev_ok rfl) (ev_ok rfl) (tgt rfl) rfl (tgt rfl) rfl (by omega)) ?_|rw[t1]|rw[t3]|rw[t2]|rw[Int.toNat_natCast]|rw[Nat.zero_add]);conv=>whnf))
  refine⟨l.length - (i+1),fun k=>k,[1,4,5,11,12,13],[10],by omega,by kernel_rfl,i+1,rfl,hlt,rfl, ?_⟩
  rw[zfil,←zfil_set hlt hz]
  rfl
 ·have t1:=dge hlt
  have hI:i=l.length:=by omega
  subst hI
  rw[zfil_all hz]
  (repeat(first|(refine tst_ff t1 ?_;conv=>whnf)));(first|exact Recast.refl _|exact Frz.recast (Recast.refl _) rfl|(refine Frz.one rfl rfl ?_;(repeat(first|(refine FrzC.seq rfl (by first|rfl|(apply keylessL_map;intro _;rfl)) ?_;(first|rfl|omega|(simp<;>fail)|(simp<;>omega))))))|(refine Frz.tup ?_;skip))
theorem b_over1 (F:Int→Int) (g:FuncId) (p:Pred) (l:List Int) (hl:l.length<1099511627776) (hf:∀i,i<l.length→CallOK Tryz.prog g ([]++([iv (l.getD i 0)]++[.atom p])) [] (.int (F (l.getD i 0))) [] []):
  CallOK Tryz.prog 131 [ivec .i64 l,.clo g [] [.atom p]] [] (zvec (l.map F)) [] []:=by
 have hz:(l.map F).length=l.length:=List.length_map _
 refine callF (Z:=[]) tabOK mixedOK Tryz.func131 rfl (by kernel_rfl) (by first|rfl|(simp[keylessL,keyless,keylessL_map, *];done)) (by first|rfl|(simp[keylessL,keyless,keylessL_map, *];done)) (by kernel_rfl) rfl ?_
 intro w0 ρ0 hE
 conv=>whnf
 (repeat(first|(refine step_oA (by first|omega|decide|(simp only[tl0,dlen,List.length_replicate,List.length_set,List.length_map,List.length_zipWith,List.length_take,List.length_append,List.length_cons,List.length_nil];omega)) ?_;conv=>whnf)|(refine g_o (op_lenM rfl rfl rfl (ev_ok rfl) (tgt rfl) rfl) ?_;conv=>whnf)|(rw[Int.toNat_natCast];conv=>whnf)))
 refine SW_loopN hE (fun k=>k) [1,4,5,11,12,13] [10] (fun m fr hp=>∃i,m=l.length - i∧i≤l.length∧fr=[(1,.clo g [] [.atom p]),(4,.val (.slice none 0 0)),(5,.slc 10 3 0 l.length),(11,ivec .i64 l),(12,iv (l.length:Nat)),(13,iv (i:Nat))]∧
  hp=[(10,zfil (l.map F) l.length i)]) l.length ?_ ?_ ?_
 ·kernel_rfl
 ·exact⟨0,rfl,Nat.zero_le _,rfl,by rw[zfil,List.take_zero];rfl⟩
 rintro m _ _ ⟨i,rfl,hi,rfl,rfl⟩
 conv=>whnf
 have hlen:=zfil_len hi hz
 by_cases hlt:i<l.length
 ·have t1:=dlt hlt
  have t2:=winc (i:=i) (by omega)
  have t3:=zfil_get hlt hz
  have k1:=hf i hlt
  rw[←map_getD (f:=F) (d:=0) (e:=0) hlt]at k1
  (repeat((first|refine step_oL (by first|omega|decide|(simp only[tl0,dlen,List.length_replicate,List.length_set,List.length_map,List.length_zipWith,List.length_take,List.length_append,List.length_cons,List.length_nil];omega)) ?_|refine step_oA (by first|omega|decide|(simp only[tl0,dlen,List.length_replicate,List.length_set,List.length_map,List.length_zipWith,List.length_take,List.length_append,List.length_cons,List.length_nil];omega)) ?_|refine g_c (by assumption) ?_|refine tst_tt t1 ?_|refine g_o (op_loadA rfl (ev_ok rfl) (tgt rfl) rfl (Nat.succ_ne_zero _) rfl) ?_|refine g_o (op_indexN (α:=Int) (d:=0) rfl (ev_ok rfl) (ev_ok rfl) (tgt rfl) rfl (tgt rfl) rfl (by omega)) ?_|rw[t1]|rw[t3]|rw[t2]|rw[Int.toNat_natCast]|rw[Nat.zero_add]);conv=>whnf))
  refine⟨l.length - (i+1),fun k=>k,[1,4,5,11,12,13],[10],by omega,by kernel_rfl,i+1,rfl,hlt,rfl, ?_⟩
  rw[zfil,←zfil_set hlt hz]
  rfl
 ·have t1:=dge hlt
  have hI:i=l.length:=by omega
  subst hI
  rw[zfil_all hz]
  (repeat(first|(refine tst_ff t1 ?_;conv=>whnf)));(first|exact Recast.refl _|exact Frz.recast (Recast.refl _) rfl|(refine Frz.one rfl rfl ?_;(repeat(first|(refine FrzC.seq rfl (by first|rfl|(apply keylessL_map;intro _;rfl)) ?_;(first|rfl|omega|(simp<;>fail)|(simp<;>omega))))))|(refine Frz.tup ?_;skip))
theorem b_over2 (F:Int→Int) (g:FuncId) (p q:Pred) (l:List Int) (hl:l.length<1099511627776) (hf:∀i,i<l.length→CallOK Tryz.prog g ([]++([iv (l.getD i 0)]++[.atom p,.atom q])) [] (.int (F (l.getD i 0))) [] []):
  CallOK Tryz.prog 131 [ivec .i64 l,.clo g [] [.atom p,.atom q]] [] (zvec (l.map F)) [] []:=by
 have hz:(l.map F).length=l.length:=List.length_map _
 refine callF (Z:=[]) tabOK mixedOK Tryz.func131 rfl (by kernel_rfl) (by first|rfl|(simp[keylessL,keyless,keylessL_map, *];done)) (by first|rfl|(simp[keylessL,keyless,keylessL_map, *];done)) (by kernel_rfl) rfl ?_
 intro w0 ρ0 hE
 conv=>whnf
 (repeat(first|(refine step_oA (by first|omega|decide|(simp only[tl0,dlen,List.length_replicate,List.length_set,List.length_map,List.length_zipWith,List.length_take,List.length_append,List.length_cons,List.length_nil];omega)) ?_;conv=>whnf)|(refine g_o (op_lenM rfl rfl rfl (ev_ok rfl) (tgt rfl) rfl) ?_;conv=>whnf)|(rw[Int.toNat_natCast];conv=>whnf)))
 refine SW_loopN hE (fun k=>k) [1,4,5,11,12,13] [10] (fun m fr hp=>∃i,m=l.length - i∧i≤l.length∧fr=[(1,.clo g [] [.atom p,.atom q]),(4,.val (.slice none 0 0)),(5,.slc 10 3 0 l.length),(11,ivec .i64 l),(12,iv (l.length:Nat)),(13,iv (i:Nat))]∧
  hp=[(10,zfil (l.map F) l.length i)]) l.length ?_ ?_ ?_
 ·kernel_rfl
 ·exact⟨0,rfl,Nat.zero_le _,rfl,by rw[zfil,List.take_zero];rfl⟩
 rintro m _ _ ⟨i,rfl,hi,rfl,rfl⟩
 conv=>whnf
 have hlen:=zfil_len hi hz
 by_cases hlt:i<l.length
 ·have t1:=dlt hlt
  have t2:=winc (i:=i) (by omega)
  have t3:=zfil_get hlt hz
  have k1:=hf i hlt
  rw[←map_getD (f:=F) (d:=0) (e:=0) hlt]at k1
  (repeat((first|refine step_oL (by first|omega|decide|(simp only[tl0,dlen,List.length_replicate,List.length_set,List.length_map,List.length_zipWith,List.length_take,List.length_append,List.length_cons,List.length_nil];omega)) ?_|refine step_oA (by first|omega|decide|(simp only[tl0,dlen,List.length_replicate,List.length_set,List.length_map,List.length_zipWith,List.length_take,List.length_append,List.length_cons,List.length_nil];omega)) ?_|refine g_c (by assumption) ?_|refine tst_tt t1 ?_|refine g_o (op_loadA rfl (ev_ok rfl) (tgt rfl) rfl (Nat.succ_ne_zero _) rfl) ?_|refine g_o (op_indexN (α:=Int) (d:=0) rfl (ev_ok rfl) (ev_ok rfl) (tgt rfl) rfl (tgt rfl) rfl (by omega)) ?_|rw[t1]|rw[t3]|rw[t2]|rw[Int.toNat_natCast]|rw[Nat.zero_add]);conv=>whnf))
  refine⟨l.length - (i+1),fun k=>k,[1,4,5,11,12,13],[10],by omega,by kernel_rfl,i+1,rfl,hlt,rfl, ?_⟩
  rw[zfil,←zfil_set hlt hz]
  rfl
 ·have t1:=dge hlt
  have hI:i=l.length:=by omega
  subst hI
  rw[zfil_all hz]
  (repeat(first|(refine tst_ff t1 ?_;conv=>whnf)));(first|exact Recast.refl _|exact Frz.recast (Recast.refl _) rfl|(refine Frz.one rfl rfl ?_;(repeat(first|(refine FrzC.seq rfl (by first|rfl|(apply keylessL_map;intro _;rfl)) ?_;(first|rfl|omega|(simp<;>fail)|(simp<;>omega))))))|(refine Frz.tup ?_;skip))
theorem b_Of {r c:Nat} {l:List Int} (hr:r≤2048) (hc:c≤2048) (hl:l.length=r*c) (h:∀i,i<l.length→ -9223372036854775808≤l.getD i 0∧l.getD i 0<9223372036854775808):
  CallOK Tryz.prog 112 [iv r,iv c,ivec .i64 l] [] (.tup [wA r c l,iv 0]) [] []:=by
 have hb:l.length<1099511627776:=by have:r*c≤2048*2048:=Nat.mul_le_mul hr hc;omega
 have k1:=b_over64 (fun x=>x) 105 l hb (fun i hi=>c_iOf _ (h i hi).1 (h i hi).2)
 rw[List.map_id']at k1
 have k2:=b_Check r c l hb (fun i hi=>Nat.le_trans (zs_i64 (h i hi).1 (h i hi).2) (by decide))
 rw[check_ok hr hc hl]at k2
 refine callV (Z:=[]) tabOK mixedOK Tryz.func112 rfl (by kernel_rfl) rfl rfl (by kernel_rfl) rfl ?_
 intro W0 w0 ρ0 hE
 conv=>whnf
 (repeat(first|(refine step_w2 rfl rfl ?_;conv=>whnf)|(refine g_c (by assumption) ?_;conv=>whnf)));(first|exact Recast.refl _|exact Frz.recast (Recast.refl _) rfl|(refine Frz.one rfl rfl ?_;skip)|(refine Frz.tup ?_;skip))
theorem b_Text (r c:Int) (l:List Int) (hl:l.length<1099511627776) (h:∀i,i<l.length→zs (l.getD i 0)≤536870912) {t:ByteArray} (ht:CallOK Tryz.prog 28 [mA r c (ofInts l)] [] (.val (.string t)) [] []):
  CallOK Tryz.prog 114 [wA r c l] [] (.val (.string t)) [] []:=by
 have k1:=b_mat r c l hl h
 refine callV (Z:=[]) tabOK mixedOK Tryz.func114 rfl (by kernel_rfl) rfl rfl (by kernel_rfl) rfl ?_
 intro W0 w0 ρ0 hE
 conv=>whnf
 (repeat(first|(refine g_c (by assumption) ?_;conv=>whnf)));(first|exact Recast.refl _|exact Frz.recast (Recast.refl _) rfl|(refine Frz.one rfl rfl ?_;skip)|(refine Frz.tup ?_;skip))
def pZ (l:List Int):Int:=l.foldl (·*·) 1
theorem pZ_take {l:List Int} {i:Nat} (hi:i<l.length):pZ (l.take (i+1))=pZ (l.take i)*l.getD i 0:=by
 rw[pZ,List.take_add_one,List.getElem?_eq_getElem hi,List.foldl_append,List.getD_eq_getElem?_getD,List.getElem?_eq_getElem hi];rfl
theorem pZ_zs {l:List Int} {B:Nat} (h:Zm B l):∀i,i≤l.length→zs (pZ (l.take i))≤2+i*B
 |0,_=>by rw[List.take_zero,pZ,List.foldl_nil,zs_1];omega
 |i+1,hi=>by
  have h1:=pZ_zs h i (by omega)
  have h2:=h i (by omega)
  have:=zs_mul (pZ (l.take i)) (l.getD i 0)
  rw[pZ_take (by omega),Nat.succ_mul];omega
theorem b_product {l:List Int} {B:Nat} (hz:Zm B l) (hl:l.length<1099511627776) (hb:2+(l.length+1)*B≤1073741824):CallOK Tryz.prog 180 [zvec l] [] (.int (pZ l)) [] []:=by
 have k0:=c_iOf 1 (by decide) (by decide)
 refine callV (Z:=[]) tabOK mixedOK Tryz.func180 rfl (by kernel_rfl) rfl rfl (by kernel_rfl) rfl ?_
 intro W0 w0 ρ0 hE
 conv=>whnf
 (repeat(first|(refine g_c (by assumption) ?_;conv=>whnf)|(refine g_o (op_lenM rfl rfl rfl (ev_ok rfl) (tgt rfl) rfl) ?_;conv=>whnf)))
 refine SW_loopN hE (fun k=>k) [2,3,7,8,9] [2,3] (fun m fr hp=>∃i,m=l.length - i∧i≤l.length∧fr=[(2,.ptr 2 0 0 0),(3,.ptr 3 0 0 0),(7,zvec l),(8,iv (l.length:Nat)),(9,iv (i:Nat))]∧
  hp=[(2,zIB),(3,⟨51,true,.one [.int (pZ (l.take i))]⟩)]) l.length ?_ ?_ ?_
 ·kernel_rfl
 ·exact⟨0,rfl,Nat.zero_le _,rfl,rfl⟩
 clear k0
 rintro m _ _ ⟨i,rfl,hi,rfl,rfl⟩
 conv=>whnf
 by_cases hlt:i<l.length
 ·have t1:=dlt hlt
  have t2:=winc (i:=i) (by omega)
  have h1:=pZ_zs hz i hi
  have h2:=hz i hlt
  have h3:i*B≤l.length*B:=Nat.mul_le_mul_right B hi
  rw[Nat.succ_mul]at hb
  have k1:=zz_Mul (pZ (l.take i)) (l.getD i 0) (by omega)
  (repeat((first|refine g_c (by assumption) ?_|refine tst_tt t1 ?_|refine g_o (op_loadA rfl (ev_ok rfl) (tgt rfl) rfl (Nat.succ_ne_zero _) rfl) ?_|refine g_o (op_indexN (α:=Int) (d:=0) rfl (ev_ok rfl) (ev_ok rfl) (tgt rfl) rfl (tgt rfl) rfl (by omega)) ?_|rw[t1]|rw[t2]);conv=>whnf))
  exact⟨l.length - (i+1),fun k=>k,[2,3,7,8,9],[2,3],by omega,by kernel_rfl,i+1,rfl,hlt,rfl,by rw[pZ_take hlt];rfl⟩
 ·have t1:=dge hlt
  rw[List.take_of_length_le (by omega)]
  (repeat(first|(refine tst_ff t1 ?_;conv=>whnf)));(first|exact Recast.refl _|exact Frz.recast (Recast.refl _) rfl|(refine Frz.one rfl rfl ?_;skip)|(refine Frz.tup ?_;skip))
def rowZ (a:List Int) (c i:Nat):Int:=sumZ c fun k=>((elz a c i k).natAbs:Int)
theorem sumZ_zs {f:Nat→Int} {B:Nat}:∀n,(∀i,i<n→zs (f i)≤B)→zs (sumZ n f)≤1+n*B
 |0,_=>by rw[sumZ,zs_zero];omega
 |n+1,h=>by
  have h1:=sumZ_zs n (fun i hi=>h i (by omega))
  have h2:=h n (by omega)
  have:=zs_add (sumZ n f) (f n)
  rw[sumZ,Nat.succ_mul];omega
theorem b_Bound1 {r c B:Nat} {a:List Int} (ha:OKZ r c a) (za:Zm B a) (hb:1+(c+1)*B≤1073741824) {i:Nat} (hi:i<r):
  CallOK Tryz.prog 181 ([]++([iv (i:Nat)]++[ptrA (wC r c a)])) [] (.int (rowZ a c i)) [] []:=by
 have hc:=ha.c
 refine callV (Z:=[]) tabOK mixedOK Tryz.func181 rfl (by kernel_rfl) rfl rfl (by kernel_rfl) rfl ?_
 intro W0 w0 ρ0 hE
 conv=>whnf
 (repeat(first|(refine g_o (op_loadA rfl (ev_ok rfl) (tgt rfl) rfl (Nat.succ_ne_zero _) rfl) ?_;conv=>whnf)|(refine g_o (op_fieldA rfl (ev_ok rfl) (tgt rfl) rfl rfl (Nat.succ_ne_zero _) rfl) ?_;conv=>whnf)))
 refine SW_loopN hE (fun k=>k) [0,1,3,6,7] [3] (fun m fr hp=>∃k:Nat,m=c - k∧k≤c∧fr=[(0,iv (i:Nat)),(1,ptrA (wC r c a)),(3,.ptr 3 0 0 0),(6,iv c),(7,iv (k:Nat))]∧
  hp=[(3,⟨51,true,.one [.int (sumZ k fun k=>((elz a c i k).natAbs:Int))]⟩)]) c ?_ ?_ ?_
 ·kernel_rfl
 ·exact⟨0,rfl,Nat.zero_le _,rfl,rfl⟩
 rintro m _ _ ⟨k,rfl,hk,rfl,rfl⟩
 conv=>whnf
 by_cases hlt:k<c
 ·have t1:=dlt hlt
  have t2:=winc (i:=k) (by omega)
  have k1:=b_at ha hi hlt
  have k2:=c_Abs (elz a c i k)
  have k3:=c_From false (elz a c i k).natAbs
  have h1:=sumZ_zs (f:=fun k=>((elz a c i k).natAbs:Int)) (B:=B) k (fun j hj=>by rw[zs_abs];exact elz_zm za ha.n hi (by omega))
  have h2:=elz_zm za ha.n hi hlt
  have h3:k*B≤c*B:=Nat.mul_le_mul_right B hk
  rw[Nat.succ_mul]at hb
  rw[show signed false (elz a c i k).natAbs=((elz a c i k).natAbs:Int)from rfl]at k3
  have k4:=zz_Add (sumZ k fun k=>((elz a c i k).natAbs:Int)) ((elz a c i k).natAbs:Int) (by rw[zs_abs];omega)
  (repeat((first|refine step_i (by kernel_rfl) ?_|refine g_c (by assumption) ?_|refine tst_tt t1 ?_|refine g_o (op_loadA rfl (ev_ok rfl) (tgt rfl) rfl (Nat.succ_ne_zero _) rfl) ?_|rw[t1]|rw[t2]);conv=>whnf))
  exact⟨c - (k+1),fun k=>k,[0,1,3,6,7],[3],by omega,by kernel_rfl,k+1,rfl,hlt,rfl,rfl⟩
 ·have t1:=dge hlt
  obtain rfl:k=c:=by omega
  (repeat(first|(refine tst_ff t1 ?_;conv=>whnf)));(first|exact Recast.refl _|exact Frz.recast (Recast.refl _) rfl|(refine Frz.one rfl rfl ?_;skip)|(refine Frz.tup ?_;skip))
theorem b_Bound {r c B:Nat} {a:List Int} (ha:OKZ r c a) (za:Zm B a) (hB:B≤536870912) (hb:2+(r+1)*(1+(c+1)*B)≤1073741824):
  CallOK Tryz.prog 116 [wA r c a] [] (.tup [.int (pZ ((upN r).map fun x=>rowZ a c x.toNat)),iv 0]) [] []:=by
 have hr:=ha.r
 have hc:=ha.c
 have hcb:1+(c+1)*B≤1073741824:=by
  have:1*(1+(c+1)*B)≤(r+1)*(1+(c+1)*B):=Nat.mul_le_mul_right _ (by omega)
  omega
 have k0:=b_Check r c a (by have:=ha.n;have:r*c≤2048*2048:=Nat.mul_le_mul hr hc;omega) (fun i hi=>Nat.le_trans (za i hi) hB)
 rw[check_ok hr hc ha.n]at k0
 have k1:=(b_upToV r [] hr (by simp)).wk (args:=[iv r,.val (.slice none 0 0)]) (by repeat(first|exact WkL.nil|refine WkL.cons ?_ ?_|exact Wk.nil|exact Wk.refl|refine Wk.agg ?_))
 rw[show upL r []=upN r from List.append_nil _]at k1
 have hu:∀i,i<(upN r).length→(upN r).getD i 0=i:=fun i hi=>by
  rw[upN_len]at hi
  have:=upL_at (l:=[]) hi
  rwa [show upL r []=upN r from List.append_nil _]at this
 have k2:=b_over1 (fun x=>rowZ a c x.toNat) 181 (ptrP (wC r c a)) (upN r) (by rw[upN_len];omega) (fun i hi=>by
  rw[hu i hi];rw[upN_len]at hi
  exact b_Bound1 ha za hcb hi)
 have hzm:Zm (1+(c+1)*B) ((upN r).map fun x=>rowZ a c x.toNat):=by
  intro p hp
  rw[List.length_map]at hp
  rw[map_getD (d:=0) hp,hu p hp]
  rw[upN_len]at hp
  have:=sumZ_zs (f:=fun k=>((elz a c p k).natAbs:Int)) (B:=B) c (fun j hj=>by rw[zs_abs];exact elz_zm za ha.n hp hj)
  exact Nat.le_trans this (Nat.add_le_add_left (Nat.mul_le_mul_right B (Nat.le_succ c)) 1)
 have k3:=b_product hzm (by rw[List.length_map,upN_len];omega) (by rw[List.length_map,upN_len];exact hb)
 refine callV (Z:=[1]) tabOK mixedOK Tryz.func116 rfl (by kernel_rfl) rfl rfl (by kernel_rfl) rfl ?_
 intro W0 w0 ρ0 hE
 conv=>whnf
 (repeat((first|refine step_w2 rfl rfl ?_|refine g_c (by assumption) ?_|rw[bne_self_eq_false]|refine g_o (op_loadA rfl (ev_ok rfl) (tgt rfl) rfl (Nat.succ_ne_zero _) rfl) ?_|refine g_o (op_fieldA rfl (ev_ok rfl) (tgt rfl) rfl rfl (Nat.succ_ne_zero _) rfl) ?_|refine g_o (op_makeFunc rfl rfl rfl) ?_);conv=>whnf));(first|exact Recast.refl _|exact Frz.recast (Recast.refl _) rfl|(refine Frz.one rfl rfl ?_;skip)|(refine Frz.tup ?_;skip))
end Go.Proofs.YtbopchpncgdaaaaGreatDoor
