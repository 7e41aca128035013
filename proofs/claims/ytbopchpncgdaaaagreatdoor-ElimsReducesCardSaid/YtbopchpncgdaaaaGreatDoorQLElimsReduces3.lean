/- The texts Bh. -/
import Derived.Test.YtbopchpncgdaaaaGreatDoorQLElimsReduces2
namespace Go.Proofs.YtbopchpncgdaaaaGreatDoor
open Go.Sx
set_option linter.unusedSimpArgs false
set_option linter.unusedVariables false
set_option maxRecDepth 100000
set_option maxHeartbeats 40000000
def stepL (r c:Nat) (a:List Rat) (t p k:Nat):List Rat:=mk r c (clearM (swapRow (el a c) p t) t k)
theorem stepL_len (r c:Nat) (a:List Rat) (t p k:Nat):(stepL r c a t p k).length=r*c:=mk_len ..
theorem stepL_top {r c t p k q:Nat} {a:List Rat} (ht:t<r) (hq:q<c):el (stepL r c a t p k) c t q=el a c p q/el a c p k:=by
 rw[stepL,mk_el ht hq]
 unfold clearM
 rw[if_pos rfl,swapRow_t]
theorem stepL_el {r c t p k i q:Nat} {a:List Rat} (hi:i<r) (hq:q<c) (hne:i≠t):el (stepL r c a t p k) c i q=el a c (if i=p then t else i) q - el a c (if i=p then t else i) k*(el a c p q/el a c p k):=by
 rw[stepL,mk_el hi hq]
 unfold clearM
 rw[if_neg hne,swapRow_t]
 unfold swapRow
 by_cases e:i=p
 ·rw[if_pos e,if_pos e]
 ·rw[if_neg e,if_neg e,if_neg hne]
theorem stepL_sm {r c t p k A:Nat} {a:List Rat} (ha:OKM r c a) (sa:Sm A a) (ht:t<r) (hp:p<r) (hk:k<c):Sm (4*A) (stepL r c a t p k):=by
 intro x hx
 rw[stepL_len]at hx
 obtain⟨h1,h2,h3⟩:=idx_split hx
 rw[←h3]
 have b1:=el_sm sa ha.n hp h2
 have b2:=el_sm sa ha.n hp hk
 have b3:=fs_div (el a c p (x % c)) (el a c p k)
 show fs (el (stepL r c a t p k) c (x/c) (x % c))≤_
 by_cases e:x/c=t
 ·rw[e,stepL_top ht h2];omega
 ·rw[stepL_el h1 h2 e]
  have hj:(if x/c=p then t else x/c)<r:=by split<;>omega
  have b4:=el_sm sa ha.n hj h2
  have b5:=el_sm sa ha.n hj hk
  have b6:=fs_mul (el a c (if x/c=p then t else x/c) k) (el a c p (x % c)/el a c p k)
  have b7:=fs_sub (el a c (if x/c=p then t else x/c) (x % c)) (el a c (if x/c=p then t else x/c) k*(el a c p (x % c)/el a c p k))
  omega
theorem r14_step {r c A:Nat} {a:List Rat} (ha:OKM r c a) (sa:Sm A a) {t p k:Nat} (ht:t<r) (hp:p<r) (hk:k<c) (hne:el a c p k≠0) (hA:4*A≤100000000):
  CallOK Tryz.prog 84 [rM r c a,iv t,iv p,iv k] [] (rM r c (stepL r c a t p k)) [] []:=by
 have hr:=ha.r
 have hc:=ha.c
 have la:=rowsL_len r c a
 have hR:∀i,i<r→(rowsL r c a).getD i []=rowL a c i:=fun i hi=>rowsL_get hi
 have hRl:∀i,i<r→((rowsL r c a).getD i []).length=c:=fun i hi=>by rw[hR i hi];exact rowL_len hi ha.n
 have hRe:∀i q,i<r→q<c→((rowsL r c a).getD i []).getD q 0=el a c i q:=fun i q hi hq=>by rw[hR i hi];exact rowL_get hq
 have hs:∀i q,i<r→q<c→fs (el a c i q)≤A:=fun i q hi hq=>el_sm sa ha.n hi hq
 have lz:=rowsL_len r c (stepL r c a t p k)
 have lz2:((rowsL r c (stepL r c a t p k)).map fFs).length=r:=by rw[List.length_map,lz]
 have hz:=stepL_len r c a t p k
 have hZr:∀i,i<r→(rowsL r c (stepL r c a t p k)).getD i []=rowL (stepL r c a t p k) c i:=fun i hi=>rowsL_get hi
 have hZl:∀i,i<r→(rowL (stepL r c a t p k) c i).length=c:=fun i hi=>rowL_len hi hz
 have hZt:∀q,q<c→(rowL (stepL r c a t p k) c t).getD q 0=el a c p q/el a c p k:=fun q hq=>by rw[rowL_get hq];exact stepL_top ht hq
 have hZe:∀i q,i<r→q<c→i≠t→(rowL (stepL r c a t p k) c i).getD q 0=el a c (if i=p then t else i) q - el a c (if i=p then t else i) k*(el a c p q/el a c p k):=fun i q hi hq hne=>by rw[rowL_get hq];exact stepL_el hi hq hne
 have hR2:=hR
 generalize stepL r c a t p k=Z at*
 refine callF (Z:=[4]) tabOK mixedOK Tryz.func84 rfl (by kernel_rfl) (by first|rfl|(simp[keylessL,keyless,keylessL_map, *];done)) (by first|rfl|(simp[keylessL,keyless,keylessL_map, *];done)) (by kernel_rfl) rfl ?_
 intro w0 ρ0 hE
 conv=>whnf
 (repeat(first|(refine g_o (op_loadA rfl (ev_ok rfl) (tgt rfl) rfl (Nat.succ_ne_zero _) rfl) ?_;conv=>whnf)|(refine g_o (op_fieldA rfl (ev_ok rfl) (tgt rfl) rfl rfl (Nat.succ_ne_zero _) rfl) ?_;conv=>whnf)))
 refine SWx_adopt (t:=10) (k:=2002) (s:=3) (blk:=fFblk []) rfl rfl rfl ?_
 refine SW_loopS hE (fun k=>k) [1,2,3,4,8,9,10,11] [8,9,2002] (fun m fr hp=>∃q:Nat,m=c - q∧q≤c∧fr=[(1,iv t),(2,iv p),(3,iv k),(4,ptrA (rC r c a)),(8,.ptr 8 0 0 0),(9,.ptr 9 0 0 0),(10,.slc 2002 3 0 q),(11,iv (q:Nat))]∧
  hp=[(8,zR),(9,⟨67,true,.one [iv c,.val (.slice none 0 0)]⟩),(2002,fFblk ((rowL Z c t).take q))]) c ?_ ?_ ?_
 ·kernel_rfl
 ·exact⟨0,rfl,Nat.zero_le _,rfl,rfl⟩
 rintro m _ _ ⟨q,rfl,hq,rfl,rfl⟩
 have hlt1:(((rowL Z c t).take q).map fF).length=q:=by rw[List.length_map,List.length_take,hZl t ht];omega
 by_cases hqc:q<c
 ·have t1:=dlt hqc
  have t2:=winc (i:=q) (by omega)
  have e4:=take_map_snoc (z:=rowL Z c t) (i:=q) (by rw[hZl t ht];exact hqc)
  have hrl2:=hZl t ht
  rw[List.length_take]at hrl2
  have s1:=hs p q hp hqc
  have s2:=hs p k hp hk
  have g1:=hRe p q hp hqc
  have g2:=hRe p k hp hk
  have hl:=hRl p hp
  have hpR:p<(rowsL r c a).length:=by omega
  have k1:=r3_Div (((rowsL r c a).getD p []).getD q 0) (((rowsL r c a).getD p []).getD k 0) (by rw[g2];exact hne) (by rw[g1,g2];omega)
  rw[g1,g2,←hZt q hqc,←g1,←g2]at k1
  clear hR hRl hRe hs hZr hZl hZt hZe hR2 g1 g2
  refine SWx.of hE ?_
  conv=>whnf
  (repeat((first|refine step_w1 rfl rfl ?_|refine step_i (by kernel_rfl) ?_|refine step_oA (by first|omega|decide|(simp only[tl0,dlen,List.length_replicate,List.length_set,List.length_map,List.length_zipWith,List.length_take,List.length_append,List.length_cons,List.length_nil];omega)) ?_|refine g_c (by assumption) ?_|refine g_o (op_indexN (α:=Rat) (d:=0) rfl (ev_ok rfl) (ev_ok rfl) (tgt rfl) rfl (tgt rfl) rfl (by omega)) ?_|refine g_o (op_loadA rfl (ev_ok rfl) (tgt rfl) rfl (Nat.succ_ne_zero _) rfl) ?_|refine g_o (op_indexN (α:=List Rat) (d:=[]) rfl (ev_ok rfl) (ev_ok rfl) (tgt rfl) rfl (tgt rfl) rfl (by omega)) ?_|refine g_o (op_fieldA rfl (ev_ok rfl) (tgt rfl) rfl rfl (Nat.succ_ne_zero _) rfl) ?_|rw[t1]|rw[t2]);conv=>whnf))
  refine⟨c - (q+1),renBy [(44,2002)],[1,2,3,4,8,9,10,11],[8,9,44],by omega,by kernel_rfl,q+1,rfl,hqc,rfl, ?_⟩
  rw[e4];rfl
 have t1:=dge hqc
 obtain rfl:q=c:=by omega
 have lH:=hZl t ht
 rw[List.take_of_length_le (l:=rowL Z q t) (by omega)]
 refine SWx_freezeM 10 2002 (fun _ h=>h) (fun _=>rfl) rfl rfl lH.symm ?_
 refine SWx.of hE ?_
 conv=>whnf
 (repeat((first|refine step_w2 rfl rfl ?_|refine g_o (op_loadA rfl (ev_ok rfl) (tgt rfl) rfl (Nat.succ_ne_zero _) rfl) ?_|refine g_o (op_fieldA rfl (ev_ok rfl) (tgt rfl) rfl rfl (Nat.succ_ne_zero _) rfl) ?_|rw[t1]);conv=>whnf))
 refine SWx_adoptB (j:=9) (k:=2001) (s:=1) (p:=1) (blk:=rblk []) rfl rfl rfl rfl rfl ?_
 refine SW_loopS hE (fun k=>k) [1,2,3,4,8,9,10,12] [8,9,2001] (fun m fr hp=>∃i:Nat,m=r - i∧i≤r∧fr=[(1,iv t),(2,iv p),(3,iv k),(4,ptrA (rC r q a)),(8,.ptr 8 0 0 0),(9,.ptr 9 0 0 0),(10,fFs (rowL Z q t)),(12,iv (i:Nat))]∧
  hp=[(8,zR),(9,oR q i 2001),(2001,rblk ((rowsL r q Z).take i))]) r ?_ ?_ ?_
 ·kernel_rfl
 ·exact⟨0,rfl,Nat.zero_le _,rfl,rfl⟩
 rintro m _ _ ⟨i,rfl,hi,rfl,rfl⟩
 have hlt0:(((rowsL r q Z).take i).map fFs).length=i:=by rw[List.length_map,List.length_take];omega
 by_cases hlt:i<r
 ·have t2:decide ((i:Int)<((rowsL r q a).length:Int))=true:=by rw[la];exact dlt hlt
  have t3:=winc (i:=i) (by omega)
  have e3:=take_rows (l:=rowsL r q Z) (i:=i) (by omega)
  rw[hZr i hlt]at e3
  have b1:i<(rowsL r q a).length:=by omega
  have b2:t<(rowsL r q a).length:=by omega
  by_cases hit:i=t
  ·subst hit
   have t4:((i:Int)==(i:Int))=true:=beq_self_eq_true _
   by_cases hip:i=p
   ·have t5:((i:Int)==(p:Int))=true:=by rw[hip];exact beq_self_eq_true _
    clear hR hRl hRe hs hZr hZl hZt hZe hR2
    refine SWx.of hE ?_
    conv=>whnf
    (repeat((first|refine step_w1 rfl rfl ?_|refine step_oA (by first|omega|decide|(simp only[tl0,dlen,List.length_replicate,List.length_set,List.length_map,List.length_zipWith,List.length_take,List.length_append,List.length_cons,List.length_nil];omega)) ?_|rw[beq_self_eq_true]|refine g_o (op_lenM rfl rfl rfl (ev_ok rfl) (tgt rfl) rfl) ?_|refine g_o (op_loadA rfl (ev_ok rfl) (tgt rfl) rfl (Nat.succ_ne_zero _) rfl) ?_|refine g_o (op_indexN (α:=List Rat) (d:=[]) rfl (ev_ok rfl) (ev_ok rfl) (tgt rfl) rfl (tgt rfl) rfl (by omega)) ?_|refine g_o (op_fieldA rfl (ev_ok rfl) (tgt rfl) rfl rfl (Nat.succ_ne_zero _) rfl) ?_|rw[t2]|rw[t5]|rw[t3]|rw[Nat.zero_add]);conv=>whnf))
    refine⟨r - (i+1),renBy [(72,2001)],[1,2,3,4,8,9,10,12],[8,9,72],by omega,by kernel_rfl,i+1,rfl,hlt,rfl, ?_⟩
    rw[e3];rfl
   ·have t5:((i:Int)==(p:Int))=false:=beq_eq_false_iff_ne.2 (by omega)
    clear hR hRl hRe hs hZr hZl hZt hZe hR2
    refine SWx.of hE ?_
    conv=>whnf
    (repeat((first|refine step_w1 rfl rfl ?_|refine step_w2 rfl rfl ?_|refine step_oA (by first|omega|decide|(simp only[tl0,dlen,List.length_replicate,List.length_set,List.length_map,List.length_zipWith,List.length_take,List.length_append,List.length_cons,List.length_nil];omega)) ?_|rw[beq_self_eq_true]|refine g_o (op_lenM rfl rfl rfl (ev_ok rfl) (tgt rfl) rfl) ?_|refine g_o (op_loadA rfl (ev_ok rfl) (tgt rfl) rfl (Nat.succ_ne_zero _) rfl) ?_|refine g_o (op_indexN (α:=List Rat) (d:=[]) rfl (ev_ok rfl) (ev_ok rfl) (tgt rfl) rfl (tgt rfl) rfl (by omega)) ?_|refine g_o (op_fieldA rfl (ev_ok rfl) (tgt rfl) rfl rfl (Nat.succ_ne_zero _) rfl) ?_|rw[t2]|rw[t5]|rw[t3]|rw[Nat.zero_add]);conv=>whnf))
    refine⟨r - (i+1),renBy [(72,2001)],[1,2,3,4,8,9,10,12],[8,9,72],by omega,by kernel_rfl,i+1,rfl,hlt,rfl, ?_⟩
    rw[e3];rfl
  ·have t4:((i:Int)==(t:Int))=false:=beq_eq_false_iff_ne.2 (by omega)
   obtain⟨j,hj⟩:∃j,(if i=p then t else i)=j:=⟨_,rfl⟩
   have hjr:j<r:=by rw[←hj];split<;>omega
   obtain⟨t5,hF⟩:∃bb:Bool,((i:Int)==(p:Int))=bb∧(bb=true→j=t)∧(bb=false→j=i):=by
    by_cases hip:i=p
    ·exact⟨true,by rw[hip];exact beq_self_eq_true _,(fun _=>by rw[←hj,if_pos hip]),(fun h=>by cases h)⟩
    ·exact⟨false,beq_eq_false_iff_ne.2 (by omega),(fun h=>by cases h),(fun _=>by rw[←hj,if_neg hip])⟩
   obtain⟨t6,hF1,hF2⟩:=hF
   have lF:=hRl j hjr
   have hFe:=fun x (hx:x<q)=>hRe j x hjr hx
   have hFs:=fun x (hx:x<q)=>hs j x hjr hx
   have lZ:=hZl i hlt
   have hZi:=fun x (hx:x<q)=>hZe i x hlt hx hit
   have hdsz:=fun x (hx:x<q)=>hs p x hp hx
   rw[hj]at hZi
   cases t5
   ·have ej:=hF2 rfl
    rw[ej]at lF hFe hFs hZi
    clear hR hRl hRe hs hZr hZe hR2 hF1 hF2
    refine SWx.of hE ?_
    conv=>whnf
    (repeat((first|refine step_w1 rfl rfl ?_|refine step_w2 rfl rfl ?_|refine g_o (op_lenM rfl rfl rfl (ev_ok rfl) (tgt rfl) rfl) ?_|refine g_o (op_loadA rfl (ev_ok rfl) (tgt rfl) rfl (Nat.succ_ne_zero _) rfl) ?_|refine g_o (op_indexN (α:=List Rat) (d:=[]) rfl (ev_ok rfl) (ev_ok rfl) (tgt rfl) rfl (tgt rfl) rfl (by omega)) ?_|refine g_o (op_fieldA rfl (ev_ok rfl) (tgt rfl) rfl rfl (Nat.succ_ne_zero _) rfl) ?_|rw[t2]|rw[t6]|rw[t4]);conv=>whnf))
    generalize (rowsL r q a).getD i []=FL at*
    refine SWx_adopt (t:=14) (k:=2003) (s:=3) (blk:=fFblk []) rfl rfl rfl ?_
    refine SW_loopS hE (fun k=>k) [1,2,3,4,8,9,10,12,13,14,15] [8,9,2001,2003] (fun m fr hp=>∃x:Nat,m=q - x∧x≤q∧fr=[(1,iv t),(2,iv p),(3,iv k),(4,ptrA (rC r q a)),(8,.ptr 8 0 0 0),(9,.ptr 9 0 0 0),(10,fFs (rowL Z q t)),(12,iv (i:Nat)),(13,fFs FL),(14,.slc 2003 3 0 x),(15,iv (x:Nat))]∧
     hp=[(8,zR),(9,oR q i 2001),(2001,rblk ((rowsL r q Z).take i)),(2003,fFblk ((rowL Z q i).take x))]) q ?_ ?_ ?_
    ·kernel_rfl
    ·exact⟨0,rfl,Nat.zero_le _,rfl,rfl⟩
    rintro m _ _ ⟨x,rfl,hx,rfl,rfl⟩
    have hlt2:(((rowL Z q i).take x).map fF).length=x:=by rw[List.length_map,List.length_take,lZ];omega
    by_cases hxq:x<q
    ·have s1:=dlt hxq
     have s2:=winc (i:=x) (by omega)
     have e4:=take_map_snoc (z:=rowL Z q i) (i:=x) (by rw[lZ];exact hxq)
     have hrl2:=lZ
     rw[List.length_take]at hrl2
     have z1:=hZi x hxq
     have z2:=hZt x hxq
     have f1:=hFe x hxq
     have f2:=hFe k hk
     have f3:=hFs x hxq
     have f4:=hFs k hk
     have f5:=hdsz x hxq
     have f6:=hdsz k hk
     have g1:=fs_div (el a q p x) (el a q p k)
     rw[←z2]at g1 z1
     rw[←f1,←f2]at z1
     rw[←f1]at f3
     rw[←f2]at f4
     have g2:=fs_mul (FL.getD k 0) ((rowL Z q t).getD x 0)
     have k1:=r3_Mul (FL.getD k 0) ((rowL Z q t).getD x 0) (by omega)
     have k2:=r3_Sub (FL.getD x 0) (FL.getD k 0*(rowL Z q t).getD x 0) (by omega)
     rw[←z1]at k2
     clear hZi hZt hFe hFs hdsz hZl f1 f2 z1 z2
     refine SWx.of hE ?_
     conv=>whnf
     (repeat((first|refine step_w1 rfl rfl ?_|refine step_i (by kernel_rfl) ?_|refine step_oA (by first|omega|decide|(simp only[tl0,dlen,List.length_replicate,List.length_set,List.length_map,List.length_zipWith,List.length_take,List.length_append,List.length_cons,List.length_nil];omega)) ?_|refine g_c (by assumption) ?_|refine g_o (op_indexN (α:=Rat) (d:=0) rfl (ev_ok rfl) (ev_ok rfl) (tgt rfl) rfl (tgt rfl) rfl (by omega)) ?_|refine g_o (op_loadA rfl (ev_ok rfl) (tgt rfl) rfl (Nat.succ_ne_zero _) rfl) ?_|refine g_o (op_fieldA rfl (ev_ok rfl) (tgt rfl) rfl rfl (Nat.succ_ne_zero _) rfl) ?_|rw[s1]|rw[s2]);conv=>whnf))
     refine⟨q - (x+1),renBy [(96,2003)],[1,2,3,4,8,9,10,12,13,14,15],[8,9,2001,96],by omega,by kernel_rfl,x+1,rfl,hxq,rfl, ?_⟩
     rw[e4];rfl
    ·have s1:=dge hxq
     obtain rfl:x=q:=by omega
     rw[List.take_of_length_le (l:=rowL Z x i) (by omega)]
     refine SWx_freezeM 14 2003 (fun _ h=>h) (fun _=>rfl) rfl rfl lZ.symm ?_
     refine SWx.of hE ?_
     conv=>whnf
     (repeat((first|refine step_w2 rfl rfl ?_|refine step_oA (by first|omega|decide|(simp only[tl0,dlen,List.length_replicate,List.length_set,List.length_map,List.length_zipWith,List.length_take,List.length_append,List.length_cons,List.length_nil];omega)) ?_|refine g_o (op_loadA rfl (ev_ok rfl) (tgt rfl) rfl (Nat.succ_ne_zero _) rfl) ?_|refine g_o (op_fieldA rfl (ev_ok rfl) (tgt rfl) rfl rfl (Nat.succ_ne_zero _) rfl) ?_|rw[s1]|rw[t3]|rw[Nat.zero_add]);conv=>whnf))
     refine⟨r - (i+1),renBy [(101,2001)],[1,2,3,4,8,9,10,12],[8,9,101],by omega,by kernel_rfl,i+1,rfl,hlt,rfl, ?_⟩
     rw[e3];rfl
   ·have ej:=hF1 rfl
    rw[ej]at lF hFe hFs hZi
    clear hR hRl hRe hs hZr hZe hR2 hF1 hF2
    refine SWx.of hE ?_
    conv=>whnf
    (repeat((first|refine step_w1 rfl rfl ?_|refine step_w2 rfl rfl ?_|refine g_o (op_lenM rfl rfl rfl (ev_ok rfl) (tgt rfl) rfl) ?_|refine g_o (op_loadA rfl (ev_ok rfl) (tgt rfl) rfl (Nat.succ_ne_zero _) rfl) ?_|refine g_o (op_indexN (α:=List Rat) (d:=[]) rfl (ev_ok rfl) (ev_ok rfl) (tgt rfl) rfl (tgt rfl) rfl (by omega)) ?_|refine g_o (op_fieldA rfl (ev_ok rfl) (tgt rfl) rfl rfl (Nat.succ_ne_zero _) rfl) ?_|rw[t2]|rw[t6]|rw[t4]);conv=>whnf))
    generalize (rowsL r q a).getD t []=FL at*
    refine SWx_adopt (t:=14) (k:=2003) (s:=3) (blk:=fFblk []) rfl rfl rfl ?_
    refine SW_loopS hE (fun k=>k) [1,2,3,4,8,9,10,12,13,14,15] [8,9,2001,2003] (fun m fr hp=>∃x:Nat,m=q - x∧x≤q∧fr=[(1,iv t),(2,iv p),(3,iv k),(4,ptrA (rC r q a)),(8,.ptr 8 0 0 0),(9,.ptr 9 0 0 0),(10,fFs (rowL Z q t)),(12,iv (i:Nat)),(13,fFs FL),(14,.slc 2003 3 0 x),(15,iv (x:Nat))]∧
     hp=[(8,zR),(9,oR q i 2001),(2001,rblk ((rowsL r q Z).take i)),(2003,fFblk ((rowL Z q i).take x))]) q ?_ ?_ ?_
    ·kernel_rfl
    ·exact⟨0,rfl,Nat.zero_le _,rfl,rfl⟩
    rintro m _ _ ⟨x,rfl,hx,rfl,rfl⟩
    have hlt2:(((rowL Z q i).take x).map fF).length=x:=by rw[List.length_map,List.length_take,lZ];omega
    by_cases hxq:x<q
    ·have s1:=dlt hxq
     have s2:=winc (i:=x) (by omega)
     have e4:=take_map_snoc (z:=rowL Z q i) (i:=x) (by rw[lZ];exact hxq)
     have hrl2:=lZ
     rw[List.length_take]at hrl2
     have z1:=hZi x hxq
     have z2:=hZt x hxq
     have f1:=hFe x hxq
     have f2:=hFe k hk
     have f3:=hFs x hxq
     have f4:=hFs k hk
     have f5:=hdsz x hxq
     have f6:=hdsz k hk
     have g1:=fs_div (el a q p x) (el a q p k)
     rw[←z2]at g1 z1
     rw[←f1,←f2]at z1
     rw[←f1]at f3
     rw[←f2]at f4
     have g2:=fs_mul (FL.getD k 0) ((rowL Z q t).getD x 0)
     have k1:=r3_Mul (FL.getD k 0) ((rowL Z q t).getD x 0) (by omega)
     have k2:=r3_Sub (FL.getD x 0) (FL.getD k 0*(rowL Z q t).getD x 0) (by omega)
     rw[←z1]at k2
     clear hZi hZt hFe hFs hdsz hZl f1 f2 z1 z2
     refine SWx.of hE ?_
     conv=>whnf
     (repeat((first|refine step_w1 rfl rfl ?_|refine step_i (by kernel_rfl) ?_|refine step_oA (by first|omega|decide|(simp only[tl0,dlen,List.length_replicate,List.length_set,List.length_map,List.length_zipWith,List.length_take,List.length_append,List.length_cons,List.length_nil];omega)) ?_|refine g_c (by assumption) ?_|refine g_o (op_indexN (α:=Rat) (d:=0) rfl (ev_ok rfl) (ev_ok rfl) (tgt rfl) rfl (tgt rfl) rfl (by omega)) ?_|refine g_o (op_loadA rfl (ev_ok rfl) (tgt rfl) rfl (Nat.succ_ne_zero _) rfl) ?_|refine g_o (op_fieldA rfl (ev_ok rfl) (tgt rfl) rfl rfl (Nat.succ_ne_zero _) rfl) ?_|rw[s1]|rw[s2]);conv=>whnf))
     refine⟨q - (x+1),renBy [(96,2003)],[1,2,3,4,8,9,10,12,13,14,15],[8,9,2001,96],by omega,by kernel_rfl,x+1,rfl,hxq,rfl, ?_⟩
     rw[e4];rfl
    ·have s1:=dge hxq
     obtain rfl:x=q:=by omega
     rw[List.take_of_length_le (l:=rowL Z x i) (by omega)]
     refine SWx_freezeM 14 2003 (fun _ h=>h) (fun _=>rfl) rfl rfl lZ.symm ?_
     refine SWx.of hE ?_
     conv=>whnf
     (repeat((first|refine step_w2 rfl rfl ?_|refine step_oA (by first|omega|decide|(simp only[tl0,dlen,List.length_replicate,List.length_set,List.length_map,List.length_zipWith,List.length_take,List.length_append,List.length_cons,List.length_nil];omega)) ?_|refine g_o (op_loadA rfl (ev_ok rfl) (tgt rfl) rfl (Nat.succ_ne_zero _) rfl) ?_|refine g_o (op_fieldA rfl (ev_ok rfl) (tgt rfl) rfl rfl (Nat.succ_ne_zero _) rfl) ?_|rw[s1]|rw[t3]|rw[Nat.zero_add]);conv=>whnf))
     refine⟨r - (i+1),renBy [(101,2001)],[1,2,3,4,8,9,10,12],[8,9,101],by omega,by kernel_rfl,i+1,rfl,hlt,rfl, ?_⟩
     rw[e3];rfl
 ·have t2:decide ((i:Int)<((rowsL r q a).length:Int))=false:=by rw[la];exact dge hlt
  obtain rfl:i=r:=by omega
  rw[List.take_of_length_le (by omega)]
  refine SWx.of hE ?_
  conv=>whnf
  (repeat((first|refine step_w2 rfl rfl ?_|refine g_o (op_lenM rfl rfl rfl (ev_ok rfl) (tgt rfl) rfl) ?_|refine g_o (op_loadA rfl (ev_ok rfl) (tgt rfl) rfl (Nat.succ_ne_zero _) rfl) ?_|refine g_o (op_fieldA rfl (ev_ok rfl) (tgt rfl) rfl rfl (Nat.succ_ne_zero _) rfl) ?_|rw[t2]);conv=>whnf))
  (first|exact Recast.refl _|exact Frz.recast (Recast.refl _) rfl|(refine Frz.one rfl rfl ?_;(repeat(first|exact FrzC.keyless rfl|exact FrzL.nil|refine FrzL.cons ?_ ?_|refine FrzC.agg ?_|(refine FrzC.seq rfl (by first|rfl|(apply keylessL_map;intro _;rfl)) ?_;(first|rfl|omega|(simp<;>fail)|(simp<;>omega))))))|(refine Frz.tup ?_;skip))
end Go.Proofs.YtbopchpncgdaaaaGreatDoor
