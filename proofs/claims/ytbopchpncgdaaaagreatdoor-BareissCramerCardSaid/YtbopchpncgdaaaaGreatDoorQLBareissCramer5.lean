/- The texts Os, Fb, Oa, Ob, Of, Oh, Oc. -/
import Derived.Test.YtbopchpncgdaaaaGreatDoorQLBareissCramer4
namespace Go.Proofs.YtbopchpncgdaaaaGreatDoor
open Go.Sx
set_option linter.unusedSimpArgs false
set_option linter.unusedVariables false
set_option maxRecDepth 100000
set_option maxHeartbeats 40000000
def pS (n B:Nat):Nat→Nat
 |0=>2
 |m+1=>2+n*(B+pS n B m)
theorem fs_sg (t:Nat) (x:Rat):fs (sg t*x)=fs x:=by
 induction t with
 |zero=>rw[sg];congr 1;grind
 |succ t ih=>rw[sg,show -sg t*x= -(sg t*x) by grind,fs_neg,ih]
theorem term_fs {n B S i:Nat} {a:List Rat} (ha:a.length=n*n) (sa:Sm B a) (hi:i<n) (k:Nat) (l:List Nat) (hk:k<n) {D:Rat} (hD:fs D≤S):fs (if k∈l then 0 else sg (turns l k)*el a n i k*D)≤B+S:=by
 split
 ·rw[fs_zero]
  have:=fs_two D
  omega
 ·have h1:=el_sm sa ha hi hk
  have h3:=fs_mul (el a n i k) D
  rw[Rat.mul_assoc,fs_sg];omega
theorem picks_fs {n B:Nat} {a:List Rat} (ha:a.length=n*n) (sa:Sm B a):∀(m i:Nat) (l:List Nat),i+m=n→fs (picksR n (el a n) m i l)≤pS n B m
 |0,_,_,_=>Nat.le_of_eq fs_one
 |m+1,i,l,h=>by
  rw[picksR,pS]
  exact sum_fs (B:=B+pS n B m) n fun k hk=>term_fs ha sa (by omega) k l hk (picks_fs ha sa m (i+1) (l++[k]) (by omega))
end Go.Proofs.YtbopchpncgdaaaaGreatDoor
namespace Go.Proofs.YtbopchpncgdaaaaGreatDoor
open Go.Sx
set_option linter.unusedSimpArgs false
set_option linter.unusedVariables false
set_option maxRecDepth 100000
set_option maxHeartbeats 4000000
variable {M:Nat}
theorem c_fFrom (ok:NatOK M) (n:Int) (d:Nat) (h1:sz n.natAbs≤M) (h2:sz d≤M) (hd:d≠0):CallOK Tryz.prog 119 [.int n,.nat d] [] (.tup [.frac (mkRat n d),.val (.int .i64 0)]) [] []:=by
 have k1:=c_lowest ok n d h1 h2 hd
 refine callV (Z:=[]) tabOK mixedOK Tryz.func119 rfl (by kernel_rfl) rfl rfl (by kernel_rfl) rfl ?_
 intro W0 w0 ρ0 hE
 conv=>whnf
 skip
 refine⟨_,op_eqAgg tabOK goodOK rfl (ev_ok rfl) (ev_ok rfl) rfl rfl rfl rfl (eqTy_nat d 0) guard_nat, ?_⟩
 rw[decide_eq_false hd]
 conv=>whnf
 (repeat(first|(refine step_w2 rfl rfl ?_;conv=>whnf)|(refine g_c (by assumption) ?_;conv=>whnf)));exact Recast.refl _
end Go.Proofs.YtbopchpncgdaaaaGreatDoor
namespace Go.Proofs.YtbopchpncgdaaaaGreatDoor
open Go.Sx
set_option linter.unusedSimpArgs false
set_option linter.unusedVariables false
set_option maxRecDepth 100000
set_option maxHeartbeats 4000000
theorem zs_zero:zs 0=1:=rfl
theorem zs_i64 {n:Int} (h0: -9223372036854775808≤n) (h1:n<9223372036854775808):zs n≤65:=by
 have:=sz_i64 h0 h1;unfold zs;omega
theorem zs_abs (z:Int):zs (z.natAbs:Int)=zs z:=by unfold zs;rw[Int.natAbs_natCast]
theorem fs_zs (z:Int):fs (z:Rat)≤zs z+1:=by
 have:=fsz_int (n:=z) (k:=sz z.natAbs+1) (by omega) (by omega)
 unfold fs zs;omega
theorem zz_Add (a b:Int) (h:zs a+zs b≤1073741824):CallOK Tryz.prog 161 [.int a,.int b] [] (.int (a+b)) [] []:=c_iAdd natBig a b (by unfold zs at h;omega) (by unfold zs at h;omega)
theorem zz_Sub (a b:Int) (h:zs a+zs b≤1073741824):CallOK Tryz.prog 242 [.int a,.int b] [] (.int (a - b)) [] []:=c_iSub natBig a b (by unfold zs at h;omega) (by unfold zs at h;omega)
theorem zz_Mul (a b:Int) (h:zs a+zs b≤1073741824):CallOK Tryz.prog 101 [.int a,.int b] [] (.int (a*b)) [] []:=c_iMul natBig a b (by unfold zs at h;omega)
theorem zz_Div (a b:Int) (h:zs a+zs b≤1073741824):∃r ok,CallOK Tryz.prog 219 [.int a,.int b] [] (.tup [.int (a/b),.int r,.val (.bool ok)]) [] []:=by
 by_cases h0:b=0
 ·subst h0;rw[Int.ediv_zero];exact⟨_,_,c_iDivZ natBig a⟩
 ·exact⟨_,_,c_iDiv natBig a b (by unfold zs at h;omega) (by unfold zs at h;omega) h0⟩
abbrev zvec (l:List Int):SV:=mvec 3 .int l
abbrev wA (r c:Int) (a:List Int):SV:=.agg [iv r,iv c,zvec a]
abbrev wC (r c:Int) (a:List Int):List SV:=[iv r,iv c,zvec a]
theorem OKZ.mk' {r c:Nat} (hr:r≤2048) (hc:c≤2048) (f:Mz):OKZ r c (mkz r c f):=⟨hr,hc,mkz_len ..⟩
theorem b_frac (n:Int) (h:zs n≤536870912):CallOK Tryz.prog 118 [.int n] [] (.frac n) [] []:=by
 have k1:=c_nOf 1 (by decide)
 have k2:=c_fFrom natBig n 1 (by unfold zs at h;omega) (by rw[sz_one];decide) (by decide)
 rw[Rat.mkRat_one]at k2
 refine callV (Z:=[]) tabOK mixedOK Tryz.func118 rfl (by kernel_rfl) rfl rfl (by kernel_rfl) rfl ?_
 intro W0 w0 ρ0 hE
 conv=>whnf
 (repeat(first|(refine step_i (by kernel_rfl) ?_;conv=>whnf)|(refine g_c (by assumption) ?_;conv=>whnf)));(first|exact Recast.refl _|exact Frz.recast (Recast.refl _) rfl|(refine Frz.one rfl rfl ?_;skip)|(refine Frz.tup ?_;skip))
abbrev zB3 (xs:List Int):Blk:=⟨51,true,.seq 3 (xs.map .int)⟩
abbrev zfil (l:List Int) (n i:Nat):Blk:=⟨51,true,.seq 3 ((l.map SV.int).take i++List.replicate (n - i) (SV.int 0))⟩
theorem zfil_all {l:List Int} {n:Nat} (h:l.length=n):zfil l n n=zB3 l:=by
 rw[zfil,fill_all (by rw[List.length_map,h])]
theorem map_getD {α β:Type} {f:α→β} {l:List α} {i:Nat} {d:α} {e:β} (h:i<l.length):(l.map f).getD i e=f (l.getD i d):=by
 simp[List.getD_eq_getElem?_getD,List.getElem?_eq_getElem h]
theorem zfil_set {l:List Int} {n i:Nat} (hi:i<n) (hn:l.length=n):((l.map SV.int).take i++List.replicate (n - i) (SV.int 0)).set i (.int (l.getD i 0))=(l.map SV.int).take (i+1)++List.replicate (n - (i+1)) (SV.int 0):=by
 rw[←fill_set (e:=SV.int 0) hi (by rw[List.length_map,hn]),map_getD (d:=0) (by omega)]
theorem zfil_len {l:List Int} {n i:Nat} (hi:i≤n) (hn:l.length=n):((l.map SV.int).take i++List.replicate (n - i) (SV.int 0)).length=n:=fill_len hi (by rw[List.length_map,hn])
theorem zfil_get {l:List Int} {n i:Nat} (hi:i<n) (hn:l.length=n):((l.map SV.int).take i++List.replicate (n - i) (SV.int 0)).getD i SV.any= .int 0:=fill_get hi (by rw[List.length_map,hn])
theorem b_overF (l:List Int) (hl:l.length<1099511627776) (h:∀i,i<l.length→zs (l.getD i 0)≤536870912):CallOK Tryz.prog 190 [zvec l,.clo 118 [] []] [] (fvec (ofInts l)) [] []:=by
 refine callF (Z:=[]) tabOK mixedOK Tryz.func190 rfl (by kernel_rfl) (by first|rfl|(simp[keylessL,keyless,keylessL_map, *];done)) (by first|rfl|(simp[keylessL,keyless,keylessL_map, *];done)) (by kernel_rfl) rfl ?_
 intro w0 ρ0 hE
 conv=>whnf
 (repeat(first|(refine step_oA (by first|omega|decide|(simp only[tl0,dlen,List.length_replicate,List.length_set,List.length_map,List.length_zipWith,List.length_take,List.length_append,List.length_cons,List.length_nil];omega)) ?_;conv=>whnf)|(refine g_o (op_lenM rfl rfl rfl (ev_ok rfl) (tgt rfl) rfl) ?_;conv=>whnf)|(rw[Int.toNat_natCast];conv=>whnf)))
 have hz:(ofInts l).length=l.length:=by simp[ofInts]
 refine SW_loopN hE (fun k=>k) [1,4,5,11,12,13] [10] (fun m fr hp=>∃i,m=l.length - i∧i≤l.length∧fr=[(1,.clo 118 [] []),(4,.val (.slice none 0 0)),(5,.slc 10 5 0 l.length),(11,zvec l),(12,iv (l.length:Nat)),(13,iv (i:Nat))]∧
  hp=[(10,⟨53,true,.fracs ((ofInts l).take i++List.replicate (l.length - i) 0)⟩)]) l.length ?_ ?_ ?_
 ·kernel_rfl
 ·exact⟨0,rfl,Nat.zero_le _,rfl,rfl⟩
 rintro m _ _ ⟨i,rfl,hi,rfl,rfl⟩
 conv=>whnf
 have hlen:=fill_len (d:=(0:Rat)) hi hz
 by_cases hlt:i<l.length
 ·have t1:=dlt hlt
  have t2:=winc (i:=i) (by omega)
  have k1:=b_frac (l.getD i 0) (h i hlt)
  rw[←map_get (f:=fun(n:Int)=>((n:Int):Rat)) (e:=0) hlt]at k1
  (repeat((first|refine step_w1 rfl rfl ?_|refine step_oL (by first|omega|decide|(simp only[tl0,dlen,List.length_replicate,List.length_set,List.length_map,List.length_zipWith,List.length_take,List.length_append,List.length_cons,List.length_nil];omega)) ?_|refine step_oA (by first|omega|decide|(simp only[tl0,dlen,List.length_replicate,List.length_set,List.length_map,List.length_zipWith,List.length_take,List.length_append,List.length_cons,List.length_nil];omega)) ?_|refine g_c (by assumption) ?_|refine g_o (op_loadA rfl (ev_ok rfl) (tgt rfl) rfl (Nat.succ_ne_zero _) rfl) ?_|refine g_o (op_indexN (α:=Int) (d:=0) rfl (ev_ok rfl) (ev_ok rfl) (tgt rfl) rfl (tgt rfl) rfl (by omega)) ?_|rw[t1]|rw[t2]|rw[Int.toNat_natCast]|rw[Nat.zero_add]);conv=>whnf))
  refine⟨l.length - (i+1),fun k=>k,[1,4,5,11,12,13],[10],by omega,by kernel_rfl,i+1,rfl,hlt,rfl, ?_⟩
  rw[←fill_set (e:=0) hlt hz]
  rfl
 ·have t1:=dge hlt
  have hI:i=l.length:=by omega
  subst hI
  rw[fill_all hz]
  (repeat(first|(refine step_w2 rfl rfl ?_;conv=>whnf)|(rw[t1];conv=>whnf)));(first|exact Recast.refl _|exact Frz.recast (Recast.refl _) rfl|(refine Frz.one rfl rfl ?_;(repeat(first|(refine FrzC.fracs rfl ?_;(first|rfl|omega|(simp<;>fail)|(simp<;>omega))))))|(refine Frz.tup ?_;skip))
theorem b_mat (r c:Int) (l:List Int) (hl:l.length<1099511627776) (h:∀i,i<l.length→zs (l.getD i 0)≤536870912):CallOK Tryz.prog 138 [wA r c l] [] (mA r c (ofInts l)) [] []:=by
 have k1:=b_overF l hl h
 refine callV (Z:=[]) tabOK mixedOK Tryz.func138 rfl (by kernel_rfl) rfl rfl (by kernel_rfl) rfl ?_
 intro W0 w0 ρ0 hE
 conv=>whnf
 (repeat(first|(refine step_i (by kernel_rfl) ?_;conv=>whnf)|(refine g_c (by assumption) ?_;conv=>whnf)));(first|exact Recast.refl _|exact Frz.recast (Recast.refl _) rfl|(refine Frz.one rfl rfl ?_;skip)|(refine Frz.tup ?_;skip))
theorem b_Check (r c:Int) (l:List Int) (hl:l.length<1099511627776) (h:∀i,i<l.length→zs (l.getD i 0)≤536870912):CallOK Tryz.prog 137 [wA r c l] [] (iv (checkF r c l.length)) [] []:=by
 have k1:=b_mat r c l hl h
 have k2:=m_Check r c (ofInts l) (by simp[ofInts];exact hl)
 rw[show(ofInts l).length=l.length from by simp[ofInts]]at k2
 refine callV (Z:=[]) tabOK mixedOK Tryz.func137 rfl (by kernel_rfl) rfl rfl (by kernel_rfl) rfl ?_
 intro W0 w0 ρ0 hE
 conv=>whnf
 (repeat(first|(refine g_c (by assumption) ?_;conv=>whnf)));(first|exact Recast.refl _|exact Frz.recast (Recast.refl _) rfl|(refine Frz.one rfl rfl ?_;skip)|(refine Frz.tup ?_;skip))
theorem b_Frac (r c:Int) (l:List Int) (hl:l.length<1099511627776) (h:∀i,i<l.length→zs (l.getD i 0)≤536870912):CallOK Tryz.prog 65 [wA r c l] [] (if checkF r c l.length=0 then .tup [mA r c (ofInts l),iv 0]else .tup [mA 0 0 [],iv (checkF r c l.length)]) [] []:=by
 have k1:=b_Check r c l hl h
 have k2:=b_mat r c l hl h
 by_cases hc:checkF r c l.length=0
 ·rw[if_pos hc]
  rw[hc]at k1
  refine callV (Z:=[]) tabOK mixedOK Tryz.func65 rfl (by kernel_rfl) rfl rfl (by kernel_rfl) rfl ?_
  intro W0 w0 ρ0 hE
  conv=>whnf
  (repeat(first|(refine step_w2 rfl rfl ?_;conv=>whnf)|(refine g_c (by assumption) ?_;conv=>whnf)));(first|exact Recast.refl _|exact Frz.recast (Recast.refl _) rfl|(refine Frz.one rfl rfl ?_;skip)|(refine Frz.tup ?_;skip))
 ·rw[if_neg hc]
  have t1:(checkF r c l.length != 0)=true:=bne_iff_ne.2 hc
  refine callF (Z:=[]) tabOK mixedOK Tryz.func65 rfl (by kernel_rfl) (by first|rfl|(simp[keylessL,keyless,keylessL_map, *];done)) (by first|rfl|(simp[keylessL,keyless,keylessL_map, *];done)) (by kernel_rfl) rfl ?_
  intro w0 ρ0 hE
  conv=>whnf
  (repeat(first|(refine step_w1 rfl rfl ?_;conv=>whnf)|(refine g_c (by assumption) ?_;conv=>whnf)|(rw[t1];conv=>whnf)));(first|exact Recast.refl _|exact Frz.recast (Recast.refl _) rfl|(refine Frz.one rfl rfl ?_;skip)|(refine Frz.tup ?_;(repeat(first|exact FrzC.keyless rfl|exact FrzL.nil|refine FrzL.cons ?_ ?_|exact FrzC.nilS|refine FrzC.agg ?_))))
theorem b_square (r c:Int) (l:List Int) (hl:l.length<1099511627776) (h:∀i,i<l.length→zs (l.getD i 0)≤536870912):CallOK Tryz.prog 123 [wA r c l] [] (iv (if checkF r c l.length=0 then(if r=c then 0 else 1)else checkF r c l.length)) [] []:=by
 have k1:=b_Check r c l hl h
 by_cases hc:checkF r c l.length=0
 ·rw[if_pos hc]
  rw[hc]at k1
  by_cases hrc:r=c
  ·have t2:(r != c)=false:=by rw[hrc];exact bne_self_eq_false _
   rw[if_pos hrc]
   refine callV (Z:=[]) tabOK mixedOK Tryz.func123 rfl (by kernel_rfl) rfl rfl (by kernel_rfl) rfl ?_
   intro W0 w0 ρ0 hE
   conv=>whnf
   (repeat((first|refine step_w2 rfl rfl ?_|refine g_c (by assumption) ?_|rw[bne_self_eq_false]|rw[t2]);conv=>whnf));(first|exact Recast.refl _|exact Frz.recast (Recast.refl _) rfl|(refine Frz.one rfl rfl ?_;skip)|(refine Frz.tup ?_;skip))
  ·have t2:(r != c)=true:=bne_iff_ne.2 hrc
   rw[if_neg hrc]
   refine callV (Z:=[]) tabOK mixedOK Tryz.func123 rfl (by kernel_rfl) rfl rfl (by kernel_rfl) rfl ?_
   intro W0 w0 ρ0 hE
   conv=>whnf
   (repeat((first|refine step_w1 rfl rfl ?_|refine step_w2 rfl rfl ?_|refine g_c (by assumption) ?_|rw[bne_self_eq_false]|rw[t2]);conv=>whnf));(first|exact Recast.refl _|exact Frz.recast (Recast.refl _) rfl|(refine Frz.one rfl rfl ?_;skip)|(refine Frz.tup ?_;skip))
 ·rw[if_neg hc]
  have t1:(checkF r c l.length != 0)=true:=bne_iff_ne.2 hc
  refine callV (Z:=[]) tabOK mixedOK Tryz.func123 rfl (by kernel_rfl) rfl rfl (by kernel_rfl) rfl ?_
  intro W0 w0 ρ0 hE
  conv=>whnf
  (repeat(first|(refine step_w1 rfl rfl ?_;conv=>whnf)|(refine g_c (by assumption) ?_;conv=>whnf)|(rw[t1];conv=>whnf)));(first|exact Recast.refl _|exact Frz.recast (Recast.refl _) rfl|(refine Frz.one rfl rfl ?_;skip)|(refine Frz.tup ?_;skip))
end Go.Proofs.YtbopchpncgdaaaaGreatDoor
namespace Go.Proofs.YtbopchpncgdaaaaGreatDoor
open Go.Sx
set_option linter.unusedSimpArgs false
set_option linter.unusedVariables false
set_option maxRecDepth 100000
set_option maxHeartbeats 4000000
theorem b_at {r c:Nat} {a:List Int} (h:OKZ r c a) {i k:Nat} (hi:i<r) (hk:k<c):CallOK Tryz.prog 136 [wA r c a,iv i,iv k] [] (.int (elz a c i k)) [] []:=by
 obtain⟨t1,t2⟩:=idx_w (i:=i) (k:=k) (c:=c) (by have:=h.r;omega) h.c (by have:=h.c;omega)
 have hlt:=idx_lt hi hk
 rw[←h.n]at hlt
 refine callV (Z:=[]) tabOK mixedOK Tryz.func136 rfl (by kernel_rfl) rfl rfl (by kernel_rfl) rfl ?_
 intro W0 w0 ρ0 hE
 conv=>whnf
 (repeat((first|refine g_o (op_loadA rfl (ev_ok rfl) (tgt rfl) rfl (Nat.succ_ne_zero _) rfl) ?_|refine g_o (op_indexM (α:=Int) (d:=0) rfl (ev_ok rfl) (ev_ok rfl) (tgt rfl) rfl (tgt rfl) rfl (by omega)) ?_|rw[t1]|rw[t2]|rw[Int.toNat_natCast]);conv=>whnf));(first|exact Recast.refl _|exact Frz.recast (Recast.refl _) rfl|(refine Frz.one rfl rfl ?_;skip)|(refine Frz.tup ?_;skip))
abbrev zW:Blk:=⟨101,true,.one [iv 0,iv 0,.val (.slice none 0 0)]⟩
theorem b_madeF {r c:Nat} (hr:r≤2048) (hc:c≤2048) (F:Mz) (g:FuncId) (R C:Int) (l:List Int)
  (hf:∀i k,i<r→k<c→CallOK Tryz.prog g ([wA R C l]++([iv (i:Nat),iv (k:Nat)]++[])) [] (.int (F i k)) [] []):
  CallOK Tryz.prog 134 [iv r,iv c,.clo g [wA R C l] []] [] (wA r c (mkz r c F)) [] []:=by
 have hz:(mkz r c F).length=r*c:=mkz_len ..
 have hrc:r*c≤2048*2048:=Nat.mul_le_mul hr hc
 have t1:IntKind.i64.wrap ((r:Int)*(c:Int))=((r*c:Nat):Int):=by rw[←Int.natCast_mul,wrap_i64 (by omega) (by omega)]
 refine callF (Z:=[]) tabOK mixedOK Tryz.func134 rfl (by kernel_rfl) (by first|rfl|(simp[keylessL,keyless,keylessL_map, *];done)) (by first|rfl|(simp[keylessL,keyless,keylessL_map, *];done)) (by kernel_rfl) rfl ?_
 intro w0 ρ0 hE
 conv=>whnf
 (repeat(first|(refine step_oA (by first|omega|decide|(simp only[tl0,dlen,List.length_replicate,List.length_set,List.length_map,List.length_zipWith,List.length_take,List.length_append,List.length_cons,List.length_nil];omega)) ?_;conv=>whnf)|(rw[t1];conv=>whnf)|(rw[Int.toNat_natCast];conv=>whnf)))
 refine SW_loopN hE (fun k=>k) [0,1,2,6,7,17,18] [6,7,15] (fun m fr hp=>∃i:Nat,m=r - i∧i≤r∧fr=[(0,iv r),(1,iv c),(2,.clo g [wA R C l] []),(6,.ptr 6 0 0 0),(7,.ptr 7 0 0 0),(17,iv r),(18,iv (i:Nat))]∧
  hp=[(6,zW),(7,bW r c 15),(15,zfil (mkz r c F) (r*c) (i*c))]) r ?_ ?_ ?_
 ·kernel_rfl
 ·exact⟨0,rfl,Nat.zero_le _,rfl,by rw[Nat.zero_mul,zfil,List.take_zero];rfl⟩
 rintro m _ _ ⟨i,rfl,hi,rfl,rfl⟩
 conv=>whnf
 by_cases hlt:i<r
 ·have t2:=dlt hlt
  have t3:=winc (i:=i) (by omega)
  have hic:(i+1)*c≤r*c:=Nat.mul_le_mul_right c hlt
  rw[Nat.succ_mul]at hic
  (repeat(first|(refine step_w1 rfl rfl ?_;conv=>whnf)|(rw[t2];conv=>whnf)))
  refine SW_loopN hE (fun k=>k) [0,1,2,6,7,8,17,18,21,22] [6,7,15] (fun m fr hp=>∃k:Nat,m=c - k∧k≤c∧fr=[(0,iv r),(1,iv c),(2,.clo g [wA R C l] []),(6,.ptr 6 0 0 0),(7,.ptr 7 0 0 0),(8,iv (i:Nat)),(17,iv r),(18,iv (i:Nat)),(21,iv c),(22,iv (k:Nat))]∧
   hp=[(6,zW),(7,bW r c 15),(15,zfil (mkz r c F) (r*c) (i*c+k))]) c ?_ ?_ ?_
  ·kernel_rfl
  ·exact⟨0,rfl,Nat.zero_le _,rfl,rfl⟩
  rintro m _ _ ⟨k,rfl,hk,rfl,rfl⟩
  conv=>whnf
  by_cases hlk:k<c
  ·have t4:=dlt hlk
   have t5:=winc (i:=k) (by omega)
   obtain⟨w1,w2⟩:=idx_w (i:=i) (k:=k) (c:=c) (by omega) (by omega) (by omega)
   have hlen:=zfil_len (l:=mkz r c F) (show i*c+k≤r*c by omega) hz
   have t6:=zfil_get (l:=mkz r c F) (show i*c+k<r*c by omega) hz
   have o2:=hf i k hlt hlk
   rw[←mkz_el (f:=F) hlt hlk]at o2
   (repeat((first|refine step_w1 rfl rfl ?_|refine step_i (by kernel_rfl) ?_|refine step_oL (by first|omega|decide|(simp only[tl0,dlen,List.length_replicate,List.length_set,List.length_map,List.length_zipWith,List.length_take,List.length_append,List.length_cons,List.length_nil];omega)) ?_|refine step_oA (by first|omega|decide|(simp only[tl0,dlen,List.length_replicate,List.length_set,List.length_map,List.length_zipWith,List.length_take,List.length_append,List.length_cons,List.length_nil];omega)) ?_|refine g_c (by assumption) ?_|rw[t4]|rw[t5]|rw[w1]|rw[w2]|rw[t6]|rw[Int.toNat_natCast]|rw[Nat.zero_add]);conv=>whnf))
   refine⟨c - (k+1),fun k=>k,[0,1,2,6,7,8,17,18,21,22],[6,7,15],by omega,by kernel_rfl,k+1,rfl,hlk,rfl, ?_⟩
   rw[show i*c+(k+1)=i*c+k+1 from rfl,zfil,←zfil_set (show i*c+k<r*c by omega) hz]
   rfl
  ·have t4:=dge hlk
   obtain rfl:k=c:=by omega
   (repeat(first|(refine step_w2 rfl rfl ?_;conv=>whnf)|(rw[t4];conv=>whnf)|(rw[t3];conv=>whnf)))
   refine⟨r - (i+1),fun k=>k,[0,1,2,6,7,17,18],[6,7,15],by omega,by kernel_rfl,i+1,rfl,hlt,rfl, ?_⟩
   rw[Nat.succ_mul]
   rfl
 ·have t2:=dge hlt
  obtain rfl:i=r:=by omega
  rw[zfil_all hz]
  (repeat(first|(refine step_w2 rfl rfl ?_;conv=>whnf)|(rw[t2];conv=>whnf)))
  (first|exact Recast.refl _|exact Frz.recast (Recast.refl _) rfl|(refine Frz.one rfl rfl ?_;(repeat(first|exact FrzC.keyless rfl|exact FrzL.nil|refine FrzL.cons ?_ ?_|refine FrzC.agg ?_|(refine FrzC.seq rfl (by first|rfl|(apply keylessL_map;intro _;rfl)) ?_;(first|rfl|omega|(simp<;>fail)|(simp<;>omega))))))|(refine Frz.tup ?_;skip))
theorem b_made1 {r c:Nat} (hr:r≤2048) (hc:c≤2048) (F:Mz) (g:FuncId) (p:Pred)
  (hf:∀i k,i<r→k<c→CallOK Tryz.prog g ([]++([iv (i:Nat),iv (k:Nat)]++[.atom p])) [] (.int (F i k)) [] []):
  CallOK Tryz.prog 134 [iv r,iv c,.clo g [] [.atom p]] [] (wA r c (mkz r c F)) [] []:=by
 have hz:(mkz r c F).length=r*c:=mkz_len ..
 have hrc:r*c≤2048*2048:=Nat.mul_le_mul hr hc
 have t1:IntKind.i64.wrap ((r:Int)*(c:Int))=((r*c:Nat):Int):=by rw[←Int.natCast_mul,wrap_i64 (by omega) (by omega)]
 refine callF (Z:=[]) tabOK mixedOK Tryz.func134 rfl (by kernel_rfl) (by first|rfl|(simp[keylessL,keyless,keylessL_map, *];done)) (by first|rfl|(simp[keylessL,keyless,keylessL_map, *];done)) (by kernel_rfl) rfl ?_
 intro w0 ρ0 hE
 conv=>whnf
 (repeat(first|(refine step_oA (by first|omega|decide|(simp only[tl0,dlen,List.length_replicate,List.length_set,List.length_map,List.length_zipWith,List.length_take,List.length_append,List.length_cons,List.length_nil];omega)) ?_;conv=>whnf)|(rw[t1];conv=>whnf)|(rw[Int.toNat_natCast];conv=>whnf)))
 refine SW_loopN hE (fun k=>k) [0,1,2,6,7,17,18] [6,7,15] (fun m fr hp=>∃i:Nat,m=r - i∧i≤r∧fr=[(0,iv r),(1,iv c),(2,.clo g [] [.atom p]),(6,.ptr 6 0 0 0),(7,.ptr 7 0 0 0),(17,iv r),(18,iv (i:Nat))]∧
  hp=[(6,zW),(7,bW r c 15),(15,zfil (mkz r c F) (r*c) (i*c))]) r ?_ ?_ ?_
 ·kernel_rfl
 ·exact⟨0,rfl,Nat.zero_le _,rfl,by rw[Nat.zero_mul,zfil,List.take_zero];rfl⟩
 rintro m _ _ ⟨i,rfl,hi,rfl,rfl⟩
 conv=>whnf
 by_cases hlt:i<r
 ·have t2:=dlt hlt
  have t3:=winc (i:=i) (by omega)
  have hic:(i+1)*c≤r*c:=Nat.mul_le_mul_right c hlt
  rw[Nat.succ_mul]at hic
  (repeat(first|(refine step_w1 rfl rfl ?_;conv=>whnf)|(rw[t2];conv=>whnf)))
  refine SW_loopN hE (fun k=>k) [0,1,2,6,7,8,17,18,21,22] [6,7,15] (fun m fr hp=>∃k:Nat,m=c - k∧k≤c∧fr=[(0,iv r),(1,iv c),(2,.clo g [] [.atom p]),(6,.ptr 6 0 0 0),(7,.ptr 7 0 0 0),(8,iv (i:Nat)),(17,iv r),(18,iv (i:Nat)),(21,iv c),(22,iv (k:Nat))]∧
   hp=[(6,zW),(7,bW r c 15),(15,zfil (mkz r c F) (r*c) (i*c+k))]) c ?_ ?_ ?_
  ·kernel_rfl
  ·exact⟨0,rfl,Nat.zero_le _,rfl,rfl⟩
  rintro m _ _ ⟨k,rfl,hk,rfl,rfl⟩
  conv=>whnf
  by_cases hlk:k<c
  ·have t4:=dlt hlk
   have t5:=winc (i:=k) (by omega)
   obtain⟨w1,w2⟩:=idx_w (i:=i) (k:=k) (c:=c) (by omega) (by omega) (by omega)
   have hlen:=zfil_len (l:=mkz r c F) (show i*c+k≤r*c by omega) hz
   have t6:=zfil_get (l:=mkz r c F) (show i*c+k<r*c by omega) hz
   have o2:=hf i k hlt hlk
   rw[←mkz_el (f:=F) hlt hlk]at o2
   (repeat((first|refine step_w1 rfl rfl ?_|refine step_i (by kernel_rfl) ?_|refine step_oL (by first|omega|decide|(simp only[tl0,dlen,List.length_replicate,List.length_set,List.length_map,List.length_zipWith,List.length_take,List.length_append,List.length_cons,List.length_nil];omega)) ?_|refine step_oA (by first|omega|decide|(simp only[tl0,dlen,List.length_replicate,List.length_set,List.length_map,List.length_zipWith,List.length_take,List.length_append,List.length_cons,List.length_nil];omega)) ?_|refine g_c (by assumption) ?_|rw[t4]|rw[t5]|rw[w1]|rw[w2]|rw[t6]|rw[Int.toNat_natCast]|rw[Nat.zero_add]);conv=>whnf))
   refine⟨c - (k+1),fun k=>k,[0,1,2,6,7,8,17,18,21,22],[6,7,15],by omega,by kernel_rfl,k+1,rfl,hlk,rfl, ?_⟩
   rw[show i*c+(k+1)=i*c+k+1 from rfl,zfil,←zfil_set (show i*c+k<r*c by omega) hz]
   rfl
  ·have t4:=dge hlk
   obtain rfl:k=c:=by omega
   (repeat(first|(refine step_w2 rfl rfl ?_;conv=>whnf)|(rw[t4];conv=>whnf)|(rw[t3];conv=>whnf)))
   refine⟨r - (i+1),fun k=>k,[0,1,2,6,7,17,18],[6,7,15],by omega,by kernel_rfl,i+1,rfl,hlt,rfl, ?_⟩
   rw[Nat.succ_mul]
   rfl
 ·have t2:=dge hlt
  obtain rfl:i=r:=by omega
  rw[zfil_all hz]
  (repeat(first|(refine step_w2 rfl rfl ?_;conv=>whnf)|(rw[t2];conv=>whnf)))
  (first|exact Recast.refl _|exact Frz.recast (Recast.refl _) rfl|(refine Frz.one rfl rfl ?_;(repeat(first|exact FrzC.keyless rfl|exact FrzL.nil|refine FrzL.cons ?_ ?_|refine FrzC.agg ?_|(refine FrzC.seq rfl (by first|rfl|(apply keylessL_map;intro _;rfl)) ?_;(first|rfl|omega|(simp<;>fail)|(simp<;>omega))))))|(refine Frz.tup ?_;skip))
theorem b_made2 {r c:Nat} (hr:r≤2048) (hc:c≤2048) (F:Mz) (g:FuncId) (p q:Pred)
  (hf:∀i k,i<r→k<c→CallOK Tryz.prog g ([]++([iv (i:Nat),iv (k:Nat)]++[.atom p,.atom q])) [] (.int (F i k)) [] []):
  CallOK Tryz.prog 134 [iv r,iv c,.clo g [] [.atom p,.atom q]] [] (wA r c (mkz r c F)) [] []:=by
 have hz:(mkz r c F).length=r*c:=mkz_len ..
 have hrc:r*c≤2048*2048:=Nat.mul_le_mul hr hc
 have t1:IntKind.i64.wrap ((r:Int)*(c:Int))=((r*c:Nat):Int):=by rw[←Int.natCast_mul,wrap_i64 (by omega) (by omega)]
 refine callF (Z:=[]) tabOK mixedOK Tryz.func134 rfl (by kernel_rfl) (by first|rfl|(simp[keylessL,keyless,keylessL_map, *];done)) (by first|rfl|(simp[keylessL,keyless,keylessL_map, *];done)) (by kernel_rfl) rfl ?_
 intro w0 ρ0 hE
 conv=>whnf
 (repeat(first|(refine step_oA (by first|omega|decide|(simp only[tl0,dlen,List.length_replicate,List.length_set,List.length_map,List.length_zipWith,List.length_take,List.length_append,List.length_cons,List.length_nil];omega)) ?_;conv=>whnf)|(rw[t1];conv=>whnf)|(rw[Int.toNat_natCast];conv=>whnf)))
 refine SW_loopN hE (fun k=>k) [0,1,2,6,7,17,18] [6,7,15] (fun m fr hp=>∃i:Nat,m=r - i∧i≤r∧fr=[(0,iv r),(1,iv c),(2,.clo g [] [.atom p,.atom q]),(6,.ptr 6 0 0 0),(7,.ptr 7 0 0 0),(17,iv r),(18,iv (i:Nat))]∧
  hp=[(6,zW),(7,bW r c 15),(15,zfil (mkz r c F) (r*c) (i*c))]) r ?_ ?_ ?_
 ·kernel_rfl
 ·exact⟨0,rfl,Nat.zero_le _,rfl,by rw[Nat.zero_mul,zfil,List.take_zero];rfl⟩
 rintro m _ _ ⟨i,rfl,hi,rfl,rfl⟩
 conv=>whnf
 by_cases hlt:i<r
 ·have t2:=dlt hlt
  have t3:=winc (i:=i) (by omega)
  have hic:(i+1)*c≤r*c:=Nat.mul_le_mul_right c hlt
  rw[Nat.succ_mul]at hic
  (repeat(first|(refine step_w1 rfl rfl ?_;conv=>whnf)|(rw[t2];conv=>whnf)))
  refine SW_loopN hE (fun k=>k) [0,1,2,6,7,8,17,18,21,22] [6,7,15] (fun m fr hp=>∃k:Nat,m=c - k∧k≤c∧fr=[(0,iv r),(1,iv c),(2,.clo g [] [.atom p,.atom q]),(6,.ptr 6 0 0 0),(7,.ptr 7 0 0 0),(8,iv (i:Nat)),(17,iv r),(18,iv (i:Nat)),(21,iv c),(22,iv (k:Nat))]∧
   hp=[(6,zW),(7,bW r c 15),(15,zfil (mkz r c F) (r*c) (i*c+k))]) c ?_ ?_ ?_
  ·kernel_rfl
  ·exact⟨0,rfl,Nat.zero_le _,rfl,rfl⟩
  rintro m _ _ ⟨k,rfl,hk,rfl,rfl⟩
  conv=>whnf
  by_cases hlk:k<c
  ·have t4:=dlt hlk
   have t5:=winc (i:=k) (by omega)
   obtain⟨w1,w2⟩:=idx_w (i:=i) (k:=k) (c:=c) (by omega) (by omega) (by omega)
   have hlen:=zfil_len (l:=mkz r c F) (show i*c+k≤r*c by omega) hz
   have t6:=zfil_get (l:=mkz r c F) (show i*c+k<r*c by omega) hz
   have o2:=hf i k hlt hlk
   rw[←mkz_el (f:=F) hlt hlk]at o2
   (repeat((first|refine step_w1 rfl rfl ?_|refine step_i (by kernel_rfl) ?_|refine step_oL (by first|omega|decide|(simp only[tl0,dlen,List.length_replicate,List.length_set,List.length_map,List.length_zipWith,List.length_take,List.length_append,List.length_cons,List.length_nil];omega)) ?_|refine step_oA (by first|omega|decide|(simp only[tl0,dlen,List.length_replicate,List.length_set,List.length_map,List.length_zipWith,List.length_take,List.length_append,List.length_cons,List.length_nil];omega)) ?_|refine g_c (by assumption) ?_|rw[t4]|rw[t5]|rw[w1]|rw[w2]|rw[t6]|rw[Int.toNat_natCast]|rw[Nat.zero_add]);conv=>whnf))
   refine⟨c - (k+1),fun k=>k,[0,1,2,6,7,8,17,18,21,22],[6,7,15],by omega,by kernel_rfl,k+1,rfl,hlk,rfl, ?_⟩
   rw[show i*c+(k+1)=i*c+k+1 from rfl,zfil,←zfil_set (show i*c+k<r*c by omega) hz]
   rfl
  ·have t4:=dge hlk
   obtain rfl:k=c:=by omega
   (repeat(first|(refine step_w2 rfl rfl ?_;conv=>whnf)|(rw[t4];conv=>whnf)|(rw[t3];conv=>whnf)))
   refine⟨r - (i+1),fun k=>k,[0,1,2,6,7,17,18],[6,7,15],by omega,by kernel_rfl,i+1,rfl,hlt,rfl, ?_⟩
   rw[Nat.succ_mul]
   rfl
 ·have t2:=dge hlt
  obtain rfl:i=r:=by omega
  rw[zfil_all hz]
  (repeat(first|(refine step_w2 rfl rfl ?_;conv=>whnf)|(rw[t2];conv=>whnf)))
  (first|exact Recast.refl _|exact Frz.recast (Recast.refl _) rfl|(refine Frz.one rfl rfl ?_;(repeat(first|exact FrzC.keyless rfl|exact FrzL.nil|refine FrzL.cons ?_ ?_|refine FrzC.agg ?_|(refine FrzC.seq rfl (by first|rfl|(apply keylessL_map;intro _;rfl)) ?_;(first|rfl|omega|(simp<;>fail)|(simp<;>omega))))))|(refine Frz.tup ?_;skip))
theorem b_made3 {r c:Nat} (hr:r≤2048) (hc:c≤2048) (F:Mz) (g:FuncId) (p q s:Pred)
  (hf:∀i k,i<r→k<c→CallOK Tryz.prog g ([]++([iv (i:Nat),iv (k:Nat)]++[.atom p,.atom q,.atom s])) [] (.int (F i k)) [] []):
  CallOK Tryz.prog 134 [iv r,iv c,.clo g [] [.atom p,.atom q,.atom s]] [] (wA r c (mkz r c F)) [] []:=by
 have hz:(mkz r c F).length=r*c:=mkz_len ..
 have hrc:r*c≤2048*2048:=Nat.mul_le_mul hr hc
 have t1:IntKind.i64.wrap ((r:Int)*(c:Int))=((r*c:Nat):Int):=by rw[←Int.natCast_mul,wrap_i64 (by omega) (by omega)]
 refine callF (Z:=[]) tabOK mixedOK Tryz.func134 rfl (by kernel_rfl) (by first|rfl|(simp[keylessL,keyless,keylessL_map, *];done)) (by first|rfl|(simp[keylessL,keyless,keylessL_map, *];done)) (by kernel_rfl) rfl ?_
 intro w0 ρ0 hE
 conv=>whnf
 (repeat(first|(refine step_oA (by first|omega|decide|(simp only[tl0,dlen,List.length_replicate,List.length_set,List.length_map,List.length_zipWith,List.length_take,List.length_append,List.length_cons,List.length_nil];omega)) ?_;conv=>whnf)|(rw[t1];conv=>whnf)|(rw[Int.toNat_natCast];conv=>whnf)))
 refine SW_loopN hE (fun k=>k) [0,1,2,6,7,17,18] [6,7,15] (fun m fr hp=>∃i:Nat,m=r - i∧i≤r∧fr=[(0,iv r),(1,iv c),(2,.clo g [] [.atom p,.atom q,.atom s]),(6,.ptr 6 0 0 0),(7,.ptr 7 0 0 0),(17,iv r),(18,iv (i:Nat))]∧
  hp=[(6,zW),(7,bW r c 15),(15,zfil (mkz r c F) (r*c) (i*c))]) r ?_ ?_ ?_
 ·kernel_rfl
 ·exact⟨0,rfl,Nat.zero_le _,rfl,by rw[Nat.zero_mul,zfil,List.take_zero];rfl⟩
 rintro m _ _ ⟨i,rfl,hi,rfl,rfl⟩
 conv=>whnf
 by_cases hlt:i<r
 ·have t2:=dlt hlt
  have t3:=winc (i:=i) (by omega)
  have hic:(i+1)*c≤r*c:=Nat.mul_le_mul_right c hlt
  rw[Nat.succ_mul]at hic
  (repeat(first|(refine step_w1 rfl rfl ?_;conv=>whnf)|(rw[t2];conv=>whnf)))
  refine SW_loopN hE (fun k=>k) [0,1,2,6,7,8,17,18,21,22] [6,7,15] (fun m fr hp=>∃k:Nat,m=c - k∧k≤c∧fr=[(0,iv r),(1,iv c),(2,.clo g [] [.atom p,.atom q,.atom s]),(6,.ptr 6 0 0 0),(7,.ptr 7 0 0 0),(8,iv (i:Nat)),(17,iv r),(18,iv (i:Nat)),(21,iv c),(22,iv (k:Nat))]∧
   hp=[(6,zW),(7,bW r c 15),(15,zfil (mkz r c F) (r*c) (i*c+k))]) c ?_ ?_ ?_
  ·kernel_rfl
  ·exact⟨0,rfl,Nat.zero_le _,rfl,rfl⟩
  rintro m _ _ ⟨k,rfl,hk,rfl,rfl⟩
  conv=>whnf
  by_cases hlk:k<c
  ·have t4:=dlt hlk
   have t5:=winc (i:=k) (by omega)
   obtain⟨w1,w2⟩:=idx_w (i:=i) (k:=k) (c:=c) (by omega) (by omega) (by omega)
   have hlen:=zfil_len (l:=mkz r c F) (show i*c+k≤r*c by omega) hz
   have t6:=zfil_get (l:=mkz r c F) (show i*c+k<r*c by omega) hz
   have o2:=hf i k hlt hlk
   rw[←mkz_el (f:=F) hlt hlk]at o2
   (repeat((first|refine step_w1 rfl rfl ?_|refine step_i (by kernel_rfl) ?_|refine step_oL (by first|omega|decide|(simp only[tl0,dlen,List.length_replicate,List.length_set,List.length_map,List.length_zipWith,List.length_take,List.length_append,List.length_cons,List.length_nil];omega)) ?_|refine step_oA (by first|omega|decide|(simp only[tl0,dlen,List.length_replicate,List.length_set,List.length_map,List.length_zipWith,List.length_take,List.length_append,List.length_cons,List.length_nil];omega)) ?_|refine g_c (by assumption) ?_|rw[t4]|rw[t5]|rw[w1]|rw[w2]|rw[t6]|rw[Int.toNat_natCast]|rw[Nat.zero_add]);conv=>whnf))
   refine⟨c - (k+1),fun k=>k,[0,1,2,6,7,8,17,18,21,22],[6,7,15],by omega,by kernel_rfl,k+1,rfl,hlk,rfl, ?_⟩
   rw[show i*c+(k+1)=i*c+k+1 from rfl,zfil,←zfil_set (show i*c+k<r*c by omega) hz]
   rfl
  ·have t4:=dge hlk
   obtain rfl:k=c:=by omega
   (repeat(first|(refine step_w2 rfl rfl ?_;conv=>whnf)|(rw[t4];conv=>whnf)|(rw[t3];conv=>whnf)))
   refine⟨r - (i+1),fun k=>k,[0,1,2,6,7,17,18],[6,7,15],by omega,by kernel_rfl,i+1,rfl,hlt,rfl, ?_⟩
   rw[Nat.succ_mul]
   rfl
 ·have t2:=dge hlt
  obtain rfl:i=r:=by omega
  rw[zfil_all hz]
  (repeat(first|(refine step_w2 rfl rfl ?_;conv=>whnf)|(rw[t2];conv=>whnf)))
  (first|exact Recast.refl _|exact Frz.recast (Recast.refl _) rfl|(refine Frz.one rfl rfl ?_;(repeat(first|exact FrzC.keyless rfl|exact FrzL.nil|refine FrzL.cons ?_ ?_|refine FrzC.agg ?_|(refine FrzC.seq rfl (by first|rfl|(apply keylessL_map;intro _;rfl)) ?_;(first|rfl|omega|(simp<;>fail)|(simp<;>omega))))))|(refine Frz.tup ?_;skip))
end Go.Proofs.YtbopchpncgdaaaaGreatDoor
namespace Go.Proofs.YtbopchpncgdaaaaGreatDoor
open Go.Sx
set_option linter.unusedSimpArgs false
set_option linter.unusedVariables false
set_option maxRecDepth 100000
set_option maxHeartbeats 4000000
abbrev upL (n:Nat) (l:List Int):List Int:=upN n++l
theorem upL_len (n:Nat) (l:List Int):(upL n l).length=n+l.length:=by simp[upN_len]
theorem upL_at {n:Nat} {l:List Int} {i:Nat} (hi:i<n):(upL n l).getD i 0=i:=by
 simp[upL,upN,List.getD_eq_getElem?_getD,List.getElem?_append_left,hi]
theorem upL_last {n:Nat} {x:Int}:(upL n [x]).getD n 0=x:=by
 simp[upL,upN,List.getD_eq_getElem?_getD]
theorem b_part1 {r c:Nat} {a:List Int} (ha:OKZ r c a) {p q:List Int} (hp:∀i,i<p.length→0≤p.getD i 0∧p.getD i 0<r) (hq:∀i,i<q.length→0≤q.getD i 0∧q.getD i 0<c) {i k:Nat} (hi:i<p.length) (hk:k<q.length) (hl:p.length≤2048) (hl2:q.length≤2048):
  CallOK Tryz.prog 217 ([]++([iv (i:Nat),iv (k:Nat)]++[ptrA (wC r c a),ptrA [ivec .i64 p],ptrA [ivec .i64 q]])) [] (.int (elz a c (p.getD i 0).toNat (q.getD k 0).toNat)) [] []:=by
 obtain⟨p1,p2⟩:=hp i hi
 obtain⟨q1,q2⟩:=hq k hk
 have k1:=b_at ha (i:=(p.getD i 0).toNat) (k:=(q.getD k 0).toNat) (by omega) (by omega)
 rw[Int.toNat_of_nonneg p1,Int.toNat_of_nonneg q1]at k1
 refine callV (Z:=[]) tabOK mixedOK Tryz.func217 rfl (by kernel_rfl) rfl rfl (by kernel_rfl) rfl ?_
 intro W0 w0 ρ0 hE
 conv=>whnf
 (repeat((first|refine step_i (by kernel_rfl) ?_|refine g_c (by assumption) ?_|refine g_o (op_loadA rfl (ev_ok rfl) (tgt rfl) rfl (Nat.succ_ne_zero _) rfl) ?_|refine g_o (op_indexN (α:=Int) (d:=0) rfl (ev_ok rfl) (ev_ok rfl) (tgt rfl) rfl (tgt rfl) rfl (by omega)) ?_);conv=>whnf));(first|exact Recast.refl _|exact Frz.recast (Recast.refl _) rfl|(refine Frz.one rfl rfl ?_;skip)|(refine Frz.tup ?_;skip))
theorem b_part {r c:Nat} {a:List Int} (ha:OKZ r c a) {p q:List Int} (hp:∀i,i<p.length→0≤p.getD i 0∧p.getD i 0<r) (hq:∀i,i<q.length→0≤q.getD i 0∧q.getD i 0<c) (hl:p.length≤2048) (hl2:q.length≤2048):
  CallOK Tryz.prog 174 [wA r c a,ivec .i64 p,ivec .i64 q] [] (wA p.length q.length (mkz p.length q.length fun i k=>elz a c (p.getD i 0).toNat (q.getD k 0).toNat)) [] []:=by
 have k1:=b_made3 hl hl2 _ 217 (ptrP (wC r c a)) (ptrP [ivec .i64 p]) (ptrP [ivec .i64 q]) (fun i k hi hk=>b_part1 ha hp hq hi hk hl hl2)
 refine callV (Z:=[3,4,5]) tabOK mixedOK Tryz.func174 rfl (by kernel_rfl) rfl rfl (by kernel_rfl) rfl ?_
 intro W0 w0 ρ0 hE
 conv=>whnf
 (repeat((first|refine g_c (by assumption) ?_|refine g_o (op_lenM rfl rfl rfl (ev_ok rfl) (tgt rfl) rfl) ?_|refine g_o (op_loadA rfl (ev_ok rfl) (tgt rfl) rfl (Nat.succ_ne_zero _) rfl) ?_|refine g_o (op_makeFunc rfl rfl rfl) ?_);conv=>whnf));(first|exact Recast.refl _|exact Frz.recast (Recast.refl _) rfl|(refine Frz.one rfl rfl ?_;skip)|(refine Frz.tup ?_;skip))
end Go.Proofs.YtbopchpncgdaaaaGreatDoor
namespace Go.Proofs.YtbopchpncgdaaaaGreatDoor
open Go.Sx
set_option linter.unusedSimpArgs false
set_option linter.unusedVariables false
set_option maxRecDepth 100000
set_option maxHeartbeats 40000000
theorem b_upToM (n:Nat) (l:List Int) (hn:n≤2048) (hl:l.length≤2048):CallOK Tryz.prog 132 [iv n,ivec .i64 l] [] (.slc 2001 1 0 (n+l.length)) [(2001,iblkM (upL n l))] []:=by
 refine callK (Z:=[]) tabOK mixedOK Tryz.func132 rfl (by kernel_rfl) (args:=[iv n,ivec .i64 l]) (fk:=[]) (c:=.slc 17 1 0 (n+l.length)) (new:=[(17,iblkM (upL n l))]) (upd:=[]) (ShapeOK.of rfl rfl rfl rfl rfl rfl rfl rfl rfl rfl rfl) rfl (renBy [(17,2001)]) NamesOK.one ?_
 intro W0 w0 ρ0 hE
 conv=>whnf
 skip
 refine SWx_adopt (t:=4) (k:=2002) (s:=1) (blk:=iblkM []) rfl rfl rfl ?_
 refine SW_loopN hE (fun k=>k) [1,4,6,7] [2002] (fun m fr hp=>∃i:Nat,m=n - i∧i≤n∧fr=[(1,ivec .i64 l),(4,.slc 2002 1 0 i),(6,iv n),(7,iv (i:Nat))]∧hp=[(2002,iblkM (upN i))]) n ?_ ?_ ?_
 ·kernel_rfl
 ·exact⟨0,rfl,Nat.zero_le _,rfl,rfl⟩
 rintro m _ _ ⟨i,rfl,hi,rfl,rfl⟩
 conv=>whnf
 have lq:=upN_len i
 by_cases hlt:i<n
 ·have t1:=dlt hlt
  have t2:=winc (i:=i) (by omega)
  have e1:=app_int (l:=upN i) (x:=(i:Int))
  rw[lq,←upN_succ]at e1
  (repeat((first|refine step_oA (by first|omega|decide|(simp only[tl0,dlen,List.length_replicate,List.length_set,List.length_map,List.length_zipWith,List.length_take,List.length_append,List.length_cons,List.length_nil];omega)) ?_|refine tst_tt t1 ?_|rw[t1]|rw[t2]);conv=>whnf))
  refine⟨n - (i+1),renBy [(13,2002)],[1,4,6,7],[13],by omega,by kernel_rfl,i+1,rfl,hlt,rfl, ?_⟩
  rw[e1];rfl
 ·have t1:=dge hlt
  obtain rfl:i=n:=by omega
  (repeat(first|(refine tst_ff t1 ?_;conv=>whnf)|(rw[t1];conv=>whnf)))
  refine⟨.slc 17 1 0 (i+l.length),[(2002,iblkM (upN i))],[(17,iblkM (upL i l))],[(2002,⟨3,true,.dead⟩)],op_appendV rfl rfl rfl (ev_ok rfl) (ev_ok rfl) (rows_ints l) (tabOK.get (t:=29) rfl) rfl (tabOK.get (t:=29) rfl) rfl (tabOK.get (t:=3) rfl) (List.mem_cons_self ..) rfl rfl (by show i≤(upN i).length;omega) (m:=l.length) (List.length_map _).symm (by show 0+l.length≤l.length;omega) (by simp[dapp,List.take_of_length_le (show(upN i).length≤i by omega)]) (by show(i+_)*ti3.bytes≤_;simp only[tiB3];omega) (by omega),one_fk rfl,one_new rfl,one_upd (List.mem_cons_self ..) rfl rfl rfl, ?_⟩
  conv=>whnf
  exact⟨Recast.refl _,(fun k b h=>by simp only[List.mem_singleton,Prod.mk.injEq]at h;obtain⟨rfl,rfl⟩:=h;rfl),(fun _ _ h=>by cases h)⟩
theorem b_upToV (n:Nat) (l:List Int) (hn:n≤2048) (hl:l.length≤2048):CallOK Tryz.prog 132 [iv n,ivec .i64 l] [] (ivec .i64 (upL n l)) [] []:=by
 refine callF (Z:=[]) tabOK mixedOK Tryz.func132 rfl (by kernel_rfl) (by first|rfl|(simp[keylessL,keyless,keylessL_map, *];done)) (by first|rfl|(simp[keylessL,keyless,keylessL_map, *];done)) (by kernel_rfl) rfl ?_
 intro w0 ρ0 hE
 conv=>whnf
 skip
 refine SWx_adopt (t:=4) (k:=2002) (s:=1) (blk:=iblkM []) rfl rfl rfl ?_
 refine SW_loopN hE (fun k=>k) [1,4,6,7] [2002] (fun m fr hp=>∃i:Nat,m=n - i∧i≤n∧fr=[(1,ivec .i64 l),(4,.slc 2002 1 0 i),(6,iv n),(7,iv (i:Nat))]∧hp=[(2002,iblkM (upN i))]) n ?_ ?_ ?_
 ·kernel_rfl
 ·exact⟨0,rfl,Nat.zero_le _,rfl,rfl⟩
 rintro m _ _ ⟨i,rfl,hi,rfl,rfl⟩
 conv=>whnf
 have lq:=upN_len i
 by_cases hlt:i<n
 ·have t1:=dlt hlt
  have t2:=winc (i:=i) (by omega)
  have e1:=app_int (l:=upN i) (x:=(i:Int))
  rw[lq,←upN_succ]at e1
  (repeat((first|refine step_oA (by first|omega|decide|(simp only[tl0,dlen,List.length_replicate,List.length_set,List.length_map,List.length_zipWith,List.length_take,List.length_append,List.length_cons,List.length_nil];omega)) ?_|refine tst_tt t1 ?_|rw[t1]|rw[t2]);conv=>whnf))
  refine⟨n - (i+1),renBy [(13,2002)],[1,4,6,7],[13],by omega,by kernel_rfl,i+1,rfl,hlt,rfl, ?_⟩
  rw[e1];rfl
 ·have t1:=dge hlt
  obtain rfl:i=n:=by omega
  (repeat(first|(refine tst_ff t1 ?_;conv=>whnf)|(rw[t1];conv=>whnf)))
  refine⟨.slc 17 1 0 (i+l.length),[(2002,iblkM (upN i))],[(17,iblkM (upL i l))],[(2002,⟨3,true,.dead⟩)],op_appendV rfl rfl rfl (ev_ok rfl) (ev_ok rfl) (rows_ints l) (tabOK.get (t:=29) rfl) rfl (tabOK.get (t:=29) rfl) rfl (tabOK.get (t:=3) rfl) (List.mem_cons_self ..) rfl rfl (by show i≤(upN i).length;omega) (m:=l.length) (List.length_map _).symm (by show 0+l.length≤l.length;omega) (by simp[dapp,List.take_of_length_le (show(upN i).length≤i by omega)]) (by show(i+_)*ti3.bytes≤_;simp only[tiB3];omega) (by omega),one_fk rfl,one_new rfl,one_upd (List.mem_cons_self ..) rfl rfl rfl, ?_⟩
  conv=>whnf
  refine Frz.one rfl rfl (FrzC.ints rfl ?_)
  rw[upL_len]
end Go.Proofs.YtbopchpncgdaaaaGreatDoor
namespace Go.Sx
set_option linter.unusedSimpArgs false
set_option linter.unusedVariables false
theorem op_eqNilV {P:Program} {o:Oper} {ft:List (Nat×SV)} {fk:List (Nat×Blk)} {t t2 e:TypeId} {x y:Operand} {w:Nat} {xs:List SV} (ho:o.op= .binOp .eql t x y t2) (hx:EvOK ft x (vecA w xs)) (hy:EvOK ft y (.val (.slice none 0 0))) (hu:P.underlying t=some (.slice e)) (hne:xs≠[]):OpOK P o ft fk (.val (.bool false)) [] []:=
 ok_pure fun ρ ac W hp=>by
  have e2:=of_has_val (hy ρ ac hp.hft)
  rcases has_vec (hx ρ ac hp.hft)with⟨h0,_⟩|⟨b,cap,z,pre,ex,ty,fz,_,_,_,_,_,h6⟩
  ·exact absurd h0 hne
  ·have hq:∀d b i n m,(Op.equalIn (d+1) t (.slice (some ⟨b,i,none⟩) n m) (.slice none 0 0)).run P W= .ok false W:=fun d b i n m=>by simp[Op.equalIn,run_underlying hu]
   have hq':∀b i n m,(Op.equal t (.slice (some ⟨b,i,none⟩) n m) (.slice none 0 0)).run P W= .ok false W:=fun b i n m=>hq 9999 b i n m
   refine⟨_, ?_,has_val rfl⟩
   simp[execOp,ho,h6,e2,eqGuard,binOp,hq']
end Go.Sx
namespace Go.Proofs.YtbopchpncgdaaaaGreatDoor
open Go.Sx
set_option linter.unusedSimpArgs false
set_option linter.unusedVariables false
set_option maxRecDepth 100000
set_option maxHeartbeats 4000000
abbrev sA (r c:Int) (a:List Int) (b s:Int):SV:=.agg [wA r c a,.int b,iv s]
abbrev sC (r c:Int) (a:List Int) (b s:Int):List SV:=[wA r c a,.int b,iv s]
theorem b_begin (r c:Int) (a:List Int):CallOK Tryz.prog 172 [wA r c a] [] (sA r c a 1 0) [] []:=by
 have k1:=c_iOf 1 (by decide) (by decide)
 refine callV (Z:=[]) tabOK mixedOK Tryz.func172 rfl (by kernel_rfl) rfl rfl (by kernel_rfl) rfl ?_
 intro W0 w0 ρ0 hE
 conv=>whnf
 (repeat(first|(refine step_i (by kernel_rfl) ?_;conv=>whnf)|(refine g_c (by assumption) ?_;conv=>whnf)));(first|exact Recast.refl _|exact Frz.recast (Recast.refl _) rfl|(refine Frz.one rfl rfl ?_;skip)|(refine Frz.tup ?_;skip))
theorem b_cross (a b c d:Int) (h:zs a+zs b+(zs c+zs d)≤1073741824):CallOK Tryz.prog 220 [.int a,.int b,.int c,.int d] [] (.int (a*b - c*d)) [] []:=by
 have k1:=zz_Mul a b (by omega)
 have k2:=zz_Mul c d (by omega)
 have k3:=zz_Sub (a*b) (c*d) (by have:=zs_mul a b;have:=zs_mul c d;omega)
 refine callV (Z:=[]) tabOK mixedOK Tryz.func220 rfl (by kernel_rfl) rfl rfl (by kernel_rfl) rfl ?_
 intro W0 w0 ρ0 hE
 conv=>whnf
 (repeat(first|(refine step_i (by kernel_rfl) ?_;conv=>whnf)|(refine g_c (by assumption) ?_;conv=>whnf)));(first|exact Recast.refl _|exact Frz.recast (Recast.refl _) rfl|(refine Frz.one rfl rfl ?_;skip)|(refine Frz.tup ?_;skip))
theorem b_next1 {r c B:Nat} {a:List Int} {b s:Int} (ha:OKZ (r+1) (c+1) a) (za:Zm B a) (hb:4*B+zs b≤1073741824) {i k:Nat} (hi:i<r) (hk:k<c):
  CallOK Tryz.prog 218 ([]++([iv (i:Nat),iv (k:Nat)]++[ptrA [.int (elz a (c+1) 0 0)],ptrA (sC (r+1:Nat) (c+1:Nat) a b s)])) [] (.int (crZ a (c+1) i k/b)) [] []:=by
 have h1:=elz_zm za ha.n (i:=0) (k:=0) (by omega) (by omega)
 have h2:=elz_zm za ha.n (i:=i+1) (k:=k+1) (by omega) (by omega)
 have h3:=elz_zm za ha.n (i:=i+1) (k:=0) (by omega) (by omega)
 have h4:=elz_zm za ha.n (i:=0) (k:=k+1) (by omega) (by omega)
 have h5:=crZ_zs za ha.n hi hk
 have w1:=winc (i:=i) (by have:=ha.r;omega)
 have w2:=winc (i:=k) (by have:=ha.c;omega)
 have k1:=b_at ha (i:=i+1) (k:=k+1) (by omega) (by omega)
 have k2:=b_at ha (i:=i+1) (k:=0) (by omega) (by omega)
 have k3:=b_at ha (i:=0) (k:=k+1) (by omega) (by omega)
 have k4:=b_cross (elz a (c+1) 0 0) (elz a (c+1) (i+1) (k+1)) (elz a (c+1) (i+1) 0) (elz a (c+1) 0 (k+1)) (by omega)
 obtain⟨q,ok,k5⟩:=zz_Div (crZ a (c+1) i k) b (by omega)
 unfold crZ at*
 refine callV (Z:=[]) tabOK mixedOK Tryz.func218 rfl (by kernel_rfl) rfl rfl (by kernel_rfl) rfl ?_
 intro W0 w0 ρ0 hE
 conv=>whnf
 (repeat((first|refine step_i (by kernel_rfl) ?_|refine g_c (by assumption) ?_|refine g_o (op_loadA rfl (ev_ok rfl) (tgt rfl) rfl (Nat.succ_ne_zero _) rfl) ?_|refine g_o (op_fieldA rfl (ev_ok rfl) (tgt rfl) rfl rfl (Nat.succ_ne_zero _) rfl) ?_|rw[w1]|rw[w2]);conv=>whnf));(first|exact Recast.refl _|exact Frz.recast (Recast.refl _) rfl|(refine Frz.one rfl rfl ?_;skip)|(refine Frz.tup ?_;skip))
theorem b_next {r c B:Nat} {a:List Int} {b s:Int} (ha:OKZ (r+1) (c+1) a) (za:Zm B a) (hb:4*B+zs b≤1073741824):
  CallOK Tryz.prog 175 [sA (r+1:Nat) (c+1:Nat) a b s] [] (sA r c (nxt r c a b) (elz a (c+1) 0 0) s) [] []:=by
 have k1:=b_at ha (i:=0) (k:=0) (by omega) (by omega)
 have k2:=b_made2 (r:=r) (c:=c) (by have:=ha.r;omega) (by have:=ha.c;omega) (fun i k=>crZ a (c+1) i k/b) 218 (ptrP [.int (elz a (c+1) 0 0)]) (ptrP (sC (r+1:Nat) (c+1:Nat) a b s)) fun i k hi hk=>b_next1 ha za hb hi hk
 have w1:IntKind.i64.wrap (((r+1:Nat):Int) - 1)=(r:Int):=by rw[wrap_i64 (by omega) (by have:=ha.r;omega)];omega
 have w2:IntKind.i64.wrap (((c+1:Nat):Int) - 1)=(c:Int):=by rw[wrap_i64 (by omega) (by have:=ha.c;omega)];omega
 refine callF (Z:=[1,100002]) tabOK mixedOK Tryz.func175 rfl (by kernel_rfl) (by first|rfl|(simp[keylessL,keyless,keylessL_map, *];done)) (by first|rfl|(simp[keylessL,keyless,keylessL_map, *];done)) (by kernel_rfl) rfl ?_
 intro w0 ρ0 hE
 conv=>whnf
 (repeat(first|(refine g_c (by assumption) ?_;conv=>whnf)|(refine g_o (op_loadA rfl (ev_ok rfl) (tgt rfl) rfl (Nat.succ_ne_zero _) rfl) ?_;conv=>whnf)|(refine g_o (op_fieldA rfl (ev_ok rfl) (tgt rfl) rfl rfl (Nat.succ_ne_zero _) rfl) ?_;conv=>whnf)))
 refine SWx_freezeP 3 3 (fun _ h=>h) rfl rfl rfl ?_
 refine SWx_go hE ?_
 conv=>whnf
 (repeat((first|refine g_c (by assumption) ?_|refine g_o (op_loadA rfl (ev_ok rfl) (tgt rfl) rfl (Nat.succ_ne_zero _) rfl) ?_|refine g_o (op_fieldA rfl (ev_ok rfl) (tgt rfl) rfl rfl (Nat.succ_ne_zero _) rfl) ?_|refine g_o (op_makeFunc rfl rfl rfl) ?_|rw[w1]|rw[w2]);conv=>whnf))
 (first|exact Recast.refl _|exact Frz.recast (Recast.refl _) rfl|(refine Frz.one rfl rfl ?_;skip)|(refine Frz.tup ?_;skip))
theorem rows_seqZ (l:List Int):∀(ρ:Rho) z,HasZ (bareR ρ.imm ρ.glob) (l.map SV.int) z→(∀x∈l.map SV.int,x.width=3)→Go.Sx.Rows ρ 3 (.seq 3 (l.map .int)) z:=fun _ _ h k=>⟨rfl,h,k⟩
theorem b_Clone (l:List Int) (hl:l.length<1099511627776) (h0:l≠[]):CallOK Tryz.prog 227 [zvec l] [] (.slc 2001 3 0 l.length) [(2001,zB3 l)] []:=by
 have hne:l.map SV.int≠[]:=by simpa using h0
 refine callK (Z:=[]) tabOK mixedOK Tryz.func227 rfl (by kernel_rfl) (args:=[zvec l]) (fk:=[]) (c:=.slc 7 3 0 l.length) (new:=[(7,zB3 l)]) (upd:=[]) (ShapeOK.of rfl rfl rfl rfl rfl rfl rfl rfl rfl rfl rfl) rfl (renBy [(7,2001)]) NamesOK.one ?_
 intro W0 w0 ρ0 hE
 conv=>whnf
 (repeat(first|(refine step_w2 rfl rfl ?_;conv=>whnf)|(refine⟨_,op_eqNilV rfl (ev_ok rfl) (ev_ok rfl) Tryz.underlying99 hne, ?_⟩;conv=>whnf)))
 refine⟨.slc 7 3 0 (0+l.length),[(5,⟨51,true,.seq 3 []⟩)],[(7,zB3 l)],[(5,⟨51,true,.dead⟩)],op_appendV rfl rfl rfl (ev_ok rfl) (ev_ok rfl) (rows_seqZ l) (tabOK.get (t:=99) rfl) rfl (tabOK.get (t:=99) rfl) rfl (tabOK.get (t:=51) rfl) (List.mem_cons_self ..) rfl rfl (by simp[dlen]) (by simp) (by simp[dlen]) (by simp[dapp];exact List.take_of_length_le (by simp)) (by show(0+_)*ti51.bytes≤_;simp only[tiB51];omega) (by omega),one_fk rfl,one_new rfl,one_upd (List.mem_cons_self ..) rfl rfl rfl, ?_⟩
 conv=>whnf
 exact⟨by rw[Nat.zero_add];exact Recast.refl _,(fun k b h=>by simp only[List.mem_singleton,Prod.mk.injEq]at h;obtain⟨rfl,rfl⟩:=h;rfl),(fun _ _ h=>by cases h)⟩
def swk (r c:Nat) (a:List Int) (i k:Nat):List Int:=mkz r c fun p q=>if q<k then swapZ (elz a c) 0 i p q else elz a c p q
theorem set_elz {a:List Int} {r n i k j l:Nat} {q:Int} (ha:a.length=r*n) (hi:i<r) (hk:k<n) (hj:j<r) (hl:l<n):elz (a.set (i*n+k) q) n j l=if i=j∧k=l then q else elz a n j l:=by
 have h1:=idx_lt hi hk
 have h2:=idx_lt hj hl
 simp only[elz,List.getD_eq_getElem?_getD,List.getElem?_set]
 by_cases e:i*n+k=j*n+l
 ·have e1:=congrArg (·/n) e
  have e2:=congrArg (· % n) e
  simp only[idx_div hk,idx_div hl,idx_mod hk,idx_mod hl]at e1 e2
  subst e1 e2
  simp[ha,h1]
 ·rw[if_neg e,if_neg (by rintro⟨rfl,rfl⟩;exact e rfl)]
theorem swk_zero {r c:Nat} {a:List Int} {i:Nat} (ha:a.length=r*c):swk r c a i 0=a:=
 mkz_ext ha fun p q _ _=>if_neg (by omega)
theorem swk_len (r c:Nat) (a:List Int) (i k:Nat):(swk r c a i k).length=r*c:=mkz_len ..
theorem swk_at {r c:Nat} {a:List Int} {i k p q:Nat} (hp:p<r) (hq:q<c) (hk:k≤q):elz (swk r c a i k) c p q=elz a c p q:=by
 rw[swk,mkz_el hp hq,if_neg (by omega)]
theorem swk_set {r c:Nat} {a:List Int} {i k:Nat} (hi:i<r) (h0:0<i) (hk:k<c):
  ((swk r c a i k).set k (elz a c i k)).set (i*c+k) (elz a c 0 k)=swk r c a i (k+1):=by
 have hl:=swk_len r c a i k
 have e0:(swk r c a i k).set k (elz a c i k)=(swk r c a i k).set (0*c+k) (elz a c i k):=by rw[Nat.zero_mul,Nat.zero_add]
 rw[e0]
 refine maz_ext (by rw[List.length_set,List.length_set,hl]) (swk_len ..) fun p q hp hq=> ?_
 rw[set_elz (by rw[List.length_set,hl]) hi hk hp hq,set_elz hl (by omega) hk hp hq,swk,swk,mkz_el hp hq,mkz_el hp hq]
 unfold swapZ
 by_cases e1:i=p∧k=q
 ·obtain⟨rfl,rfl⟩:=e1
  rw[if_pos ⟨rfl,rfl⟩,if_pos (by omega),if_neg (by omega),if_pos rfl]
 ·rw[if_neg e1]
  by_cases e2:0=p∧k=q
  ·obtain⟨rfl,rfl⟩:=e2
   rw[if_pos ⟨rfl,rfl⟩,if_pos (by omega),if_pos rfl]
  ·rw[if_neg e2]
   by_cases e3:q=k
   ·subst e3
    rw[if_neg (by omega),if_pos (by omega),if_neg (fun h=>e2 ⟨h.symm,rfl⟩),if_neg (fun h=>e1 ⟨h.symm,rfl⟩)]
   ·by_cases e4:q<k
    ·rw[if_pos e4,if_pos (show q<k+1 by omega)]
    ·rw[if_neg e4,if_neg (show ¬q<k+1 by omega)]
theorem swk_all {r c:Nat} {a:List Int} {i:Nat}:swk r c a i c=mkz r c (swapZ (elz a c) 0 i):=mkz_congr fun p q _ hq=>if_pos hq
end Go.Proofs.YtbopchpncgdaaaaGreatDoor
