/- The texts Od. -/
import Derived.Test.YtbopchpncgdaaaaGreatDoorQLBareissClear1
namespace Go.Proofs.YtbopchpncgdaaaaGreatDoor
open Go.Sx
set_option linter.unusedSimpArgs false
set_option linter.unusedVariables false
set_option maxRecDepth 100000
set_option maxHeartbeats 40000000
theorem nest3 {ρ:Rho} {a b c:SV} {l:List SV} {x:List Value} (h:HasC ρ (.agg (a::b::c::l)) x):HasC ρ (.agg (.agg [a,b,c]::l)) x:=by
 simp only[HasC,HasZ]at h ⊢
 obtain⟨z,⟨x1,r1,rfl,h1,x2,r2,rfl,h2,x3,r3,rfl,h3,h4⟩,rfl⟩:=h
 exact⟨_,⟨_,r3,rfl,⟨_,⟨x1,_,rfl,h1,x2,_,rfl,h2,x3,_,rfl,h3,rfl⟩,rfl⟩,h4⟩,by simp⟩
abbrev zS:Blk:=⟨232,true,.one [iv 0,iv 0,.val (.slice none 0 0),.int 0,iv 0]⟩
abbrev bS (r c:Int) (a:List Int) (b s:Int):Blk:=⟨232,true,.one (sC r c a b s)⟩
theorem b_turned_no {r c:Nat} {a:List Int} {b s:Int} (ha:OKZ r (c+1) a) (h:∀i,i<r→elz a (c+1) i 0=0):
  CallOK Tryz.prog 186 [sA r (c+1:Nat) a b s] [] (.tup [sA r (c+1:Nat) a b s,.val (.bool false)]) [] []:=by
 have hr:=ha.r
 refine callF (Z:=[]) tabOK mixedOK Tryz.func186 rfl (by kernel_rfl) (by first|rfl|(simp[keylessL,keyless,keylessL_map, *];done)) (by first|rfl|(simp[keylessL,keyless,keylessL_map, *];done)) (by kernel_rfl) rfl ?_
 intro w0 ρ0 hE
 conv=>whnf
 (repeat(first|(rw[Nat.zero_add];conv=>whnf)))
 refine SW_loopN hE (fun k=>k) [1,2,3,9,10] [1,2] (fun m fr hp=>∃i:Nat,m=r - i∧i≤r∧fr=[(1,.ptr 1 0 0 0),(2,.ptr 2 0 0 0),(3,.val (.bool false)),(9,iv r),(10,iv (i:Nat))]∧
  hp=[(1,bS r (c+1:Nat) a b s),(2,zS)]) r ?_ ?_ ?_
 ·kernel_rfl
 ·exact⟨0,rfl,Nat.zero_le _,rfl,rfl⟩
 rintro m _ _ ⟨i,rfl,hi,rfl,rfl⟩
 conv=>whnf
 by_cases hlt:i<r
 ·have t1:=dlt hlt
  have t2:=winc (i:=i) (by omega)
  have k1:=b_at ha hlt (k:=0) (by omega)
  rw[h i hlt]at k1
  have k2:=c_Sign 0
  (repeat((first|refine step_w1 rfl rfl ?_|refine g_c (by assumption) ?_|rw[t1]|rw[t2]|rw[Nat.zero_add]);conv=>whnf))
  exact⟨r - (i+1),fun k=>k,[1,2,3,9,10],[1,2],by omega,by kernel_rfl,i+1,rfl,hlt,rfl,rfl⟩
 ·have t1:=dge hlt
  (repeat(first|(refine step_w2 rfl rfl ?_;conv=>whnf)|(rw[t1];conv=>whnf)))
  (first|exact Recast.refl _|exact Frz.recast (Recast.refl _) rfl|(refine Frz.one rfl rfl ?_;skip)|(refine Frz.tup ?_;skip))
theorem b_turned {r c:Nat} {a:List Int} {b s:Int} (ha:OKZ r (c+1) a) {j:Nat} (hj:j<r) (h:∀i,i<j→elz a (c+1) i 0=0) (h0:elz a (c+1) j 0≠0) (hs:0≤s∧s≤1000):
  CallOK Tryz.prog 186 [sA r (c+1:Nat) a b s] [] (.tup [sA r (c+1:Nat) (mkz r (c+1) (swapZ (elz a (c+1)) 0 j)) b (if 0<j then s+1 else s),.val (.bool true)]) [] []:=by
 have hr:=ha.r
 have hc:=ha.c
 refine callF (Z:=[]) tabOK mixedOK Tryz.func186 rfl (by kernel_rfl) (by first|rfl|(simp[keylessL,keyless,keylessL_map, *];done)) (by first|rfl|(simp[keylessL,keyless,keylessL_map, *];done)) (by kernel_rfl) rfl ?_
 intro w0 ρ0 hE
 conv=>whnf
 (repeat(first|(rw[Nat.zero_add];conv=>whnf)))
 refine SW_loopN hE (fun k=>k) [1,2,3,9,10] [1,2] (fun m fr hp=>∃i:Nat,m=r - i∧i≤j∧fr=[(1,.ptr 1 0 0 0),(2,.ptr 2 0 0 0),(3,.val (.bool false)),(9,iv r),(10,iv (i:Nat))]∧
  hp=[(1,bS r (c+1:Nat) a b s),(2,zS)]) r ?_ ?_ ?_
 ·kernel_rfl
 ·exact⟨0,rfl,Nat.zero_le _,rfl,rfl⟩
 rintro m _ _ ⟨i,rfl,hi,rfl,rfl⟩
 conv=>whnf
 have hlt:i<r:=by omega
 have t1:=dlt hlt
 have t2:=winc (i:=i) (by omega)
 have k1:=b_at ha hlt (k:=0) (by omega)
 have k2:=c_Sign (elz a (c+1) i 0)
 by_cases hij:i<j
 ·rw[h i hij]at k1
  have k2:=c_Sign 0
  (repeat((first|refine step_w1 rfl rfl ?_|refine g_c (by assumption) ?_|rw[t1]|rw[t2]|rw[Nat.zero_add]);conv=>whnf))
  exact⟨r - (i+1),fun k=>k,[1,2,3,9,10],[1,2],by omega,by kernel_rfl,i+1,rfl,hij,rfl,rfl⟩
 obtain rfl:i=j:=by omega
 have t3:((elz a (c+1) i 0).sign==0)=false:=beq_eq_false_iff_ne.2 fun e=>h0 (Int.sign_eq_zero_iff_zero.1 e)
 by_cases hz:0<i
 ·have t4:decide ((i:Int)>0)=true:=decide_eq_true (by omega)
  rw[if_pos hz]
  have hl:a≠[]:=by
   intro e;have:=ha.n;rw[e]at this
   have h2:=idx_lt hlt (show 0<c+1 by omega)
   rw[←this]at h2;exact absurd h2 (Nat.not_lt_zero _)
  have k3:=b_Clone a (by have:=ha.n;have:r*(c+1)≤2048*2048:=Nat.mul_le_mul hr hc;omega) hl
  have hn:a.length≤2048*2048:=by rw[ha.n];exact Nat.mul_le_mul hr hc
  (repeat((first|refine step_w1 rfl rfl ?_|refine step_w2 rfl rfl ?_|refine g_c (by assumption) ?_|refine g_cn (by assumption) rfl ?_|rw[t1]|rw[t3]|rw[t4]|rw[Nat.zero_add]);conv=>whnf))
  refine SW_loopN hE (fun k=>k) [1,2,3,4,5,9,10,27,28] [1,2,2001] (fun m fr hp=>∃k:Nat,m=c+1 - k∧k≤c+1∧fr=[(1,.ptr 1 0 0 0),(2,.ptr 2 0 0 0),(3,.val (.bool false)),(4,iv (i:Nat)),(5,.slc 2001 3 0 a.length),(9,iv r),(10,iv (i:Nat)),(27,iv (c+1:Nat)),(28,iv (k:Nat))]∧
   hp=[(1,bS r (c+1:Nat) a b s),(2,zS),(2001,zB3 (swk r (c+1) a i k))]) (c+1) ?_ ?_ ?_
  ·kernel_rfl
  ·exact⟨0,rfl,Nat.zero_le _,rfl,by rw[swk_zero ha.n];rfl⟩
  clear k1 k2 k3
  rintro m _ _ ⟨k,rfl,hk,rfl,rfl⟩
  conv=>whnf
  by_cases hlk:k<c+1
  ·have t5:=dlt hlk
   have t6:=winc (i:=k) (by omega)
   obtain⟨w1,w2⟩:=idx_w (i:=i) (k:=k) (c:=c+1) (by omega) (by omega) (by omega)
   have hx:=idx_lt hlt hlk
   have hk0:k<r*(c+1):=by have:=idx_lt (show 0<r by omega) hlk;omega
   have hsl:=swk_len r (c+1) a i k
   have g1:((swk r (c+1) a i k).map SV.int).getD (i*(c+1)+k) SV.any= .int (elz a (c+1) i k):=by
    rw[map_getD (d:=0) (by rw[hsl];exact hx)]
    exact congrArg SV.int (swk_at hlt hlk (Nat.le_refl _))
   have g2:((swk r (c+1) a i k).map SV.int).getD k SV.any= .int (elz a (c+1) 0 k):=by
    rw[map_getD (d:=0) (by rw[hsl];exact hk0)]
    have:=swk_at (a:=a) (i:=i) (p:=0) (q:=k) (show 0<r by omega) hlk (Nat.le_refl _)
    rw[elz,Nat.zero_mul,Nat.zero_add]at this
    exact congrArg SV.int this
   have hnl:=ha.n
   have g3:(((swk r (c+1) a i k).map SV.int).set k (.int (elz a (c+1) i k))).getD (i*(c+1)+k) SV.any= .int (elz a (c+1) i k):=by
    rw[←List.map_set,map_getD (d:=0) (by rw[List.length_set,hsl];exact hx)]
    have hne:k≠i*(c+1)+k:=by have:=Nat.mul_le_mul_right (c+1) (show 1≤i from hz);omega
    rw[List.getD_eq_getElem?_getD,List.getElem?_set_ne hne,←List.getD_eq_getElem?_getD]
    exact congrArg SV.int (swk_at hlt hlk (Nat.le_refl _))
   (repeat((first|refine step_w1 rfl rfl ?_|refine step_i (by kernel_rfl) ?_|refine step_oL (by first|omega|decide|(simp only[tl0,dlen,List.length_replicate,List.length_set,List.length_map,List.length_zipWith,List.length_take,List.length_append,List.length_cons,List.length_nil];omega)) ?_|refine step_oA (by first|omega|decide|(simp only[tl0,dlen,List.length_replicate,List.length_set,List.length_map,List.length_zipWith,List.length_take,List.length_append,List.length_cons,List.length_nil];omega)) ?_|rw[t5]|rw[w1]|rw[w2]|rw[g1]|rw[g2]|rw[g3]|rw[t6]|rw[Int.toNat_natCast]|rw[Nat.zero_add]);conv=>whnf))
   refine⟨c+1 - (k+1),fun k=>k,[1,2,3,4,5,9,10,27,28],[1,2,2001],by omega,by kernel_rfl,k+1,rfl,hlk,rfl, ?_⟩
   rw[←swk_set hlt hz hlk,zB3,List.map_set,List.map_set]
   rfl
  ·have t5:=dge hlk
   obtain rfl:k=c+1:=by omega
   rw[swk_all]
   have t7:IntKind.i64.wrap (s+1)=s+1:=wrap_i64 (by omega) (by omega)
   (repeat(first|(refine step_w2 rfl rfl ?_;conv=>whnf)|(rw[t5];conv=>whnf)|(rw[t7];conv=>whnf)))
   refine Frz.tup (FrzL.cons (FrzC.via (fun _ _=>nest3) rfl (FrzC.agg (FrzL.cons (FrzC.agg ?_) (FrzL.cons (FrzC.keyless rfl) (FrzL.cons (FrzC.keyless rfl) FrzL.nil))))) (FrzL.cons (FrzC.keyless rfl) FrzL.nil))
   exact FrzL.cons (FrzC.keyless rfl) (FrzL.cons (FrzC.keyless rfl) (FrzL.cons (FrzC.seq rfl (keylessL_map (fun _=>rfl) _) (by rw[List.length_map,mkz_len];exact ha.n)) FrzL.nil))
 ·obtain rfl:i=0:=by omega
  have t4:decide (((0:Nat):Int)>0)=false:=decide_eq_false (by omega)
  rw[if_neg hz,swapZ_self,mkz_self ha.n]
  (repeat((first|refine step_w1 rfl rfl ?_|refine step_w2 rfl rfl ?_|refine g_c (by assumption) ?_|rw[t1]|rw[t3]);conv=>whnf))
  (first|exact Recast.refl _|exact Frz.recast (Recast.refl _) rfl|(refine Frz.one rfl rfl ?_;skip)|(refine Frz.tup ?_;skip))
end Go.Proofs.YtbopchpncgdaaaaGreatDoor
