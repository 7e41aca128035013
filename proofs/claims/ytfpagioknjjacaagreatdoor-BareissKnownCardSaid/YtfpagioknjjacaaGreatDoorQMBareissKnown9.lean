/- The texts Od. -/
import Derived.Test.YtfpagioknjjacaaGreatDoorQMBareissKnown8
namespace Go.Proofs.YtfpagioknjjacaaGreatDoor
open Go.Sx
set_option linter.unusedSimpArgs false
set_option linter.unusedVariables false
set_option maxRecDepth 100000
set_option maxHeartbeats 40000000
theorem acD {ρ:bY} {a b c:SV} {l:List SV} {x:List Value} (h:aK ρ (.agg (a::b::c::l)) x):aK ρ (.agg (.agg [a,b,c]::l)) x:=by
 simp only[aK,au]at h ⊢
 obtain⟨z,⟨x1,r1,rfl,h1,x2,r2,rfl,h2,x3,r3,rfl,h3,h4⟩,rfl⟩:=h
 exact⟨_,⟨_,r3,rfl,⟨_,⟨x1,_,rfl,h1,x2,_,rfl,h2,x3,_,rfl,h3,rfl⟩,rfl⟩,h4⟩,by simp⟩
abbrev zS:aC:=⟨294,true,.one [iv 0,iv 0,.val (.slice none 0 0),.int 0,iv 0]⟩
abbrev bS (r c:Int) (a:List Int) (b s:Int):aC:=⟨294,true,.one (sC r c a b s)⟩
theorem CI {r c:Nat} {a:List Int} {b s:Int} (ha:gu r (c+1) a) (h:∀i,i<r→bl a (c+1) i 0=0):
  ab Tryz.prog 328 [sA r (c+1:Nat) a b s] [] (.ct [sA r (c+1:Nat) a b s,.val (.bool false)]) [] []:=by
 have hr:=ha.r
 refine gX [] Tryz.func328 ?_
 intro w0 ρ0 hE
 conv=>whnf
 (repeat(first|(rw[Nat.zero_add];conv=>whnf)))
 refine ai hE (fun k=>k) [1,2,3,9,10] [1,2] (fun m fr hp=>∃i:Nat,m=r - i∧i≤r∧fr=[(1,.ptr 1 0 0 0),(2,.ptr 2 0 0 0),(3,.val (.bool false)),(9,iv r),(10,iv (i:Nat))]∧
  hp=[(1,bS r (c+1:Nat) a b s),(2,zS)]) r ?_ ?_ ?_
 ·kernel_rfl
 ·exact⟨0,rfl,Nat.zero_le _,rfl,rfl⟩
 rintro m _ _ ⟨i,rfl,hi,rfl,rfl⟩
 conv=>whnf
 by_cases aA:i<r
 ·have t1:=dX aA
  have t2:=bA (i:=i) aa
  have k1:=xi ha aA (k:=0) aa
  rw[h i aA]at k1
  have k2:=jt 0
  (repeat((first|refine ag rfl rfl ?_|refine aS (by assumption) ?_|rw[t1]|rw[t2]|rw[Nat.zero_add]);conv=>whnf))
  exact⟨r - (i+1),fun k=>k,[1,2,3,9,10],[1,2],aa,aB,i+1,rfl,aA,rfl,rfl⟩
 ·have t1:=ez aA
  (repeat(first|(refine af rfl rfl ?_;conv=>whnf)|(rw[t1];conv=>whnf)))
  exact Q5
theorem KU {r c:Nat} {a:List Int} {b s:Int} (ha:gu r (c+1) a) {j:Nat} (hj:j<r) (h:∀i,i<j→bl a (c+1) i 0=0) (h0:bl a (c+1) j 0≠0) (hs:0≤s∧s≤1000):
  ab Tryz.prog 328 [sA r (c+1:Nat) a b s] [] (.ct [sA r (c+1:Nat) (eP r (c+1) (eY (bl a (c+1)) 0 j)) b (if 0<j then s+1 else s),.val (.bool true)]) [] []:=by
 have hr:=ha.r
 have hc:=ha.c
 refine gX [] Tryz.func328 ?_
 intro w0 ρ0 hE
 conv=>whnf
 (repeat(first|(rw[Nat.zero_add];conv=>whnf)))
 refine ai hE (fun k=>k) [1,2,3,9,10] [1,2] (fun m fr hp=>∃i:Nat,m=r - i∧i≤j∧fr=[(1,.ptr 1 0 0 0),(2,.ptr 2 0 0 0),(3,.val (.bool false)),(9,iv r),(10,iv (i:Nat))]∧
  hp=[(1,bS r (c+1:Nat) a b s),(2,zS)]) r ?_ ?_ ?_
 ·kernel_rfl
 ·exact⟨0,rfl,Nat.zero_le _,rfl,rfl⟩
 rintro m _ _ ⟨i,rfl,hi,rfl,rfl⟩
 conv=>whnf
 have aA:i<r:=aa
 have t1:=dX aA
 have t2:=bA (i:=i) aa
 have k1:=xi ha aA (k:=0) aa
 have k2:=jt (bl a (c+1) i 0)
 by_cases GG:i<j
 ·rw[h i GG]at k1
  have k2:=jt 0
  (repeat((first|refine ag rfl rfl ?_|refine aS (by assumption) ?_|rw[t1]|rw[t2]|rw[Nat.zero_add]);conv=>whnf))
  exact⟨r - (i+1),fun k=>k,[1,2,3,9,10],[1,2],aa,aB,i+1,rfl,GG,rfl,rfl⟩
 obtain rfl:i=j:=aa
 have t3:((bl a (c+1) i 0).sign==0)=false:=beq_eq_false_iff_ne.2 fun e=>h0 (Int.sign_eq_zero_iff_zero.1 e)
 by_cases hz:0<i
 ·have t4:decide ((i:Int)>0)=true:=decide_eq_true aa
  rw[if_pos hz]
  have hl:a≠[]:=by
   intro e;have:=ha.n;rw[e]at this
   have h2:=dN aA (show 0<c+1 by omega)
   rw[←this]at h2;exact absurd h2 (Nat.not_lt_zero _)
  have k3:=Oz a (by have:=ha.n;have:r*(c+1)≤2048*2048:=Nat.mul_le_mul hr hc;omega) hl
  have hn:a.length≤2048*2048:=by rw[ha.n];exact Nat.mul_le_mul hr hc
  (repeat((first|refine ag rfl rfl ?_|refine af rfl rfl ?_|refine aS (by assumption) ?_|refine mK (by assumption) rfl ?_|rw[t1]|rw[t3]|rw[t4]|rw[Nat.zero_add]);conv=>whnf))
  refine ai hE (fun k=>k) [1,2,3,4,5,9,10,27,28] [1,2,2001] (fun m fr hp=>∃k:Nat,m=c+1 - k∧k≤c+1∧fr=[(1,.ptr 1 0 0 0),(2,.ptr 2 0 0 0),(3,.val (.bool false)),(4,iv (i:Nat)),(5,.aN 2001 3 0 a.length),(9,iv r),(10,iv (i:Nat)),(27,iv (c+1:Nat)),(28,iv (k:Nat))]∧
   hp=[(1,bS r (c+1:Nat) a b s),(2,zS),(2001,Ho (Ez r (c+1) a i k))]) (c+1) ?_ ?_ ?_
  ·kernel_rfl
  ·exact⟨0,rfl,Nat.zero_le _,rfl,by rw[KT ha.n];rfl⟩
  clear k1 k2 k3
  rintro m _ _ ⟨k,rfl,hk,rfl,rfl⟩
  conv=>whnf
  by_cases hlk:k<c+1
  ·have t5:=dX hlk
   have t6:=bA (i:=k) aa
   obtain⟨w1,w2⟩:=kJ (i:=i) (k:=k) (c:=c+1) aa aa aa
   have hx:=dN aA hlk
   have hk0:k<r*(c+1):=by have:=dN (show 0<r by omega) hlk;omega
   have hsl:=AP r (c+1) a i k
   have g1:((Ez r (c+1) a i k).map SV.int).getD (i*(c+1)+k) SV.any= .int (bl a (c+1) i k):=by
    rw[dV (d:=0) (by rw[hsl];exact hx)]
    exact congrArg SV.int (EA aA hlk (Nat.le_refl _))
   have g2:((Ez r (c+1) a i k).map SV.int).getD k SV.any= .int (bl a (c+1) 0 k):=by
    rw[dV (d:=0) (by rw[hsl];exact hk0)]
    have:=EA (a:=a) (i:=i) (p:=0) (q:=k) (show 0<r by omega) hlk (Nat.le_refl _)
    rw[bl,Nat.zero_mul,Nat.zero_add]at this
    exact congrArg SV.int this
   have ZP:=ha.n
   have g3:(((Ez r (c+1) a i k).map SV.int).set k (.int (bl a (c+1) i k))).getD (i*(c+1)+k) SV.any= .int (bl a (c+1) i k):=by
    rw[←List.map_set,dV (d:=0) (by rw[List.length_set,hsl];exact hx)]
    have b6:k≠i*(c+1)+k:=by have:=Nat.mul_le_mul_right (c+1) (show 1≤i from hz);omega
    rw[List.getD_eq_getElem?_getD,List.getElem?_set_ne b6,←List.getD_eq_getElem?_getD]
    exact congrArg SV.int (EA aA hlk (Nat.le_refl _))
   (repeat((first|refine ag rfl rfl ?_|refine aw aB ?_|refine aX Q3 ?_|refine ay Q3 ?_|rw[t5]|rw[w1]|rw[w2]|rw[g1]|rw[g2]|rw[g3]|rw[t6]|rw[Int.toNat_natCast]|rw[Nat.zero_add]);conv=>whnf))
   refine⟨c+1 - (k+1),fun k=>k,[1,2,3,4,5,9,10,27,28],[1,2,2001],aa,aB,k+1,rfl,hlk,rfl, ?_⟩
   rw[←OA aA hz hlk,Ho,List.map_set,List.map_set]
   rfl
  ·have t5:=ez hlk
   obtain rfl:k=c+1:=aa
   rw[OB]
   have t7:IntKind.i64.wrap (s+1)=s+1:=wrap_i64 aa aa
   (repeat(first|(refine af rfl rfl ?_;conv=>whnf)|(rw[t5];conv=>whnf)|(rw[t7];conv=>whnf)))
   refine ll.ct (gd.cons (cW.via (fun _ _=>acD) rfl (cW.agg (gd.cons (cW.agg ?_) (gd.cons (cW.bE rfl) (gd.cons (cW.bE rfl) gd.nil))))) (gd.cons (cW.bE rfl) gd.nil))
   exact gd.cons (cW.bE rfl) (gd.cons (cW.bE rfl) (gd.cons (cW.seq rfl (bw (fun _=>rfl) _) (by rw[List.length_map,cZ];exact ha.n)) gd.nil))
 ·obtain rfl:i=0:=aa
  have t4:decide (((0:Nat):Int)>0)=false:=decide_eq_false aa
  rw[if_neg hz,wW,CG ha.n]
  (repeat((first|refine ag rfl rfl ?_|refine af rfl rfl ?_|refine aS (by assumption) ?_|rw[t1]|rw[t3]);conv=>whnf))
  exact Q5
end Go.Proofs.YtfpagioknjjacaaGreatDoor
