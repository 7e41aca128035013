/- The texts Qg. -/
import Derived.Test.YtfpagioknjjacaaGreatDoorQMBareissKnown15
namespace Go.Proofs.YtfpagioknjjacaaGreatDoor
open Go.Sx
set_option linter.unusedSimpArgs false
set_option linter.unusedVariables false
set_option maxRecDepth 100000
set_option maxHeartbeats 40000000
def y7 (c:Nat) (f:Nat→Rat):List Rat:=(List.range c).map f
theorem dm (c:Nat) (f:Nat→Rat):(y7 c f).length=c:=by simp[y7]
theorem fS {c k:Nat} {f:Nat→Rat} (h:k<c):(y7 c f).getD k 0=f k:=by simp[y7,List.getD_eq_getElem?_getD,h]
def rB (w:Mx) (top k m:Nat):Mx:=fun a q=>if a=top then w top q/w top k else if a<m then w a q - w a k*(w top q/w top k)else w a q
theorem OY (w:Mx) (top k m:Nat):rB w top k m top=fun q=>w top q/w top k:=by funext q;exact if_pos rfl
theorem Lq (w:Mx) {top k m:Nat} (h:m≠top):rB w top k m m=w m:=by funext q;unfold rB;rw[if_neg h,if_neg (Nat.lt_irrefl _)]
theorem CR (w:Mx) {top k m:Nat} (h:m=top∨w m k=0):rB w top k m=rB w top k (m+1):=by
 funext a q
 unfold rB
 by_cases e:a=top
 ·rw[if_pos e,if_pos e]
 ·rw[if_neg e,if_neg e]
  by_cases g:a<m
  ·rw[if_pos g,if_pos aa]
  ·rw[if_neg g]
   by_cases g2:a<m+1
   ·obtain rfl:a=m:=aa
    rw[if_pos g2]
    rcases h with h|h
    ·exact absurd h e
    ·rw[h];grind
   ·rw[if_neg g2]
theorem OZ (w:Mx) {top k r a:Nat} (h:a<r):rB w top k r a=fX w top k a:=by
 funext q
 unfold rB fX
 by_cases e:a=top
 ·rw[if_pos e,if_pos e]
 ·rw[if_neg e,if_neg e,if_pos h]
abbrev bZ (c:Nat) (w:Mx):Nat→List Rat:=fun a=>y7 c (w a)
def Lr (j x c key:Nat):SV:=if j=x then .aN key 5 0 c else .any
def vA (i x c key:Nat):List SV:=(List.range i).map fun j=>Lr j x c key
def vB (r i x c key:Nat):List SV:=(List.range (r - i - 1)).map fun j=>Lr (i+1+j) x c key
theorem Zn {i x c key:Nat}:∀a∈vA i x c key,a.width=1:=by
 intro a h
 simp only[vA,List.mem_map]at h
 obtain⟨j,_,rfl⟩:=h
 unfold Lr;split<;>rfl
theorem pa {q:Rat}:(decide (q.num.sign=0))=decide (q=0):=by
 by_cases h:q=0
 ·subst h;rfl
 ·rw[decide_eq_false h,decide_eq_false]
  intro e
  exact h (Rat.num_eq_zero.1 (Int.sign_eq_zero_iff_zero.1 e))
abbrev acW (r:Nat):List Nat:=3::1001::1002::1003::(List.range r).map fun j=>1010+j
abbrev bxB:aC:=⟨264,true,.one [.ptr 1001 0 0 0]⟩
theorem Ls {r top k:Nat} (m c p A:Nat) (d:Rat) (pv:List Int) (w:Mx) (hr:r≤6) (ht:top<r) (hk:k<c) (hc:c≤4096) (h0:w top k≠0) (hA:∀a q,a<r→q<c→fs (w a q)≤A) (hA2:4*A≤4398046511104) (hd:fs d+A≤4398046511104):
  ab Tryz.prog 308 [.ptr 1001 0 0 0,iv top,iv k] (hpE true false false (fun _=>true) r m c p d pv (bZ c w)) (.ct []) []
   ((1001,ZT true r m p (d*w top k))::Gc (fun _=>true) (bZ c (rB w top k r)) r 0):=by
 obtain⟨KS,hKS⟩:∃K,K=acW r:=⟨_,rfl⟩
 have k1:=Ra d (w top k) (by have:=hA top k ht hk;omega)
 have g1:(bZ c w top).getD k 0=w top k:=fS hk
 have g2:(bZ c w top).length=c:=dm _ _
 have f1:∀q,q<c→ab Tryz.prog 347 ([]++([iv (q:Nat),.frac ((bZ c w top).getD q 0)]++[.ptr 1006 0 0 0])) [(1006,qB (w top k))] (.frac (w top q/w top k)) [] []:=fun q hq=>by
  rw[show(bZ c w top).getD q 0=w top q from fS hq]
  exact Lo q (w top q) (w top k) h0 (by have:=hA top k ht hk;have:=hA top q ht hq;omega)
 rcases(show r=1∨r=2∨r=3∨r=4∨r=5∨r=6 by omega)with e1|e1|e1|e1|e1|e1
 all_goals rcases(show top=0∨top=1∨top=2∨top=3∨top=4∨top=5 by omega)with e2|e2|e2|e2|e2|e2
 all_goals first|omega|skip
 all_goals
  have Rc:=OU (r:=r) (i:=top) (vA top 9 c 0) (vB r top 9 c 0) m c (d*w top k) (w top k) (bZ c w top) _ _ (by rw[e2];rfl) Zn aa aa hc (dm _ _) (by rw[e1,e2];rfl) f1 (cx [(1010,1010+top),(1006,6)]) (bh.of (by rw[e1,e2];rfl))
  rw[e1,e2]at Rc
  rw[e2]at g1 g2 k1
  rw[e1,e2]
  refine y3 (Z:=[4]) aL bJ Tryz.func308 rfl aB (cu.of rfl rfl rfl rfl rfl rfl rfl rfl rfl rfl rfl) rfl ?_
  intro W0 w0 ρ0 hE
  conv=>whnf
  (repeat((first|refine aw aB ?_|refine aX Q3 ?_|refine ay Q3 ?_|refine aS (by assumption) ?_|refine ak Q6 ?_|refine ak uf ?_|refine fP rfl (aj rfl) rfl (jf rfl) rfl (Nat.succ_ne_zero _) rfl ?_|refine xo Rc Mt (fQ rfl rfl) ?_|rw[g1]|rw[g2]|rw[Int.toNat_natCast]|rw[Nat.zero_add]);conv=>whnf))
  refine ai hE (fun k=>k) [2,3,4,36,37] KS (fun m' fr hp=>∃i:Nat,m'=r - i∧i≤r∧fr=[(2,iv k),(3,.ptr 3 0 0 0),(4,bG [iv top]),(36,iv r),(37,iv i)]∧hp=(3,bxB)::hpE true false false (fun _=>true) r m c p (d*w top k) pv (bZ c (rB w top k i))) r ?_ ?_ ?_
  ·subst e1 e2 hKS;kernel_rfl
  ·exact⟨0,rfl,Nat.zero_le _,by subst e1 e2;rfl,by subst e1 e2 hKS;rfl⟩
  rintro m' _ _ ⟨i,rfl,hi,rfl,rfl⟩
  by_cases aA:i<r
  ·have x1:(bZ c (rB w top k i) i).length=c:=dm _ _
   have hid:i=0∨i=1∨i=2∨i=3∨i=4∨i=5:=aa
   by_cases hit:i=top
   ·have hz:=CR w (k:=k) (.inl hit)
    subst hit
    subst e2
    subst e1
    conv=>whnf
    (repeat((first|refine ag rfl rfl ?_|refine af rfl rfl ?_|refine aX Q3 ?_|refine ay Q3 ?_|refine ak jJ ?_|rw[beq_self_eq_true]|refine ak Q6 ?_|refine fP rfl (aj rfl) rfl (jf rfl) rfl (Nat.succ_ne_zero _) rfl ?_|rw[x1]|rw[Int.toNat_natCast]|rw[Nat.zero_add]);conv=>whnf))
    exact⟨_,fun k=>k,[2,3,4,36,37],KS,Nat.sub_lt_sub_left aA (Nat.lt_succ_self _),by subst hKS;kernel_rfl,_,rfl,aA,rfl,by rw[←hz];subst hKS;rfl⟩
   ·have x2:(bZ c (rB w top k i) i).getD k 0=w i k:=by rw[show bZ c (rB w top k i) i=y7 c (w i)from congrArg (y7 c) (Lq w hit)];exact fS hk
    have k2:=qQ (w i k)
    by_cases yc:w i k=0
    ·have hz:=CR w (k:=k) (m:=i) (top:=top) (.inr yc)
     have t1:decide ((w i k).num.sign=0)=true:=by rw[pa];exact decide_eq_true yc
     subst e1 e2
     rcases hid with e3|e3|e3|e3|e3|e3
     all_goals first|omega|skip
     all_goals
      subst e3
      conv=>whnf
      (repeat((first|refine ag rfl rfl ?_|refine aX Q3 ?_|refine ay Q3 ?_|refine aS (by assumption) ?_|refine ak jo ?_|refine aE t1 ?_|refine ak Q6 ?_|refine fP rfl (aj rfl) rfl (jf rfl) rfl (Nat.succ_ne_zero _) rfl ?_|rw[x1]|rw[x2]|rw[Int.toNat_natCast]|rw[Nat.zero_add]);conv=>whnf))
      exact⟨_,fun k=>k,[2,3,4,36,37],KS,Nat.sub_lt_sub_left aA (Nat.lt_succ_self _),by subst hKS;kernel_rfl,_,rfl,aA,rfl,by rw[←hz];subst hKS;rfl⟩
    ·have t1:decide ((w i k).num.sign=0)=false:=by rw[pa];exact decide_eq_false yc
     have acX:=OW (r:=r) (i:=i) (top:=top) (vA i top c 1011) (vB r i top c 1011) m c (d*w top k) (w i k) (bZ c (rB w top k i) i) (bZ c (rB w top k i) top) (rB w top k (i+1) i) 348 (by simp[vA]) Zn aa aA hc (dm _ _)
      (by subst e1 e2;rcases hid with e|e|e|e|e|e<;>subst e<;>first|omega|rfl)
      (fun q o hq=>by
       have Z4:(bZ c (rB w top k i) i).getD q 0=w i q:=by rw[show bZ c (rB w top k i) i=y7 c (w i)from congrArg (y7 c) (Lq w hit)];exact fS hq
       have ZN:(bZ c (rB w top k i) top).getD q 0=w top q/w top k:=by rw[show bZ c (rB w top k i) top=y7 c (fun q=>w top q/w top k)from congrArg (y7 c) (OY w top k i)];exact fS hq
       have hy3:rB w top k (i+1) i q=w i q - w i k*(w top q/w top k):=by unfold rB;rw[if_neg hit,if_pos (Nat.lt_succ_self _)]
       have hm:pE (vA i top c 1011) (vB r i top c 1011) c=OV (vA top i c 1010) (vB r top i c 1010) c:=by subst e1 e2;rcases hid with e|e|e|e|e|e<;>subst e<;>first|omega|rfl
       have Bl:=Lp (r:=r) (top:=top) (k:=q) (vA top i c 1010) (vB r top i c 1010) m c A (d*w top k) (w i q) (w i k) (bZ c (rB w top k i) top) o (by simp[vA]) Zn aa ht hq (dm _ _)
        (by subst e1 e2;rcases hid with e|e|e|e|e|e<;>subst e<;>first|omega|rfl) (hA i q aA hq) (hA i k aA hk) (by rw[ZN];have:=Eb (w top q) (w top k);have:=hA top q ht hq;have:=hA top k ht hk;omega) hA2
       rw[←hm,ZN]at Bl
       rw[Z4,hy3]
       exact Bl)
      (cx [(1010,1010+i),(1011,1010+top),(1005,3),(1006,8)]) (bh.of (by subst e1 e2;rcases hid with e|e|e|e|e|e<;>subst e<;>first|omega|rfl))
     subst e1 e2
     rcases hid with e3|e3|e3|e3|e3|e3
     all_goals first|omega|skip
     all_goals
      subst e3
      conv=>whnf
      (repeat((first|refine ag rfl rfl ?_|refine aX Q3 ?_|refine ay Q3 ?_|refine aS (by assumption) ?_|refine ak jo ?_|refine aM t1 ?_|refine ak Q6 ?_|refine ak uf ?_|refine fP rfl (aj rfl) rfl (jf rfl) rfl (Nat.succ_ne_zero _) rfl ?_|refine xo acX Mt (fQ rfl rfl) ?_|rw[x1]|rw[x2]|rw[Int.toNat_natCast]|rw[Nat.zero_add]);conv=>whnf))
      exact⟨_,fun k=>k,[2,3,4,36,37],KS,Nat.sub_lt_sub_left aA (Nat.lt_succ_self _),by subst hKS;kernel_rfl,_,rfl,aA,rfl,by subst hKS;rfl⟩
  ·obtain rfl:i=r:=aa
   subst e1 e2
   conv=>whnf
   (repeat(first|(refine af rfl rfl ?_;conv=>whnf)))
   exact⟨aq.refl _,get_nil,by repeat(first|exact get_nil|refine dL rfl ?_)⟩
end Go.Proofs.YtfpagioknjjacaaGreatDoor
