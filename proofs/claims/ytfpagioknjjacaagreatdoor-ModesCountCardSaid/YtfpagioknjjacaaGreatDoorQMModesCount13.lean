/- The texts Qg. -/
import Derived.Test.YtfpagioknjjacaaGreatDoorQMModesCount12
import Derived.Test.YtfpagioknjjacaaGreatDoorQMModesCount6
namespace Go.Proofs.YtfpagioknjjacaaGreatDoor
open Go.Sx
set_option linter.unusedSimpArgs false
set_option linter.unusedVariables false
set_option maxRecDepth 100000
set_option maxHeartbeats 40000000
def wJ (c:Nat) (f:Nat→Rat):List Rat:=(List.range c).map f
theorem dp (c:Nat) (f:Nat→Rat):(wJ c f).length=c:=by simp[wJ]
theorem da {c k:Nat} {f:Nat→Rat} (h:k<c):(wJ c f).getD k 0=f k:=by simp[wJ,List.getD_eq_getElem?_getD,h]
def ua (w:Mx) (top k m:Nat):Mx:=fun a q=>if a=top then w top q/w top k else if a<m then w a q - w a k*(w top q/w top k)else w a q
theorem RJ (w:Mx) (top k m:Nat):ua w top k m top=fun q=>w top q/w top k:=by funext q;exact if_pos rfl
theorem N6 (w:Mx) {top k m:Nat} (h:m≠top):ua w top k m m=w m:=by funext q;unfold ua;rw[if_neg h,if_neg (Nat.lt_irrefl _)]
theorem E6 (w:Mx) {top k m:Nat} (h:m=top∨w m k=0):ua w top k m=ua w top k (m+1):=by
 funext a q
 unfold ua
 by_cases e:a=top
 ·rw[if_pos e,if_pos e]
 ·rw[if_neg e,if_neg e]
  by_cases g:a<m
  ·rw[if_pos g,if_pos aa]
  ·rw[if_neg g]
   by_cases g2:a<m+1
   ·obtain rfl:a=m:=aa
    rw[if_pos g2]
    rcases h with h|h
    ·exact absurd h e
    ·rw[h];grind
   ·rw[if_neg g2]
theorem RK (w:Mx) {top k r a:Nat} (h:a<r):ua w top k r a=fE w top k a:=by
 funext q
 unfold ua fE
 by_cases e:a=top
 ·rw[if_pos e,if_pos e]
 ·rw[if_neg e,if_neg e,if_pos h]
abbrev bz (c:Nat) (w:Mx):Nat→List Rat:=fun a=>wJ c (w a)
def N7 (j x c key:Nat):SV:=if j=x then .aK key 5 0 c else .any
def vA (i x c key:Nat):List SV:=(List.range i).map fun j=>N7 j x c key
def vB (r i x c key:Nat):List SV:=(List.range (r - i - 1)).map fun j=>N7 (i+1+j) x c key
theorem ace {i x c key:Nat}:∀a∈vA i x c key,a.width=1:=by
 intro a h
 simp only[vA,List.mem_map]at h
 obtain⟨j,_,rfl⟩:=h
 unfold N7;split<;>rfl
theorem mW {q:Rat}:(decide (q.num.sign=0))=decide (q=0):=by
 by_cases h:q=0
 ·subst h;rfl
 ·rw[decide_eq_false h,decide_eq_false]
  intro e
  exact h (Rat.num_eq_zero.1 (Int.sign_eq_zero_iff_zero.1 e))
theorem vy {b:Nat→Bool} {M M':Nat→List Rat}:∀(n i:Nat),(∀a,i≤a→a<i+n→M a=M' a)→l9 b M n i=l9 b M' n i
 |0,_,_=>rfl
 |n+1,i,h=>by rw[l9,l9,h i (Nat.le_refl _) aa,vy n (i+1) fun a h1 h2=>h a aa aa]
abbrev afZ (r:Nat):List Nat:=3::1001::1002::1003::(List.range r).map fun j=>1010+j
abbrev bxB:aA:=⟨264,true,.one [.ptr 1001 0 0 0]⟩
theorem N8 {r top k:Nat} (m c p A:Nat) (d:Rat) (pv:List Int) (w:Mx) (hr:r≤6) (ht:top<r) (hk:k<c) (hc:c≤4096) (h0:w top k≠0) (hA:∀a q,a<r→q<c→fs (w a q)≤A) (hA2:4*A≤4398046511104) (hd:fs d+A≤4398046511104):
  af Tryz.prog 308 [.ptr 1001 0 0 0,iv top,iv k] (hpE true false false (fun _=>true) r m c p d pv (bz c w)) (.cC []) []
   ((1001,wkB true r m p (d*w top k))::l9 (fun _=>true) (bz c (ua w top k r)) r 0):=by
 obtain⟨KS,hKS⟩:∃K,K=afZ r:=⟨_,rfl⟩
 have k1:=s7 d (w top k) (by have:=hA top k ht hk;omega)
 have g1:(bz c w top).getD k 0=w top k:=da hk
 have g2:(bz c w top).length=c:=dp _ _
 have f1:∀q,q<c→af Tryz.prog 347 ([]++([iv (q:Nat),.frac ((bz c w top).getD q 0)]++[.ptr 1006 0 0 0])) [(1006,qB (w top k))] (.frac (w top q/w top k)) [] []:=fun q hq=>by
  rw[show(bz c w top).getD q 0=w top q from da hq]
  exact N4 q (w top q) (w top k) h0 (by have:=hA top k ht hk;have:=hA top q ht hq;omega)
 rcases(show r=1∨r=2∨r=3∨r=4∨r=5∨r=6 by omega)with e1|e1|e1|e1|e1|e1
 all_goals rcases(show top=0∨top=1∨top=2∨top=3∨top=4∨top=5 by omega)with e2|e2|e2|e2|e2|e2
 all_goals first|omega|skip
 all_goals
  have U6:=RG (r:=r) (i:=top) (vA top 9 c 0) (vB r top 9 c 0) m c (d*w top k) (w top k) (bz c w top) _ _ (by rw[e2];rfl) ace aa aa hc (dp _ _) (by rw[e1,e2];rfl) f1 (dc [(1010,1010+top),(1006,6)]) (bh.of (by rw[e1,e2];rfl))
  rw[e1,e2]at U6
  rw[e2]at g1 g2 k1
  rw[e1,e2]
  refine pf (Z:=[4]) aM bB Tryz.func308 rfl aF (bV.of rfl rfl rfl rfl rfl rfl rfl rfl rfl rfl rfl) rfl ?_
  intro W0 w0 ρ0 hE
  conv=>whnf
  (repeat((first|refine aB aF ?_|refine bg Q3 ?_|refine av Q3 ?_|refine a8 (by assumption) ?_|refine aC Q6 ?_|refine aC Pa ?_|refine cN rfl (ak rfl) rfl (dJ rfl) rfl (Nat.succ_ne_zero _) rfl ?_|refine E4 U6 Q13 (kA rfl rfl) ?_|rw[g1]|rw[g2]|rw[Int.toNat_natCast]|rw[Nat.zero_add]);conv=>whnf))
  refine az hE (fun k=>k) [2,3,4,36,37] KS (fun m' fr hp=>∃i:Nat,m'=r - i∧i≤r∧fr=[(2,iv k),(3,.ptr 3 0 0 0),(4,cx [iv top]),(36,iv r),(37,iv i)]∧hp=(3,bxB)::hpE true false false (fun _=>true) r m c p (d*w top k) pv (bz c (ua w top k i))) r ?_ ?_ ?_
  ·subst e1 e2 hKS;kernel_rfl
  ·exact⟨0,rfl,Nat.zero_le _,by subst e1 e2;rfl,by subst e1 e2 hKS;rfl⟩
  rintro m' _ _ ⟨i,rfl,hi,rfl,rfl⟩
  by_cases aI:i<r
  ·have x1:(bz c (ua w top k i) i).length=c:=dp _ _
   have hid:i=0∨i=1∨i=2∨i=3∨i=4∨i=5:=aa
   by_cases hit:i=top
   ·have hz:=E6 w (k:=k) (.inl hit)
    subst hit
    subst e2
    subst e1
    conv=>whnf
    (repeat((first|refine ah rfl rfl ?_|refine ag rfl rfl ?_|refine bg Q3 ?_|refine av Q3 ?_|refine aC iT ?_|rw[beq_self_eq_true]|refine aC Q6 ?_|refine cN rfl (ak rfl) rfl (dJ rfl) rfl (Nat.succ_ne_zero _) rfl ?_|rw[x1]|rw[Int.toNat_natCast]|rw[Nat.zero_add]);conv=>whnf))
    exact⟨_,fun k=>k,[2,3,4,36,37],KS,Nat.sub_lt_sub_left aI (Nat.lt_succ_self _),by subst hKS;kernel_rfl,_,rfl,aI,rfl,by rw[←hz];subst hKS;rfl⟩
   ·have x2:(bz c (ua w top k i) i).getD k 0=w i k:=by rw[show bz c (ua w top k i) i=wJ c (w i)from congrArg (wJ c) (N6 w hit)];exact da hk
    have k2:=iU (w i k)
    by_cases zQ:w i k=0
    ·have hz:=E6 w (k:=k) (m:=i) (top:=top) (.inr zQ)
     have t1:decide ((w i k).num.sign=0)=true:=by rw[mW];exact decide_eq_true zQ
     subst e1 e2
     rcases hid with e3|e3|e3|e3|e3|e3
     all_goals first|omega|skip
     all_goals
      subst e3
      conv=>whnf
      (repeat((first|refine ah rfl rfl ?_|refine bg Q3 ?_|refine av Q3 ?_|refine a8 (by assumption) ?_|refine aC ik ?_|refine aN t1 ?_|refine aC Q6 ?_|refine cN rfl (ak rfl) rfl (dJ rfl) rfl (Nat.succ_ne_zero _) rfl ?_|rw[x1]|rw[x2]|rw[Int.toNat_natCast]|rw[Nat.zero_add]);conv=>whnf))
      exact⟨_,fun k=>k,[2,3,4,36,37],KS,Nat.sub_lt_sub_left aI (Nat.lt_succ_self _),by subst hKS;kernel_rfl,_,rfl,aI,rfl,by rw[←hz];subst hKS;rfl⟩
    ·have t1:decide ((w i k).num.sign=0)=false:=by rw[mW];exact decide_eq_false zQ
     have af0:=RI (r:=r) (i:=i) (top:=top) (vA i top c 1011) (vB r i top c 1011) m c (d*w top k) (w i k) (bz c (ua w top k i) i) (bz c (ua w top k i) top) (ua w top k (i+1) i) 348 (by simp[vA]) ace aa aI hc (dp _ _)
      (by subst e1 e2;rcases hid with e|e|e|e|e|e<;>subst e<;>first|omega|rfl)
      (fun q o hq=>by
       have Vs:(bz c (ua w top k i) i).getD q 0=w i q:=by rw[show bz c (ua w top k i) i=wJ c (w i)from congrArg (wJ c) (N6 w hit)];exact da hq
       have UD:(bz c (ua w top k i) top).getD q 0=w top q/w top k:=by rw[show bz c (ua w top k i) top=wJ c (fun q=>w top q/w top k)from congrArg (wJ c) (RJ w top k i)];exact da hq
       have hy3:ua w top k (i+1) i q=w i q - w i k*(w top q/w top k):=by unfold ua;rw[if_neg hit,if_pos (Nat.lt_succ_self _)]
       have hm:qj (vA i top c 1011) (vB r i top c 1011) c=RH (vA top i c 1010) (vB r top i c 1010) c:=by subst e1 e2;rcases hid with e|e|e|e|e|e<;>subst e<;>first|omega|rfl
       have CZ:=N5 (r:=r) (top:=top) (k:=q) (vA top i c 1010) (vB r top i c 1010) m c A (d*w top k) (w i q) (w i k) (bz c (ua w top k i) top) o (by simp[vA]) ace aa ht hq (dp _ _)
        (by subst e1 e2;rcases hid with e|e|e|e|e|e<;>subst e<;>first|omega|rfl) (hA i q aI hq) (hA i k aI hk) (by rw[UD];have:=qz (w top q) (w top k);have:=hA top q ht hq;have:=hA top k ht hk;omega) hA2
       rw[←hm,UD]at CZ
       rw[Vs,hy3]
       exact CZ)
      (dc [(1010,1010+i),(1011,1010+top),(1005,3),(1006,8)]) (bh.of (by subst e1 e2;rcases hid with e|e|e|e|e|e<;>subst e<;>first|omega|rfl))
     subst e1 e2
     rcases hid with e3|e3|e3|e3|e3|e3
     all_goals first|omega|skip
     all_goals
      subst e3
      conv=>whnf
      (repeat((first|refine ah rfl rfl ?_|refine bg Q3 ?_|refine av Q3 ?_|refine a8 (by assumption) ?_|refine aC ik ?_|refine aW t1 ?_|refine aC Q6 ?_|refine aC Pa ?_|refine cN rfl (ak rfl) rfl (dJ rfl) rfl (Nat.succ_ne_zero _) rfl ?_|refine E4 af0 Q13 (kA rfl rfl) ?_|rw[x1]|rw[x2]|rw[Int.toNat_natCast]|rw[Nat.zero_add]);conv=>whnf))
      exact⟨_,fun k=>k,[2,3,4,36,37],KS,Nat.sub_lt_sub_left aI (Nat.lt_succ_self _),by subst hKS;kernel_rfl,_,rfl,aI,rfl,by subst hKS;rfl⟩
  ·obtain rfl:i=r:=aa
   subst e1 e2
   conv=>whnf
   (repeat(first|(refine ag rfl rfl ?_;conv=>whnf)))
   exact⟨aq.refl _,get_nil,by repeat(first|exact get_nil|refine cL rfl ?_)⟩
end Go.Proofs.YtfpagioknjjacaaGreatDoor
