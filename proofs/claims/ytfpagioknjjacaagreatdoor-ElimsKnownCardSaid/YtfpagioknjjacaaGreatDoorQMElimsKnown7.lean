/- The texts Qg. -/
import Derived.Test.YtfpagioknjjacaaGreatDoorQMElimsKnown6
namespace Go.Proofs.YtfpagioknjjacaaGreatDoor
open Go.Sx
set_option linter.unusedSimpArgs false
set_option linter.unusedVariables false
set_option maxRecDepth 100000
set_option maxHeartbeats 40000000
def wh (c:Nat) (f:Nat→Rat):List Rat:=(List.range c).map f
theorem bC (c:Nat) (f:Nat→Rat):(wh c f).length=c:=by simp[wh]
theorem dn {c k:Nat} {f:Nat→Rat} (h:k<c):(wh c f).getD k 0=f k:=by simp[wh,List.getD_eq_getElem?_getD,h]
def sH (w:Mx) (top k m:Nat):Mx:=fun a q=>if a=top then w top q/w top k else if a<m then w a q - w a k*(w top q/w top k)else w a q
theorem OW (w:Mx) (top k m:Nat):sH w top k m top=fun q=>w top q/w top k:=by funext q;exact if_pos rfl
theorem Ls (w:Mx) {top k m:Nat} (h:m≠top):sH w top k m m=w m:=by funext q;unfold sH;rw[if_neg h,if_neg (Nat.lt_irrefl _)]
theorem Dx (w:Mx) {top k m:Nat} (h:m=top∨w m k=0):sH w top k m=sH w top k (m+1):=by
 funext a q
 unfold sH
 by_cases e:a=top
 ·rw[if_pos e,if_pos e]
 ·rw[if_neg e,if_neg e]
  by_cases g:a<m
  ·rw[if_pos g,if_pos aa]
  ·rw[if_neg g]
   by_cases g2:a<m+1
   ·obtain rfl:a=m:=aa
    rw[if_pos g2]
    rcases h with h|h
    ·exact absurd h e
    ·rw[h];grind
   ·rw[if_neg g2]
theorem OX (w:Mx) {top k r a:Nat} (h:a<r):sH w top k r a=dM w top k a:=by
 funext q
 unfold sH dM
 by_cases e:a=top
 ·rw[if_pos e,if_pos e]
 ·rw[if_neg e,if_neg e,if_pos h]
abbrev aR (c:Nat) (w:Mx):Nat→List Rat:=fun a=>wh c (w a)
def Lt (j x c key:Nat):SV:=if j=x then .aO key 5 0 c else .any
def vA (i x c key:Nat):List SV:=(List.range i).map fun j=>Lt j x c key
def vB (r i x c key:Nat):List SV:=(List.range (r - i - 1)).map fun j=>Lt (i+1+j) x c key
theorem Y3 {i x c key:Nat}:∀a∈vA i x c key,a.width=1:=by
 intro a h
 simp only[vA,List.mem_map]at h
 obtain⟨j,_,rfl⟩:=h
 unfold Lt;split<;>rfl
theorem pT {q:Rat}:(decide (q.num.sign=0))=decide (q=0):=by
 by_cases h:q=0
 ·subst h;rfl
 ·rw[decide_eq_false h,decide_eq_false]
  intro e
  exact h (Rat.num_eq_zero.1 (Int.sign_eq_zero_iff_zero.1 e))
abbrev acp (r:Nat):List Nat:=3::1001::1002::1003::(List.range r).map fun j=>1010+j
abbrev bxB:aF:=⟨264,true,.one [.ptr 1001 0 0 0]⟩
theorem Lu {r top k:Nat} (m c p A:Nat) (d:Rat) (pv:List Int) (w:Mx) (hr:r≤6) (ht:top<r) (hk:k<c) (hc:c≤4096) (h0:w top k≠0) (hA:∀a q,a<r→q<c→fs (w a q)≤A) (hA2:4*A≤4398046511104) (hd:fs d+A≤4398046511104):
  ab Tryz.prog 308 [.ptr 1001 0 0 0,iv top,iv k] (hpE true false false (fun _=>true) r m c p d pv (aR c w)) (.ck []) []
   ((1001,Zz true r m p (d*w top k))::GO (fun _=>true) (aR c (sH w top k r)) r 0):=by
 obtain⟨KS,hKS⟩:∃K,K=acp r:=⟨_,rfl⟩
 have k1:=Lc d (w top k) (by have:=hA top k ht hk;omega)
 have g1:(aR c w top).getD k 0=w top k:=dn hk
 have g2:(aR c w top).length=c:=bC _ _
 have f1:∀q,q<c→ab Tryz.prog 347 ([]++([iv (q:Nat),.frac ((aR c w top).getD q 0)]++[.ptr 1006 0 0 0])) [(1006,qB (w top k))] (.frac (w top q/w top k)) [] []:=fun q hq=>by
  rw[show(aR c w top).getD q 0=w top q from dn hq]
  exact Ld q (w top q) (w top k) h0 (by have:=hA top k ht hk;have:=hA top q ht hq;omega)
 rcases(show r=1∨r=2∨r=3∨r=4∨r=5∨r=6 by omega)with e1|e1|e1|e1|e1|e1
 all_goals rcases(show top=0∨top=1∨top=2∨top=3∨top=4∨top=5 by omega)with e2|e2|e2|e2|e2|e2
 all_goals first|omega|skip
 all_goals
  have QT:=OJ (r:=r) (i:=top) (vA top 9 c 0) (vB r top 9 c 0) m c (d*w top k) (w top k) (aR c w top) _ _ (by rw[e2];rfl) Y3 aa aa hc (bC _ _) (by rw[e1,e2];rfl) f1 (cE [(1010,1010+top),(1006,6)]) (bo.of (by rw[e1,e2];rfl))
  rw[e1,e2]at QT
  rw[e2]at g1 g2 k1
  rw[e1,e2]
  refine Af (Z:=[4]) aJ bO Tryz.func308 rfl av (cI.of rfl rfl rfl rfl rfl rfl rfl rfl rfl rfl rfl) rfl ?_
  intro W0 w0 ρ0 hE
  conv=>whnf
  (repeat((first|refine aq av ?_|refine bg Q3 ?_|refine aC Q3 ?_|refine aS (by assumption) ?_|refine ah Q5 ?_|refine ah yN ?_|refine fQ rfl (ak rfl) rfl (jz rfl) rfl (Nat.succ_ne_zero _) rfl ?_|refine qe QT EG (dm rfl rfl) ?_|rw[g1]|rw[g2]|rw[Int.toNat_natCast]|rw[Nat.zero_add]);conv=>whnf))
  refine aj hE (fun k=>k) [2,3,4,36,37] KS (fun m' fr hp=>∃i:Nat,m'=r - i∧i≤r∧fr=[(2,iv k),(3,.ptr 3 0 0 0),(4,bE [iv top]),(36,iv r),(37,iv i)]∧hp=(3,bxB)::hpE true false false (fun _=>true) r m c p (d*w top k) pv (aR c (sH w top k i))) r ?_ ?_ ?_
  ·subst e1 e2 hKS;kernel_rfl
  ·exact⟨0,rfl,Nat.zero_le _,by subst e1 e2;rfl,by subst e1 e2 hKS;rfl⟩
  rintro m' _ _ ⟨i,rfl,hi,rfl,rfl⟩
  by_cases aE:i<r
  ·have x1:(aR c (sH w top k i) i).length=c:=bC _ _
   have hid:i=0∨i=1∨i=2∨i=3∨i=4∨i=5:=aa
   by_cases hit:i=top
   ·have hz:=Dx w (k:=k) (.inl hit)
    subst hit
    subst e2
    subst e1
    conv=>whnf
    (repeat((first|refine ag rfl rfl ?_|refine ae rfl rfl ?_|refine bg Q3 ?_|refine aC Q3 ?_|refine ah dO ?_|rw[beq_self_eq_true]|refine ah Q5 ?_|refine fQ rfl (ak rfl) rfl (jz rfl) rfl (Nat.succ_ne_zero _) rfl ?_|rw[x1]|rw[Int.toNat_natCast]|rw[Nat.zero_add]);conv=>whnf))
    exact⟨_,fun k=>k,[2,3,4,36,37],KS,Nat.sub_lt_sub_left aE (Nat.lt_succ_self _),by subst hKS;kernel_rfl,_,rfl,aE,rfl,by rw[←hz];subst hKS;rfl⟩
   ·have x2:(aR c (sH w top k i) i).getD k 0=w i k:=by rw[show aR c (sH w top k i) i=wh c (w i)from congrArg (wh c) (Ls w hit)];exact dn hk
    have k2:=fM (w i k)
    by_cases yL:w i k=0
    ·have hz:=Dx w (k:=k) (m:=i) (top:=top) (.inr yL)
     have t1:decide ((w i k).num.sign=0)=true:=by rw[pT];exact decide_eq_true yL
     subst e1 e2
     rcases hid with e3|e3|e3|e3|e3|e3
     all_goals first|omega|skip
     all_goals
      subst e3
      conv=>whnf
      (repeat((first|refine ag rfl rfl ?_|refine bg Q3 ?_|refine aC Q3 ?_|refine aS (by assumption) ?_|refine ah dP ?_|refine ao t1 ?_|refine ah Q5 ?_|refine fQ rfl (ak rfl) rfl (jz rfl) rfl (Nat.succ_ne_zero _) rfl ?_|rw[x1]|rw[x2]|rw[Int.toNat_natCast]|rw[Nat.zero_add]);conv=>whnf))
      exact⟨_,fun k=>k,[2,3,4,36,37],KS,Nat.sub_lt_sub_left aE (Nat.lt_succ_self _),by subst hKS;kernel_rfl,_,rfl,aE,rfl,by rw[←hz];subst hKS;rfl⟩
    ·have t1:decide ((w i k).num.sign=0)=false:=by rw[pT];exact decide_eq_false yL
     have acq:=OM (r:=r) (i:=i) (top:=top) (vA i top c 1011) (vB r i top c 1011) m c (d*w top k) (w i k) (aR c (sH w top k i) i) (aR c (sH w top k i) top) (sH w top k (i+1) i) 348 (by simp[vA]) Y3 aa aE hc (bC _ _)
      (by subst e1 e2;rcases hid with e|e|e|e|e|e<;>subst e<;>first|omega|rfl)
      (fun q o hq=>by
       have ZO:(aR c (sH w top k i) i).getD q 0=w i q:=by rw[show aR c (sH w top k i) i=wh c (w i)from congrArg (wh c) (Ls w hit)];exact dn hq
       have Zu:(aR c (sH w top k i) top).getD q 0=w top q/w top k:=by rw[show aR c (sH w top k i) top=wh c (fun q=>w top q/w top k)from congrArg (wh c) (OW w top k i)];exact dn hq
       have hy3:sH w top k (i+1) i q=w i q - w i k*(w top q/w top k):=by unfold sH;rw[if_neg hit,if_pos (Nat.lt_succ_self _)]
       have hm:qp (vA i top c 1011) (vB r i top c 1011) c=OL (vA top i c 1010) (vB r top i c 1010) c:=by subst e1 e2;rcases hid with e|e|e|e|e|e<;>subst e<;>first|omega|rfl
       have Cc:=Lf (r:=r) (top:=top) (k:=q) (vA top i c 1010) (vB r top i c 1010) m c A (d*w top k) (w i q) (w i k) (aR c (sH w top k i) top) o (by simp[vA]) Y3 aa ht hq (bC _ _)
        (by subst e1 e2;rcases hid with e|e|e|e|e|e<;>subst e<;>first|omega|rfl) (hA i q aE hq) (hA i k aE hk) (by rw[Zu];have:=qG (w top q) (w top k);have:=hA top q ht hq;have:=hA top k ht hk;omega) hA2
       rw[←hm,Zu]at Cc
       rw[ZO,hy3]
       exact Cc)
      (cE [(1010,1010+i),(1011,1010+top),(1005,3),(1006,8)]) (bo.of (by subst e1 e2;rcases hid with e|e|e|e|e|e<;>subst e<;>first|omega|rfl))
     subst e1 e2
     rcases hid with e3|e3|e3|e3|e3|e3
     all_goals first|omega|skip
     all_goals
      subst e3
      conv=>whnf
      (repeat((first|refine ag rfl rfl ?_|refine bg Q3 ?_|refine aC Q3 ?_|refine aS (by assumption) ?_|refine ah dP ?_|refine ay t1 ?_|refine ah Q5 ?_|refine ah yN ?_|refine fQ rfl (ak rfl) rfl (jz rfl) rfl (Nat.succ_ne_zero _) rfl ?_|refine qe acq EG (dm rfl rfl) ?_|rw[x1]|rw[x2]|rw[Int.toNat_natCast]|rw[Nat.zero_add]);conv=>whnf))
      exact⟨_,fun k=>k,[2,3,4,36,37],KS,Nat.sub_lt_sub_left aE (Nat.lt_succ_self _),by subst hKS;kernel_rfl,_,rfl,aE,rfl,by subst hKS;rfl⟩
  ·obtain rfl:i=r:=aa
   subst e1 e2
   conv=>whnf
   (repeat(first|(refine ae rfl rfl ?_;conv=>whnf)))
   exact⟨au.refl _,get_nil,by repeat(first|exact get_nil|refine dH rfl ?_)⟩
end Go.Proofs.YtfpagioknjjacaaGreatDoor
