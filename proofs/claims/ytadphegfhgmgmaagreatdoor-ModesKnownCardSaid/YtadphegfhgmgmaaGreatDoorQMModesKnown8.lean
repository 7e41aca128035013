/- The texts Qg. -/
import Derived.Test.YtadphegfhgmgmaaGreatDoorQMModesKnown7
import Derived.Test.YtadphegfhgmgmaaGreatDoorQMModesKnown5
set_option linter.unusedSimpArgs false
set_option linter.unusedVariables false
set_option maxHeartbeats 40000000
set_option maxRecDepth 100000
open Int renaming toNat_natCast->ι
open List renaming range->Η
open Nat renaming lt_succ_self->gq,sub_lt_sub_left->adj,succ_ne_zero->Ϗ,zero_add->υ
namespace Go.Proofs.YtadphegfhgmgmaaGreatDoor
open Go.Sx
def zi (c:Nat) (f:Nat->Rat):List Rat:=(Η c).map f
theorem dm (c:Nat) (f:Nat->Rat):(zi c f).length=c:=by simp[zi]
theorem dr {c k:Nat} {f:Nat->Rat} (h:k<c):(zi c f).getD k 0=f k:=by simp[zi,List.getD_eq_getElem?_getD,h]
def wC (w:Mx) (top k m:Nat):Mx:=λa q=>if a=top then w top q/w top k else if a<m then w a q - w a k*(w top q/w top k)else w a q
theorem WS (w:Mx) (top k m:Nat):wC w top k m top=λq=>w top q/w top k:=by funext q;exact if_pos rfl
theorem Ry (w:Mx) {top k m:Nat} (h:m≠top):wC w top k m m=w m:=by funext q;unfold wC;rw[if_neg h,if_neg (Nat.lt_irrefl _)]
theorem Hz (w:Mx) {top k m:Nat} (h:m=top\/w m k=0):wC w top k m=wC w top k (m+1):=by
 funext a q;unfold wC;by_cases e:a=top
 ·rw[if_pos e,if_pos e]
 ·rw[if_neg e,if_neg e];by_cases g:a<m
  ·rw[if_pos g,if_pos aa]
  ·rw[if_neg g];by_cases g2:a<m+1
   ·obtain rfl:a=m:=aa;rw[if_pos g2];rcases h with h|h
    ·exact absurd h e
    ·rw[h];grind
   ·rw[if_neg g2]
theorem WT (w:Mx) {top k r a:Nat} (h:a<r):wC w top k r a=ib w top k a:=by
 funext q;unfold wC ib;by_cases e:a=top
 ·rw[if_pos e,if_pos e]
 ·rw[if_neg e,if_neg e,if_pos h]
abbrev bq (c:Nat) (w:Mx):Nat->List Rat:=λa=>zi c (w a)
def Rz (j x c key:Nat):SV:=if j=x then .aM key 5 0 c else .any
def vA (i x c key:Nat):List SV:=(Η i).map λj=>Rz j x c key
def vB (r i x c key:Nat):List SV:=(Η (r - i - 1)).map λj=>Rz (i+1+j) x c key
theorem ab7 {i x c key:Nat}:∀a∈vA i x c key,a.width=1:=by
 intro a h;simp only[vA,List.mem_map]at h;obtain⟨j,_,rfl⟩:=h;unfold Rz;split<;>rfl
theorem pb {q:Rat}:(decide (q.num.sign=0))=decide (q=0):=by
 by_cases h:q=0
 ·subst h;rfl
 ·rw[decide_eq_false h,decide_eq_false];intro e;exact h (Rat.num_eq_zero.1 (Int.sign_eq_zero_iff_zero.1 e))
theorem yk {b:Nat->Bool} {M M':Nat->List Rat}:∀(n i:Nat),(∀a,i<=a->a<i+n->M a=M' a)->nU b M n i=nU b M' n i
 |0,_,_=>rfl
 |n+1,i,h=>by rw[nU,nU,h i (Nat.le_refl _) aa,yk n (i+1) λa h1 h2=>h a aa aa]
abbrev afe (r:Nat):List Nat:=3::1001::1002::1003::(Η r).map λj=>1010+j
abbrev bxB:aC:=⟨159,true,.one [.ptr 1001 0 0 0]⟩
theorem RA {r top k:Nat} (m c p A:Nat) (d:Rat) (pv:List Int) (w:Mx) (hr:r<=6) (ht:top<r) (hk:k<c) (hc:c<=4096) (h0:w top k≠0) (hA:∀a q,a<r->q<c->fs (w a q)<=A) (hA2:4*A<=4398046511104) (hd:fs d+A<=4398046511104):
  aL Tryz.prog 163 [.ptr 1001 0 0 0,iv top,iv k] (hpE true false false (λ_=>true) r m c p d pv (bq c w)) (.bQ []) []
   ((1001,wkB true r m p (d*w top k))::nU (λ_=>true) (bq c (wC w top k r)) r 0):=by
 obtain⟨KS,hKS⟩:∃K,K=afe r:=⟨_,rfl⟩;have k1:=pa d (w top k) (by have:=hA top k ht hk;omega);have g1:(bq c w top).getD k 0=w top k:=dr hk;have g2:(bq c w top).length=c:=dm _ _;have f1:∀q,q<c->aL Tryz.prog 200 ([]++([iv (q:Nat),.frac ((bq c w top).getD q 0)]++[.ptr 1006 0 0 0])) [(1006,qB (w top k))] (.frac (w top q/w top k)) [] []:=λq hq=>by
  rw[show(bq c w top).getD q 0=w top q from dr hq];exact Rq q (w top q) (w top k) h0 (by have:=hA top k ht hk;have:=hA top q ht hq;omega)
 rcases(show r=1\/r=2\/r=3\/r=4\/r=5\/r=6 by omega)with e1|e1|e1|e1|e1|e1
 all_goals rcases(show top=0\/top=1\/top=2\/top=3\/top=4\/top=5 by omega)with e2|e2|e2|e2|e2|e2
 all_goals first|omega|skip
 all_goals
  have Zd:=WO (r:=r) (i:=top) (vA top 9 c 0) (vB r top 9 c 0) m c (d*w top k) (w top k) (bq c w top) _ _ (by rw[e2];rfl) ab7 aa aa hc (dm _ _) (by rw[e1,e2];rfl) f1 (dA [(1010,1010+top),(1006,6)]) (bl.of (by rw[e1,e2];rfl));rw[e1,e2]at Zd;rw[e2]at g1 g2 k1;rw[e1,e2];refine rH (Z:=[4]) aH bC Tryz.func163 rfl aD (cb.of rfl rfl rfl rfl rfl rfl rfl rfl rfl rfl rfl) rfl ?_;intro W0 w0 ρ0 hE;conv=>whnf
  (repeat((first|refine aq aD ?_|refine aX Q3 ?_|refine ao Q3 ?_|refine aN aJ ?_|refine an Q6 ?_|refine an Gv ?_|refine dc rfl (ai rfl) rfl (ez rfl) rfl (Ϗ _) rfl ?_|refine Co Zd Vm (jd rfl rfl) ?_|rw[g1]|rw[g2]|rw[ι]|rw[υ]);conv=>whnf))
  refine av hE (λk=>k) [2,3,4,36,37] KS (λm' fr hp=>∃i:Nat,m'=r - i/\i<=r/\fr=[(2,iv k),(3,.ptr 3 0 0 0),(4,b9 [iv top]),(36,iv r),(37,iv i)]/\hp=(3,bxB)::hpE true false false (λ_=>true) r m c p (d*w top k) pv (bq c (wC w top k i))) r ?_ ?_ ?_
  ·subst e1 e2 hKS;kernel_rfl
  ·exact⟨0,rfl,Nat.zero_le _,by subst e1 e2;rfl,by subst e1 e2 hKS;rfl⟩
  rintro m' _ _ ⟨i,rfl,hi,rfl,rfl⟩;by_cases aE:i<r
  ·have x1:(bq c (wC w top k i) i).length=c:=dm _ _;have hid:i=0\/i=1\/i=2\/i=3\/i=4\/i=5:=aa;by_cases hit:i=top
   ·have hz:=Hz w (k:=k) (.inl hit);subst hit;subst e2;subst e1;conv=>whnf
    (repeat((first|refine ag rfl rfl ?_|refine ae rfl rfl ?_|refine aX Q3 ?_|refine ao Q3 ?_|refine an er ?_|rw[beq_self_eq_true]|refine an Q6 ?_|refine dc rfl (ai rfl) rfl (ez rfl) rfl (Ϗ _) rfl ?_|rw[x1]|rw[ι]|rw[υ]);conv=>whnf))
    exact⟨_,λk=>k,[2,3,4,36,37],KS,adj aE (gq _),by subst hKS;kernel_rfl,_,rfl,aE,rfl,by rw[<-hz];subst hKS;rfl⟩
   ·have x2:(bq c (wC w top k i) i).getD k 0=w i k:=by rw[show bq c (wC w top k i) i=zi c (w i)from congrArg (zi c) (Ry w hit)];exact dr hk
    have k2:=iI (w i k);by_cases Cy:w i k=0
    ·have hz:=Hz w (k:=k) (m:=i) (top:=top) (.inr Cy);have t1:decide ((w i k).num.sign=0)=true:=by rw[pb];exact decide_eq_true Cy
     subst e1 e2;rcases hid with e3|e3|e3|e3|e3|e3
     all_goals first|omega|skip
     all_goals
      subst e3;conv=>whnf
      (repeat((first|refine ag rfl rfl ?_|refine aX Q3 ?_|refine ao Q3 ?_|refine aN aJ ?_|refine an dZ ?_|refine ay t1 ?_|refine an Q6 ?_|refine dc rfl (ai rfl) rfl (ez rfl) rfl (Ϗ _) rfl ?_|rw[x1]|rw[x2]|rw[ι]|rw[υ]);conv=>whnf))
      exact⟨_,λk=>k,[2,3,4,36,37],KS,adj aE (gq _),by subst hKS;kernel_rfl,_,rfl,aE,rfl,by rw[<-hz];subst hKS;rfl⟩
    ·have t1:decide ((w i k).num.sign=0)=false:=by rw[pb];exact decide_eq_false Cy
     have aff:=WR (r:=r) (i:=i) (top:=top) (vA i top c 1011) (vB r i top c 1011) m c (d*w top k) (w i k) (bq c (wC w top k i) i) (bq c (wC w top k i) top) (wC w top k (i+1) i) 201 (by simp[vA]) ab7 aa aE hc (dm _ _)
      (by subst e1 e2;rcases hid with e|e|e|e|e|e<;>subst e<;>first|omega|rfl)
      (λq o hq=>by
       have ZM:(bq c (wC w top k i) i).getD q 0=w i q:=by rw[show bq c (wC w top k i) i=zi c (w i)from congrArg (zi c) (Ry w hit)];exact dr hq
       have YR:(bq c (wC w top k i) top).getD q 0=w top q/w top k:=by rw[show bq c (wC w top k i) top=zi c (λq=>w top q/w top k)from congrArg (zi c) (WS w top k i)];exact dr hq
       have hy3:wC w top k (i+1) i q=w i q - w i k*(w top q/w top k):=by unfold wC;rw[if_neg hit,if_pos (gq _)]
       have hm:um (vA i top c 1011) (vB r i top c 1011) c=WQ (vA top i c 1010) (vB r top i c 1010) c:=by subst e1 e2;rcases hid with e|e|e|e|e|e<;>subst e<;>first|omega|rfl
       have FF:=Rr (r:=r) (top:=top) (k:=q) (vA top i c 1010) (vB r top i c 1010) m c A (d*w top k) (w i q) (w i k) (bq c (wC w top k i) top) o (by simp[vA]) ab7 aa ht hq (dm _ _)
        (by subst e1 e2;rcases hid with e|e|e|e|e|e<;>subst e<;>first|omega|rfl) (hA i q aE hq) (hA i k aE hk) (by rw[YR];have:=rl (w top q) (w top k);have:=hA top q ht hq;have:=hA top k ht hk;omega) hA2
       rw[<-hm,YR]at FF;rw[ZM,hy3]
       exact FF)
      (dA [(1010,1010+i),(1011,1010+top),(1005,3),(1006,8)]) (bl.of (by subst e1 e2;rcases hid with e|e|e|e|e|e<;>subst e<;>first|omega|rfl))
     subst e1 e2;rcases hid with e3|e3|e3|e3|e3|e3
     all_goals first|omega|skip
     all_goals
      subst e3;conv=>whnf
      (repeat((first|refine ag rfl rfl ?_|refine aX Q3 ?_|refine ao Q3 ?_|refine aN aJ ?_|refine an dZ ?_|refine aG t1 ?_|refine an Q6 ?_|refine an Gv ?_|refine dc rfl (ai rfl) rfl (ez rfl) rfl (Ϗ _) rfl ?_|refine Co aff Vm (jd rfl rfl) ?_|rw[x1]|rw[x2]|rw[ι]|rw[υ]);conv=>whnf))
      exact⟨_,λk=>k,[2,3,4,36,37],KS,adj aE (gq _),by subst hKS;kernel_rfl,_,rfl,aE,rfl,by subst hKS;rfl⟩
  ·obtain rfl:i=r:=aa;subst e1 e2;conv=>whnf
   (repeat(first|(refine ae rfl rfl ?_;conv=>whnf)))
   exact⟨au.refl _,get_nil,by repeat(first|exact get_nil|refine cI rfl ?_)⟩
