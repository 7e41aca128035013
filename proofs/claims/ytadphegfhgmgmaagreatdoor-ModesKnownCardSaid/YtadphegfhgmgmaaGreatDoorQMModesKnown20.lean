/- The texts Qo. -/
import Derived.Test.YtadphegfhgmgmaaGreatDoorQMModesKnown19
import Derived.Test.YtadphegfhgmgmaaGreatDoorQMModesKnown5
set_option linter.unusedSimpArgs false
set_option linter.unusedVariables false
set_option maxHeartbeats 40000000
set_option maxRecDepth 100000
open Nat renaming le_refl->ζ,not_lt_zero->abe
namespace Go.Proofs.YtadphegfhgmgmaaGreatDoor
open Go.Sx
theorem HP {n:Nat} (W:Mx) {s:St} (hs:ni n n ⟨W,[],1⟩=s):(if s.bP.length<n then 0 else s.d)=bz n W:=by
 have h:=jf n W n;rw[hs]at h;rw[h.bP,h.d];exact Ll n W
theorem LZ {n c:Nat} (a:List Rat) (b:Mx) (hc:n<=c):bz n (qD a c b)=bz n (el a c):=bp λi k _ hk=>by unfold qD;rw[if_pos aa]
theorem Se {r c more A:Nat} {a:List Rat} {b:Mx} (ha:fa r c a) (sa:Sm A a) (hb:∀i k,i<r->k<more->fs (b i k)<=A):∀i q,i<r->q<c+more->fs (qD a c b i q)<=A:=by
 intro i q hi hq;unfold qD;by_cases h:q<c
 ·rw[if_pos h];exact eM sa ha.n hi h
 ·rw[if_neg h];exact hb i _ hi aa
theorem acm {n A:Nat} {a:List Rat} (ha:fa n n a) (hn:n<=6) (sa:Sm A a) (h2:2<=A) (hA:4096*A<=4398046511104):
  C0 67 [mA n n a] (.bQ [.frac (bz n (el a n)),iv 0]):=by
 have k1:=Sb ha;obtain⟨s,hs⟩:∃s,ni n n ⟨qD a n (λ_ _=>0),[],1⟩=s:=⟨_,rfl⟩;have hd:=HP _ hs;rw[LZ _ _ (ζ _)]at hd;rw[<-hd];rcases(show n=0\/1<=n by omega)with e0|e0
 ·subst e0;have k2:=xG (c:=0) 0 a 110 ha;have k3:=xH 0 ax;have hs0:s=⟨qD a 0 (λ_ _=>0),[],1⟩:=hs.symm;subst hs0;refine kg [1,100005] Tryz.func67 ?_;intro w0 ρ0 hE;conv=>whnf
  (repeat((first|refine ae rfl rfl ?_|refine aN aJ ?_|refine oe aJ rfl ?_|rw[bne_self_eq_false]|refine an Q6 ?_|refine Co k3 Vm ar ?_);conv=>whnf))
  refine HN 5 (λ_ h=>h) rfl rfl ?_;refine cv hE ?_;conv=>whnf
  (repeat((first|refine ae rfl rfl ?_|refine aq aD ?_|refine an Q8 ?_|refine an Q6 ?_|refine an Q9 ?_|refine an Pg ?_);conv=>whnf));exact Q4
 ·have k2:=BB (r:=n) 0 a (λ_ _=>0) 110 hn e0 ha aa aa λi k hi hk=>absurd hk (abe _)
  have k3:=xF (r:=n) n (n+0) A (qD a n (λ_ _=>0)) s hn e0 (ζ _) aa (Se ha sa λi k _ hk=>absurd hk (abe _)) h2 hA hs;have hp:s.bP.length<=n:=by
   have h:=jf n (qD a n λ_ _=>0) n;rw[hs]at h;exact h.le
  have uz:(s.bP.map yD).length=s.bP.length:=List.length_map _;rcases(show n=1\/n=2\/n=3\/n=4\/n=5\/n=6 by omega)with e1|e1|e1|e1|e1|e1
  all_goals
   rw[e1]at k1 k2 k3;rw[e1];refine kg [1,100005] Tryz.func67 ?_;intro w0 ρ0 hE;conv=>whnf
   (repeat((first|refine ae rfl rfl ?_|refine aN aJ ?_|rw[bne_self_eq_false]|refine an Q6 ?_|refine⟨[],_,_,[],k2,aF,Q26,ar, ?_⟩|refine⟨hpH _ _ _ _,_,_,_,k3,(by repeat(first|exact get_nil|refine cI rfl ?_)),Q26,jd rfl rfl, ?_⟩|rw[Nat.zero_add]);conv=>whnf))
   refine HM (M:=bq _ s.w) 5 [1,2,3] [2] (λ_ h=>h) rfl rfl rfl rfl (by intro j hj;rcases(show j=0\/j=1\/j=2\/j=3\/j=4\/j=5 by omega)with e|e|e|e|e|e<;>first|omega|(subst e;exact⟨rfl,(dm _ _).symm⟩)) uz.symm aD aD aD rfl ax hE ?_;refine cv hE ?_;conv=>whnf
   by_cases aE:s.bP.length<n
   ·have t1:=decide_eq_true (show(s.bP.length:Int)<(n:Int) by omega);have e9:(if s.bP.length<n then 0 else s.d)=0:=if_pos aE;rw[e1]at t1 e9;rw[e9]
    (repeat((first|refine aq aD ?_|refine ay t1 ?_|refine an Q8 ?_|refine an Q6 ?_|refine an Q9 ?_|refine an Pg ?_|rw[uz]);conv=>whnf));exact Q4
   ·have t1:=decide_eq_false (show ¬(s.bP.length:Int)<(n:Int) by omega);have e9:(if s.bP.length<n then 0 else s.d)=s.d:=if_neg aE;rw[e1]at t1 e9;rw[e9]
    (repeat((first|refine aq aD ?_|refine aG t1 ?_|refine an Q8 ?_|refine an Q6 ?_|refine an Q9 ?_|refine an Pg ?_|rw[uz]);conv=>whnf));exact Q4
