/- The texts Qo. -/
import Derived.Test.YtfpagioknjjacaaGreatDoorQMModesCount18
import Derived.Test.YtfpagioknjjacaaGreatDoorQMModesCount6
namespace Go.Proofs.YtfpagioknjjacaaGreatDoor
open Go.Sx
set_option linter.unusedSimpArgs false
set_option linter.unusedVariables false
set_option maxRecDepth 100000
set_option maxHeartbeats 40000000
theorem Fj {n:Nat} (W:Mx) {s:St} (hs:mX n n ⟨W,[],1⟩=s):(if s.bU.length<n then 0 else s.d)=bD n W:=by
 have h:=mY n W n
 rw[hs]at h
 rw[h.bU,h.d]
 exact HN n W
theorem II {n c:Nat} (a:List Rat) (b:Mx) (hc:n≤c):bD n (p8 a c b)=bD n (el a c):=bn fun i k _ hk=>by unfold p8;rw[if_pos aa]
theorem Ot {r c more A:Nat} {a:List Rat} {b:Mx} (ha:ot r c a) (sa:Sm A a) (hb:∀i k,i<r→k<more→fs (b i k)≤A):∀i q,i<r→q<c+more→fs (p8 a c b i q)≤A:=by
 intro i q hi hq
 unfold p8
 by_cases h:q<c
 ·rw[if_pos h];exact jE sa ha.n hi h
 ·rw[if_neg h];exact hb i _ hi aa
theorem ack {n A:Nat} {a:List Rat} (ha:ot n n a) (hn:n≤6) (sa:Sm A a) (h2:2≤A) (hA:4096*A≤4398046511104):
  af Tryz.prog 118 [mA n n a] [] (.cC [.frac (bD n (el a n)),iv 0]) [] []:=by
 have k1:=Oj ha
 obtain⟨s,hs⟩:∃s,mX n n ⟨p8 a n (fun _ _=>0),[],1⟩=s:=⟨_,rfl⟩
 have hd:=Fj _ hs
 rw[II _ _ (Nat.le_refl _)]at hd
 rw[←hd]
 rcases(show n=0∨1≤n by omega)with e0|e0
 ·subst e0
  have k2:=J0 (c:=0) 0 a 222 ha
  have k3:=J1 0 aH
  have hs0:s=⟨p8 a 0 (fun _ _=>0),[],1⟩:=hs.symm
  subst hs0
  refine qU [1,100005] Tryz.func118 ?_
  intro w0 ρ0 hE
  conv=>whnf
  (repeat((first|refine ag rfl rfl ?_|refine a8 (by assumption) ?_|refine oR (by assumption) rfl ?_|rw[bne_self_eq_false]|refine aC Q6 ?_|refine E4 k3 Q13 ar ?_);conv=>whnf))
  refine Fe 5 (fun _ h=>h) rfl rfl ?_
  refine kG hE ?_
  conv=>whnf
  (repeat((first|refine ag rfl rfl ?_|refine aB aF ?_|refine aC Q7 ?_|refine aC Q6 ?_|refine aC Q9 ?_|refine aC (jJ rfl (ak rfl)) ?_);conv=>whnf));exact Q4
 ·have k2:=Og (r:=n) 0 a (fun _ _=>0) 222 hn e0 ha aa aa fun i k hi hk=>absurd hk (Nat.not_lt_zero _)
  have k3:=JX (r:=n) n (n+0) A (p8 a n (fun _ _=>0)) s hn e0 (Nat.le_refl _) aa (Ot ha sa fun i k _ hk=>absurd hk (Nat.not_lt_zero _)) h2 hA hs
  have hp:s.bU.length≤n:=by
   have h:=mY n (p8 a n fun _ _=>0) n
   rw[hs]at h;exact h.le
  have zg:(s.bU.map U8).length=s.bU.length:=List.length_map _
  rcases(show n=1∨n=2∨n=3∨n=4∨n=5∨n=6 by omega)with e1|e1|e1|e1|e1|e1
  all_goals
   rw[e1]at k1 k2 k3
   rw[e1]
   refine qU [1,100005] Tryz.func118 ?_
   intro w0 ρ0 hE
   conv=>whnf
   (repeat((first|refine ag rfl rfl ?_|refine a8 (by assumption) ?_|rw[bne_self_eq_false]|refine aC Q6 ?_|refine⟨[],_,_,[],k2,aD,(by repeat(first|exact an|refine Fb rfl ?_)),ar, ?_⟩|refine⟨hpH _ _ _ _,_,_,_,k3,(by repeat(first|exact get_nil|refine cL rfl ?_)),(by repeat(first|exact an|refine Fb rfl ?_)),kA rfl rfl, ?_⟩|rw[Nat.zero_add]);conv=>whnf))
   refine Fc (M:=bz _ s.w) 5 [1,2,3] [2] (fun _ h=>h) rfl rfl rfl rfl (by intro j hj;rcases(show j=0∨j=1∨j=2∨j=3∨j=4∨j=5 by omega)with e|e|e|e|e|e<;>first|omega|(subst e;exact⟨rfl,(dp _ _).symm⟩)) zg.symm aF aF aF rfl aH hE ?_
   refine kG hE ?_
   conv=>whnf
   by_cases aI:s.bU.length<n
   ·have t1:=decide_eq_true (show(s.bU.length:Int)<(n:Int) by omega)
    have e9:(if s.bU.length<n then 0 else s.d)=0:=if_pos aI
    rw[e1]at t1 e9
    rw[e9]
    (repeat((first|refine aB aF ?_|refine aN t1 ?_|refine aC Q7 ?_|refine aC Q6 ?_|refine aC Q9 ?_|refine aC (jJ rfl (ak rfl)) ?_|rw[zg]);conv=>whnf));exact Q4
   ·have t1:=decide_eq_false (show ¬(s.bU.length:Int)<(n:Int) by omega)
    have e9:(if s.bU.length<n then 0 else s.d)=s.d:=if_neg aI
    rw[e1]at t1 e9
    rw[e9]
    (repeat((first|refine aB aF ?_|refine aW t1 ?_|refine aC Q7 ?_|refine aC Q6 ?_|refine aC Q9 ?_|refine aC (jJ rfl (ak rfl)) ?_|rw[zg]);conv=>whnf));exact Q4
end Go.Proofs.YtfpagioknjjacaaGreatDoor
