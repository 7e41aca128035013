/- The texts Qo. -/
import Derived.Test.YtfpagioknjjacaaGreatDoorQMElimsKnown12
import Derived.Test.YtfpagioknjjacaaGreatDoorQMElimsKnown8
namespace Go.Proofs.YtfpagioknjjacaaGreatDoor
open Go.Sx
set_option linter.unusedSimpArgs false
set_option linter.unusedVariables false
set_option maxRecDepth 100000
set_option maxHeartbeats 40000000
theorem DL {n:Nat} (W:Mx) {s:St} (hs:lg n n ⟨W,[],1⟩=s):(if s.aH.length<n then 0 else s.d)=bL n W:=by
 have h:=gS n W n
 rw[hs]at h
 rw[h.aH,h.d]
 exact GW n W
theorem G1 {n c:Nat} (a:List Rat) (b:Mx) (hc:n≤c):bL n (dN a c b)=bL n (el a c):=aW fun i k _ hk=>by unfold dN;rw[if_pos aa]
theorem yp {r c more A:Nat} {a:List Rat} {b:Mx} (ha:dV r c a) (sa:Sm A a) (hb:∀i k,i<r→k<more→fs (b i k)≤A):∀i q,i<r→q<c+more→fs (dN a c b i q)≤A:=by
 intro i q hi hq
 unfold dN
 by_cases h:q<c
 ·rw[if_pos h];exact eS sa ha.n hi h
 ·rw[if_neg h];exact hb i _ hi aa
theorem iA {n A:Nat} {a:List Rat} (ha:dV n n a) (hn:n≤6) (sa:Sm A a) (h2:2≤A) (hA:4096*A≤4398046511104):
  ab Tryz.prog 118 [mA n n a] [] (.ck [.frac (bL n (el a n)),iv 0]) [] []:=by
 have k1:=yo ha
 obtain⟨s,hs⟩:∃s,lg n n ⟨dN a n (fun _ _=>0),[],1⟩=s:=⟨_,rfl⟩
 have hd:=DL _ hs
 rw[G1 _ _ (Nat.le_refl _)]at hd
 rw[←hd]
 rcases(show n=0∨1≤n by omega)with e0|e0
 ·subst e0
  have k2:=uL (c:=0) 0 a 222 ha
  have k3:=fT 0 aI
  have hs0:s=⟨dN a 0 (fun _ _=>0),[],1⟩:=hs.symm
  subst hs0
  refine fZ [1,100005] Tryz.func118 ?_
  intro w0 ρ0 hE
  conv=>whnf
  (repeat((first|refine ae rfl rfl ?_|refine aS (by assumption) ?_|refine lG (by assumption) rfl ?_|rw[bne_self_eq_false]|refine ah Q5 ?_|refine qe k3 EG ar ?_);conv=>whnf))
  refine DG 5 (fun _ h=>h) rfl rfl ?_
  refine bA hE ?_
  conv=>whnf
  (repeat((first|refine ae rfl rfl ?_|refine aq av ?_|refine ah Q8 ?_|refine ah Q5 ?_|refine ah Q7 ?_|refine ah uq ?_);conv=>whnf));exact Q4
 ·have k2:=yl (r:=n) 0 a (fun _ _=>0) 222 hn e0 ha aa aa fun i k hi hk=>absurd hk (Nat.not_lt_zero _)
  have k3:=fS (r:=n) n (n+0) A (dN a n (fun _ _=>0)) s hn e0 (Nat.le_refl _) aa (yp ha sa fun i k _ hk=>absurd hk (Nat.not_lt_zero _)) h2 hA hs
  have hp:s.aH.length≤n:=by
   have h:=gS n (dN a n fun _ _=>0) n
   rw[hs]at h;exact h.le
  have gW:(s.aH.map cY).length=s.aH.length:=List.length_map _
  rcases(show n=1∨n=2∨n=3∨n=4∨n=5∨n=6 by omega)with e1|e1|e1|e1|e1|e1
  all_goals
   rw[e1]at k1 k2 k3
   rw[e1]
   refine fZ [1,100005] Tryz.func118 ?_
   intro w0 ρ0 hE
   conv=>whnf
   (repeat((first|refine ae rfl rfl ?_|refine aS (by assumption) ?_|rw[bne_self_eq_false]|refine ah Q5 ?_|refine⟨[],_,_,[],k2,aM,Cj,ar, ?_⟩|refine⟨H4 _ _ _ _,_,_,_,k3,NB,Cj,dm rfl rfl, ?_⟩|rw[Nat.zero_add]);conv=>whnf))
   refine DF (M:=aR _ s.w) 5 [1,2,3] [2] (fun _ h=>h) rfl rfl rfl rfl (by intro j hj;rcases(show j=0∨j=1∨j=2∨j=3∨j=4∨j=5 by omega)with e|e|e|e|e|e<;>first|omega|(subst e;exact⟨rfl,(bC _ _).symm⟩)) gW.symm av av av rfl aI hE ?_
   refine bA hE ?_
   conv=>whnf
   by_cases aE:s.aH.length<n
   ·have t1:=decide_eq_true (show(s.aH.length:Int)<(n:Int) by omega)
    have e9:(if s.aH.length<n then 0 else s.d)=0:=if_pos aE
    rw[e1]at t1 e9
    rw[e9]
    (repeat((first|refine aq av ?_|refine ao t1 ?_|refine ah Q8 ?_|refine ah Q5 ?_|refine ah Q7 ?_|refine ah uq ?_|rw[gW]);conv=>whnf));exact Q4
   ·have t1:=decide_eq_false (show ¬(s.aH.length:Int)<(n:Int) by omega)
    have e9:(if s.aH.length<n then 0 else s.d)=s.d:=if_neg aE
    rw[e1]at t1 e9
    rw[e9]
    (repeat((first|refine aq av ?_|refine ay t1 ?_|refine ah Q8 ?_|refine ah Q5 ?_|refine ah Q7 ?_|refine ah uq ?_|rw[gW]);conv=>whnf));exact Q4
end Go.Proofs.YtfpagioknjjacaaGreatDoor
