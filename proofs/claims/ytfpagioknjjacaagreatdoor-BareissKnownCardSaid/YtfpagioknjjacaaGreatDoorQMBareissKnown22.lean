/- The texts Qo. -/
import Derived.Test.YtfpagioknjjacaaGreatDoorQMBareissKnown21
import Derived.Test.YtfpagioknjjacaaGreatDoorQMBareissKnown17
namespace Go.Proofs.YtfpagioknjjacaaGreatDoor
open Go.Sx
set_option linter.unusedSimpArgs false
set_option linter.unusedVariables false
set_option maxRecDepth 100000
set_option maxHeartbeats 40000000
theorem C0 {n:Nat} (W:Mx) {s:St} (hs:kP n n ⟨W,[],1⟩=s):(if s.bg.length<n then 0 else s.d)=bH n W:=by
 have h:=gM n W n
 rw[hs]at h
 rw[h.bg,h.d]
 exact Gg n W
theorem Gi {n c:Nat} (a:List Rat) (b:Mx) (hc:n≤c):bH n (ic a c b)=bH n (el a c):=aO fun i k _ hk=>by unfold ic;rw[if_pos aa]
theorem A8 {r c more A:Nat} {a:List Rat} {b:Mx} (ha:jq r c a) (sa:Sm A a) (hb:∀i k,i<r→k<more→fs (b i k)≤A):∀i q,i<r→q<c+more→fs (ic a c b i q)≤A:=by
 intro i q hi hq
 unfold ic
 by_cases h:q<c
 ·rw[if_pos h];exact mb sa ha.n hi h
 ·rw[if_neg h];exact hb i _ hi aa
theorem LK {n A:Nat} {a:List Rat} (ha:jq n n a) (hn:n≤6) (sa:Sm A a) (h2:2≤A) (hA:4096*A≤4398046511104):
  ab Tryz.prog 118 [mA n n a] [] (.ct [.frac (bH n (el a n)),iv 0]) [] []:=by
 have k1:=CZ ha
 obtain⟨s,hs⟩:∃s,kP n n ⟨ic a n (fun _ _=>0),[],1⟩=s:=⟨_,rfl⟩
 have hd:=C0 _ hs
 rw[Gi _ _ (Nat.le_refl _)]at hd
 rw[←hd]
 rcases(show n=0∨1≤n by omega)with e0|e0
 ·subst e0
  have k2:=HE (c:=0) 0 a 222 ha
  have k3:=pe 0 aF
  have ZO:s=⟨ic a 0 (fun _ _=>0),[],1⟩:=hs.symm
  subst ZO
  refine gX [1,100005] Tryz.func118 ?_
  intro w0 ρ0 hE
  conv=>whnf
  (repeat((first|refine af rfl rfl ?_|refine aS (by assumption) ?_|refine mK (by assumption) rfl ?_|rw[bne_self_eq_false]|refine ak Q6 ?_|refine xo k3 Mt an ?_);conv=>whnf))
  refine CY 5 (fun _ h=>h) rfl rfl ?_
  refine dC hE ?_
  conv=>whnf
  (repeat((first|refine af rfl rfl ?_|refine aw aB ?_|refine ak cO ?_|refine ak Q6 ?_|refine ak Q9 ?_|refine ak Ff ?_);conv=>whnf));exact Q5
 ·have k2:=LC (r:=n) 0 a (fun _ _=>0) 222 hn e0 ha aa aa fun i k hi hk=>absurd hk (Nat.not_lt_zero _)
  have k3:=pd (r:=n) n (n+0) A (ic a n (fun _ _=>0)) s hn e0 (Nat.le_refl _) aa (A8 ha sa fun i k _ hk=>absurd hk (Nat.not_lt_zero _)) h2 hA hs
  have hp:s.bg.length≤n:=by
   have h:=gM n (ic a n fun _ _=>0) n
   rw[hs]at h;exact h.le
  have nt:(s.bg.map pc).length=s.bg.length:=List.length_map _
  rcases(show n=1∨n=2∨n=3∨n=4∨n=5∨n=6 by omega)with e1|e1|e1|e1|e1|e1
  all_goals
   rw[e1]at k1 k2 k3
   rw[e1]
   refine gX [1,100005] Tryz.func118 ?_
   intro w0 ρ0 hE
   conv=>whnf
   (repeat((first|refine af rfl rfl ?_|refine aS (by assumption) ?_|rw[bne_self_eq_false]|refine ak Q6 ?_|refine⟨[],_,_,[],k2,aJ,Qy,an, ?_⟩|refine⟨Rf _ _ _ _,_,_,_,k3,Q34,Qy,fQ rfl rfl, ?_⟩|rw[Nat.zero_add]);conv=>whnf))
   refine CX (M:=bZ _ s.w) 5 [1,2,3] [2] (fun _ h=>h) rfl rfl rfl rfl (by intro j hj;rcases(show j=0∨j=1∨j=2∨j=3∨j=4∨j=5 by omega)with e|e|e|e|e|e<;>first|omega|(subst e;exact⟨rfl,(dm _ _).symm⟩)) nt.symm aB aB aB rfl aF hE ?_
   refine dC hE ?_
   conv=>whnf
   by_cases aA:s.bg.length<n
   ·have t1:=decide_eq_true (show(s.bg.length:Int)<(n:Int) by omega)
    have e9:(if s.bg.length<n then 0 else s.d)=0:=if_pos aA
    rw[e1]at t1 e9
    rw[e9]
    (repeat((first|refine aw aB ?_|refine aE t1 ?_|refine ak cO ?_|refine ak Q6 ?_|refine ak Q9 ?_|refine ak Ff ?_|rw[nt]);conv=>whnf));exact Q5
   ·have t1:=decide_eq_false (show ¬(s.bg.length:Int)<(n:Int) by omega)
    have e9:(if s.bg.length<n then 0 else s.d)=s.d:=if_neg aA
    rw[e1]at t1 e9
    rw[e9]
    (repeat((first|refine aw aB ?_|refine aM t1 ?_|refine ak cO ?_|refine ak Q6 ?_|refine ak Q9 ?_|refine ak Ff ?_|rw[nt]);conv=>whnf));exact Q5
end Go.Proofs.YtfpagioknjjacaaGreatDoor
