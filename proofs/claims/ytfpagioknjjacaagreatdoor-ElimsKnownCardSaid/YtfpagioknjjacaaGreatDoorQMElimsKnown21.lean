/- The texts Np. -/
import Derived.Test.YtfpagioknjjacaaGreatDoorQMElimsKnown18
namespace Go.Proofs.YtfpagioknjjacaaGreatDoor
open Go.Sx
set_option linter.unusedSimpArgs false
set_option linter.unusedVariables false
set_option maxRecDepth 100000
set_option maxHeartbeats 4000000
theorem B7 {sp:List Nat} {k:Nat} (hn:k∉sp):∀c,k<c→(aU sp k).length<(aU sp c).length∧(aU sp c).getD (aU sp k).length 0=k
 |0,h=>aa
 |c+1,h=>by
  rw[dr]
  by_cases e:k=c
  ·subst e
   rw[if_neg hn]
   exact⟨by rw[List.length_append];simp,by simp[List.getD_eq_getElem?_getD]⟩
  ·obtain⟨h1,h2⟩:=B7 hn c aa
   refine⟨by rw[List.length_append];omega, ?_⟩
   rw[List.getD_eq_getElem?_getD,List.getElem?_append_left h1,←List.getD_eq_getElem?_getD,h2]
theorem p5 {sp:List Nat} {k:Nat}:∀c,k≤c→(aU sp k).length≤(aU sp c).length
 |0,h=>by obtain rfl:k=0:=aa
          exact Nat.le_refl _
 |c+1,h=>by
  by_cases e:k=c+1
  ·rw[e];exact Nat.le_refl _
  ·rw[dr,List.length_append]
   have:=p5 (sp:=sp) (k:=k) c aa
   omega
theorem Rc {r c k:Nat} {a:List Rat} (hk:k<c) (hn:k∉bV r c a):(aU (bV r c a) k).length<(KL r c a).length∧∀q,q<c→q∉bV r c a→((KL r c a).getD (aU (bV r c a) k).length []).getD q 0=if q=k then 1 else 0:=by
 obtain⟨h1,h2⟩:=B7 hn c hk
 rw[←nW]at h1
 refine⟨h1,fun q hq hqn=> ?_⟩
 have h:=vx r c a
 rw[yw h1,h2,wq h hk hn (Nat.le_refl c) (fun j _=>s7 hk) hq]
 by_cases e:q=k
 ·subst e;rw[if_pos rfl];exact wm h hn
 ·rw[if_neg e];exact sI hqn e
structure ua (r c:Nat) (a b x:List Rat) (k:Nat) (u:List Rat):Prop where
 len:u.length=c
 sol:oj r c a b fun q=>u.getD q 0
 at_:∀q,q<c→q∉bV r c a→u.getD q 0=if q<k then x.getD q 0 else 0
theorem ua.skip {r c k:Nat} {a b x u:List Rat} (h:ua r c a b x k u) (hk:k∈bV r c a):ua r c a b x (k+1) u where
 len:=h.len
 sol:=h.sol
 at_:=fun q hq hn=>by
  rw[h.at_ q hq hn]
  have:q≠k:=fun e=>hn (e▸hk)
  by_cases g:q<k
  ·rw[if_pos g,if_pos aa]
  ·rw[if_neg g,if_neg aa]
theorem ua.step {r c k:Nat} {a b x u w:List Rat} (h:ua r c a b x k u) (hk:k<c) (hn:k∉bV r c a) (hw:w.length=c)
  (hg:∀q,q<c→w.getD q 0=x.getD k 0*((KL r c a).getD (aU (bV r c a) k).length []).getD q 0+u.getD q 0):ua r c a b x (k+1) w where
 len:=hw
 sol:=(oj.add (x.getD k 0) h.sol (FD (Rc hk hn).1)).ext fun q hq=>(hg q hq).symm
 at_:=fun q hq hqn=>by
  rw[hg q hq,(Rc hk hn).2 q hq hqn,h.at_ q hq hqn]
  by_cases e:q=k
  ·subst e;rw[if_pos rfl,if_neg (Nat.lt_irrefl q),if_pos (Nat.lt_succ_self q)];grind
  ·rw[if_neg e]
   by_cases g:q<k
   ·rw[if_pos g,if_pos aa];grind
   ·rw[if_neg g,if_neg aa];grind
theorem ua.done {r c k:Nat} {a b x u:List Rat} (h:ua r c a b x k u) (hx:x.length=c) (hs:oj r c a b fun q=>x.getD q 0) (hk:k≤c) (he:(KL r c a).length≤(aU (bV r c a) k).length):u=x:=by
 refine pG (n:=c) h.len hx (oj.eq h.sol hs fun q hq hn=> ?_)
 rw[h.at_ q hq hn]
 by_cases g:q<k
 ·rw[if_pos g]
 ·exfalso
  have h1:=(B7 hn c hq).1
  have h2:=p5 (sp:=bV r c a) (k:=k) q aa
  rw[nW]at he
  omega
end Go.Proofs.YtfpagioknjjacaaGreatDoor
