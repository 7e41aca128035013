/- The texts Np. -/
import Derived.Test.YtbopchpncgdaaaaGreatDoorQLElimsFredholm6
namespace Go.Proofs.YtbopchpncgdaaaaGreatDoor
open Go.Sx
set_option linter.unusedSimpArgs false
set_option linter.unusedVariables false
set_option maxRecDepth 100000
set_option maxHeartbeats 4000000
theorem free_at {sp:List Nat} {k:Nat} (hn:k∉sp):∀c,k<c→(freeF sp k).length<(freeF sp c).length∧(freeF sp c).getD (freeF sp k).length 0=k
 |0,h=>by omega
 |c+1,h=>by
  rw[freeF_succ]
  by_cases e:k=c
  ·subst e
   rw[if_neg hn]
   exact⟨by rw[List.length_append];simp,by simp[List.getD_eq_getElem?_getD]⟩
  ·obtain⟨h1,h2⟩:=free_at hn c (by omega)
   refine⟨by rw[List.length_append];omega, ?_⟩
   rw[List.getD_eq_getElem?_getD,List.getElem?_append_left h1,←List.getD_eq_getElem?_getD,h2]
theorem free_mono {sp:List Nat} {k:Nat}:∀c,k≤c→(freeF sp k).length≤(freeF sp c).length
 |0,h=>by obtain rfl:k=0:=by omega
          exact Nat.le_refl _
 |c+1,h=>by
  by_cases e:k=c+1
  ·rw[e];exact Nat.le_refl _
  ·rw[freeF_succ,List.length_append]
   have:=free_mono (sp:=sp) (k:=k) c (by omega)
   omega
theorem KL_at {r c k:Nat} {a:List Rat} (hk:k<c) (hn:k∉pivL r c a):(freeF (pivL r c a) k).length<(KL r c a).length∧∀q,q<c→q∉pivL r c a→((KL r c a).getD (freeF (pivL r c a) k).length []).getD q 0=if q=k then 1 else 0:=by
 obtain⟨h1,h2⟩:=free_at hn c hk
 rw[←KL_len]at h1
 refine⟨h1,fun q hq hqn=> ?_⟩
 have h:=RW_re r c a
 rw[KL_get h1,h2,kvL_get h hk hn (Nat.le_refl c) (fun j _=>rwM_get hk) hq]
 by_cases e:q=k
 ·subst e;rw[if_pos rfl];exact kv_self h hn
 ·rw[if_neg e];exact kv_other hqn e
structure Upto (r c:Nat) (a b x:List Rat) (k:Nat) (u:List Rat):Prop where
 len:u.length=c
 sol:Sol r c a b fun q=>u.getD q 0
 at_:∀q,q<c→q∉pivL r c a→u.getD q 0=if q<k then x.getD q 0 else 0
theorem Upto.skip {r c k:Nat} {a b x u:List Rat} (h:Upto r c a b x k u) (hk:k∈pivL r c a):Upto r c a b x (k+1) u where
 len:=h.len
 sol:=h.sol
 at_:=fun q hq hn=>by
  rw[h.at_ q hq hn]
  have:q≠k:=fun e=>hn (e▸hk)
  by_cases g:q<k
  ·rw[if_pos g,if_pos (by omega)]
  ·rw[if_neg g,if_neg (by omega)]
theorem Upto.step {r c k:Nat} {a b x u w:List Rat} (h:Upto r c a b x k u) (hk:k<c) (hn:k∉pivL r c a) (hw:w.length=c)
  (hg:∀q,q<c→w.getD q 0=x.getD k 0*((KL r c a).getD (freeF (pivL r c a) k).length []).getD q 0+u.getD q 0):Upto r c a b x (k+1) w where
 len:=hw
 sol:=(Sol.add (x.getD k 0) h.sol (KL_ker (KL_at hk hn).1)).ext fun q hq=>(hg q hq).symm
 at_:=fun q hq hqn=>by
  rw[hg q hq,(KL_at hk hn).2 q hq hqn,h.at_ q hq hqn]
  by_cases e:q=k
  ·subst e;rw[if_pos rfl,if_neg (Nat.lt_irrefl q),if_pos (Nat.lt_succ_self q)];grind
  ·rw[if_neg e]
   by_cases g:q<k
   ·rw[if_pos g,if_pos (by omega)];grind
   ·rw[if_neg g,if_neg (by omega)];grind
theorem Upto.done {r c k:Nat} {a b x u:List Rat} (h:Upto r c a b x k u) (hx:x.length=c) (hs:Sol r c a b fun q=>x.getD q 0) (hk:k≤c) (he:(KL r c a).length≤(freeF (pivL r c a) k).length):u=x:=by
 refine vec_ext (n:=c) h.len hx (Sol.eq h.sol hs fun q hq hn=> ?_)
 rw[h.at_ q hq hn]
 by_cases g:q<k
 ·rw[if_pos g]
 ·exfalso
  have h1:=(free_at hn c hq).1
  have h2:=free_mono (sp:=pivL r c a) (k:=k) q (by omega)
  rw[KL_len]at he
  omega
end Go.Proofs.YtbopchpncgdaaaaGreatDoor
