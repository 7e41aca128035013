/- The texts Nl, Qt. -/
import Derived.Test.YtbopchpncgdaaaaGreatDoorQsB7
namespace Go.Proofs.YtbopchpncgdaaaaGreatDoor
open Go.Sx
set_option linter.unusedSimpArgs false
set_option linter.unusedVariables false
set_option maxRecDepth 100000
set_option maxHeartbeats 4000000
def RL (r c:Nat) (a:List Rat):List Rat:=mk r c (RW r c a)
def rwM (r c:Nat) (a:List Rat) (i:Nat):List Rat:=(List.range c).map (RW r c a i)
theorem rwM_get {r c:Nat} {a:List Rat} {i k:Nat} (hk:k<c):(rwM r c a i).getD k 0=RW r c a i k:=by simp[rwM,List.getD_eq_getElem?_getD,hk]
def KL (r c:Nat) (a:List Rat):List (List Rat):=(freeF (pivL r c a) c).map (kvL (rwM r c a) (pivL r c a) c)
theorem kvS_congr {M N:Nat→List Rat} {sp:List Nat} {m k:Nat}:∀i,(∀j,j<i→(M j).getD k 0=(N j).getD k 0)→kvS M sp m k i=kvS N sp m k i
 |0,_=>rfl
 |i+1,h=>by rw[kvS,kvS,kvS_congr i fun j hj=>h j (by omega),h i (by omega)]
theorem KL_eq {r c:Nat} {W:Mx} {s:St} {a:List Rat} {M:Nat→List Rat} (h:Inv r W c s) (hW:∀i q,i<r→q<c→W i q=el a c i q) (hM:∀j,j<r→∀k,k<c→(M j).getD k 0=s.w j k):(freeF s.piv c).map (kvL M s.piv c)=KL r c a:=by
 obtain⟨h1,h2⟩:=h.pivL hW
 have hl:=h.len
 rw[h1]at hl ⊢
 refine List.map_congr_left fun k hk=> ?_
 obtain⟨hk,_⟩:=mem_free.1 hk
 exact kvS_congr _ fun j hj=>by rw[hM j (by omega) k hk,h2 j k (by omega) hk,rwM_get hk]
section
variable {r c:Nat} {a:List Rat} {i k:Nat}
end
section
variable {r c:Nat} {W:Mx} {s:St} {a b:List Rat} (hi:Inv r W c s) (hW:∀i q,i<r→q<c→W i q=el a c i q) (hb:∀i,i<r→W i c=b.getD i 0)
include hi hW hb
end
end Go.Proofs.YtbopchpncgdaaaaGreatDoor
namespace Go.Proofs.YtbopchpncgdaaaaGreatDoor
open Go.Sx
set_option linter.unusedSimpArgs false
set_option linter.unusedVariables false
set_option maxRecDepth 100000
set_option maxHeartbeats 40000000
section
variable {r c A:Nat} {a:List Rat} (ha:OKM r c a) (hr:r≤6) (hc:c≤40) (sa:Sm A a) (h2:2≤A) (hA:4096*A≤4398046511104)
include ha hr sa h2
omit sa h2
include hc sa h2 hA
theorem e_ReduceS:CallOK Tryz.prog 15 [mA r c a] [] (.tup [mA r c (RL r c a),ivec .i64 ((pivL r c a).map ofN),iv 0]) [] []:=by
 have k:=e_Reduce ha hr hc sa h2 hA rfl
 obtain⟨h1,h3⟩:=(redS_Inv r c (aug0 c a)).pivL aug_lt
 rw[h1,mk_congr h3]at k
 exact k
theorem e_KernelS:CallOK Tryz.prog 17 [mA r c a] [] (.tup [mvec 1 fvec (KL r c a),iv 0]) [] []:=by
 have k:=e_Kernel ha hr hc sa h2 hA rfl
 rwa [KL_eq (redS_Inv r c (aug0 c a)) aug_lt fun j _ k hk=>rwL_get (by omega)]at k
section
variable {b:List Rat} (hb:b.length=r) (sb:Sm A b)
include hb sb
end
end
end Go.Proofs.YtbopchpncgdaaaaGreatDoor
