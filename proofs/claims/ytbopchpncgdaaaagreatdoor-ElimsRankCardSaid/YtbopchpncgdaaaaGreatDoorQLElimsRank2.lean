/- The texts Nk, Nl, Qt. -/
import Derived.Test.YtbopchpncgdaaaaGreatDoorQLElimsRank1
namespace Go.Proofs.YtbopchpncgdaaaaGreatDoor
open Go.Sx
set_option linter.unusedSimpArgs false
set_option linter.unusedVariables false
set_option maxRecDepth 100000
set_option maxHeartbeats 4000000
theorem rnk_congr {r c:Nat} {W V:Mx} (h:∀i q,i<r→q<c→W i q=V i q):rnk r c W=rnk r c V:=congrArg List.length (red_cols h).1
section
variable {r c:Nat} {w:Mx} {sp:List Nat} {M:Nat→List Rat}
end
theorem turn_el {r c:Nat} {a:List Rat} {i k:Nat} (hi:i<c) (hk:k<r):el (mturn r c a) r i k=el a c k i:=mk_el hi hk
end Go.Proofs.YtbopchpncgdaaaaGreatDoor
namespace Go.Proofs.YtbopchpncgdaaaaGreatDoor
open Go.Sx
set_option linter.unusedSimpArgs false
set_option linter.unusedVariables false
set_option maxRecDepth 100000
set_option maxHeartbeats 4000000
theorem pivL_rnk (r c:Nat) (a:List Rat):(pivL r c a).length=rnk r c (el a c):=rfl
theorem KL_len (r c:Nat) (a:List Rat):(KL r c a).length=(freeF (pivL r c a) c).length:=List.length_map _
theorem KL_cnt (r c:Nat) (a:List Rat):(KL r c a).length+(pivL r c a).length=c:=by rw[KL_len];exact(RW_re r c a).free
section
variable {r c:Nat} {a:List Rat} {i k:Nat}
end
section
variable {r c:Nat} {W:Mx} {s:St} {a b:List Rat} (hi:Inv r W c s) (hW:∀i q,i<r→q<c→W i q=el a c i q) (hb:∀i,i<r→W i c=b.getD i 0)
include hi hW hb
end
end Go.Proofs.YtbopchpncgdaaaaGreatDoor
namespace Go.Proofs.YtbopchpncgdaaaaGreatDoor
open Go.Sx
set_option linter.unusedSimpArgs false
set_option linter.unusedVariables false
set_option maxRecDepth 100000
set_option maxHeartbeats 40000000
section
variable {r c A:Nat} {a:List Rat} (ha:OKM r c a) (hr:r≤6) (hc:c≤40) (sa:Sm A a) (h2:2≤A) (hA:4096*A≤4398046511104)
include ha hr sa h2
omit sa h2
include hc sa h2 hA
theorem e_RankS:CallOK Tryz.prog 16 [mA r c a] [] (.tup [iv (pivL r c a).length,iv 0]) [] []:=by
 have k:=e_Rank ha hr hc sa h2 hA rfl
 rwa [((redS_Inv r c (aug0 c a)).pivL aug_lt).1]at k
section
variable {b:List Rat} (hb:b.length=r) (sb:Sm A b)
include hb sb
end
end
end Go.Proofs.YtbopchpncgdaaaaGreatDoor
