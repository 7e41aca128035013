/- The texts Nl, Qt, Qx. -/
import Derived.Test.YtbopchpncgdaaaaGreatDoorQLElimsReduces1
namespace Go.Proofs.YtbopchpncgdaaaaGreatDoor
open Go.Sx
set_option linter.unusedSimpArgs false
set_option linter.unusedVariables false
set_option maxRecDepth 100000
set_option maxHeartbeats 4000000
theorem RL_len (r c:Nat) (a:List Rat):(RL r c a).length=r*c:=mk_len ..
theorem pivL_rnk (r c:Nat) (a:List Rat):(pivL r c a).length=rnk r c (el a c):=rfl
section
variable {r c:Nat} {a:List Rat} {i k:Nat}
end
section
variable {r c:Nat} {W:Mx} {s:St} {a b:List Rat} (hi:Inv r W c s) (hW:∀i q,i<r→q<c→W i q=el a c i q) (hb:∀i,i<r→W i c=b.getD i 0)
include hi hW hb
end
end Go.Proofs.YtbopchpncgdaaaaGreatDoor
namespace Go.Proofs.YtbopchpncgdaaaaGreatDoor
open Go.Sx
set_option linter.unusedSimpArgs false
set_option linter.unusedVariables false
set_option maxRecDepth 100000
set_option maxHeartbeats 40000000
section
variable {r c A:Nat} {a:List Rat} (ha:OKM r c a) (hr:r≤6) (hc:c≤40) (sa:Sm A a) (h2:2≤A) (hA:4096*A≤4398046511104)
include ha hr sa h2
theorem RW_siz:∀i q,i<r→q<c→fs (RW r c a i q)≤4096*A:=fun i q hi hq=>by
 have h:=(redS_siz (r:=r) (m:=c) (aug0_bd ha sa) h2 hr (Nat.le_refl c)).1 i q hi hq
 rwa [((redS_Inv r c (aug0 c a)).pivL aug_lt).2 i q hi hq]at h
theorem RL_sm:Sm (4096*A) (RL r c a):=Sm_mk fun _ _ hi hk=>RW_siz ha hr sa h2 _ _ hi hk
omit sa h2
set_option linter.unusedSectionVars false in
theorem RL_ok:OKM r c (RL r c a):=OKM_mk ha.r ha.c
include hc sa h2 hA
theorem e_RankS:CallOK Tryz.prog 16 [mA r c a] [] (.tup [iv (pivL r c a).length,iv 0]) [] []:=by
 have k:=e_Rank ha hr hc sa h2 hA rfl
 rwa [((redS_Inv r c (aug0 c a)).pivL aug_lt).1]at k
section
variable {b:List Rat} (hb:b.length=r) (sb:Sm A b)
include hb sb
end
end
end Go.Proofs.YtbopchpncgdaaaaGreatDoor
namespace Go.Proofs.YtbopchpncgdaaaaGreatDoor
open Go.Sx
set_option linter.unusedSimpArgs false
set_option linter.unusedVariables false
set_option maxRecDepth 100000
set_option maxHeartbeats 40000000
theorem c_few14L (ms:List MM) (h:ms.length<1000) (hl:∀m∈ms,mOK m):CallOK Tryz.prog 23 [mvec 3 mQ ms] [] (.val (.bool (ms.all fun m=>decide (m.2.2.length≤40)))) [] []:=c_few14 ms h fun m hm=>(hl m hm).2.2.1
end Go.Proofs.YtbopchpncgdaaaaGreatDoor
