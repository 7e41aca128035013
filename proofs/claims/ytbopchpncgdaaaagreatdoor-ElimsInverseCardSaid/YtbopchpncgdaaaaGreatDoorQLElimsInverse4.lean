/- The texts Nn. -/
import Derived.Test.YtbopchpncgdaaaaGreatDoorQLElimsInverse3
namespace Go.Proofs.YtbopchpncgdaaaaGreatDoor
open Go.Sx
set_option linter.unusedSimpArgs false
set_option linter.unusedVariables false
set_option maxRecDepth 100000
set_option maxHeartbeats 4000000
theorem sol_ex {n:Nat} {a b v:List Rat} (hv:v.length=n) (h:mmul n n n a b=mone n):Sol n n a v fun q=>(mapply n n b v).getD q 0:=by
 intro i hi
 have e:mapply n n a (mapply n n b v)=v:=by
  rw[←mul_applyM a b v,h]
  refine apply_is hv fun i hi=> ?_
  rw[sum_congr n (g:=fun q=>delta i q*v.getD q 0) fun q hq=>by rw[mone_el hi hq],sum_deltaL,if_pos hi]
 have:=congrArg (fun l:List Rat=>l.getD i 0) e
 simp only[mapply_get hi]at this
 exact this
theorem rank_full {n:Nat} {x:List Rat}:(pivL n n x).length=n↔det n (el x n)≠0:=full_det n _
end Go.Proofs.YtbopchpncgdaaaaGreatDoor
