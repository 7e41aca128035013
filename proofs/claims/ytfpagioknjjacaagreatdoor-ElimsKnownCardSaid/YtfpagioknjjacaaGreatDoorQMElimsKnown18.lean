/- The texts Nn. -/
import Derived.Test.YtfpagioknjjacaaGreatDoorQMElimsKnown16
namespace Go.Proofs.YtfpagioknjjacaaGreatDoor
open Go.Sx
set_option linter.unusedSimpArgs false
set_option linter.unusedVariables false
set_option maxRecDepth 100000
set_option maxHeartbeats 4000000
theorem Zg {n:Nat} {a b v:List Rat} (hv:v.length=n) (h:fA n n n a b=gk n):oj n n a v fun q=>(cD n n b v).getD q 0:=by
 intro i hi
 have e:cD n n a (cD n n b v)=v:=by
  rw[←E4 a b v,h]
  refine DQ hv fun i hi=> ?_
  rw[ai n (g:=fun q=>delta i q*v.getD q 0) fun q hq=>by rw[wy hi hq],c7,if_pos hi]
 have:=congrArg (fun l:List Rat=>l.getD i 0) e
 simp only[eG hi]at this
 exact this
theorem Ii {n:Nat} {x:List Rat}:(bV n n x).length=n↔bL n (el x n)≠0:=DJ n _
end Go.Proofs.YtfpagioknjjacaaGreatDoor
