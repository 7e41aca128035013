/- The texts Qx. -/
import Derived.Test.YtbopchpncgdaaaaGreatDoorQLElimsFredholm4
namespace Go.Proofs.YtbopchpncgdaaaaGreatDoor
open Go.Sx
set_option linter.unusedSimpArgs false
set_option linter.unusedVariables false
set_option maxRecDepth 100000
set_option maxHeartbeats 40000000
theorem c_few14L (ms:List MM) (h:ms.length<1000) (hl:∀m∈ms,mOK m):CallOK Tryz.prog 23 [mvec 3 mQ ms] [] (.val (.bool (ms.all fun m=>decide (m.2.2.length≤40)))) [] []:=c_few14 ms h fun m hm=>(hl m hm).2.2.1
end Go.Proofs.YtbopchpncgdaaaaGreatDoor
