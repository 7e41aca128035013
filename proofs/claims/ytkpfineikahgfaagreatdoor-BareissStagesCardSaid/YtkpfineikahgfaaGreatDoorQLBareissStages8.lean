/- The texts Tn. -/
import Derived.Lib.LaidTab
import Derived.WideShapes
import Derived.Test.YtkpfineikahgfaaGreatDoorQLBareissStages7
namespace Go.Sx
set_option linter.unusedSimpArgs false
set_option linter.unusedVariables false
open Go.Lib

end Go.Sx
