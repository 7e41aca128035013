/- The texts Tn. -/
import Derived.Lib.LaidTab
import Derived.WideShapes
import Derived.Test.YtkpfineikahgfaaGreatDoorQLBareissAdjugate6
namespace Go.Sx
set_option linter.unusedSimpArgs false
set_option linter.unusedVariables false
open Go.Lib

end Go.Sx
