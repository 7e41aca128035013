/- The texts Wa1. -/
import Derived.Test.YtjofnbpcanhfhaaGreatDoorQLModsKnown4
namespace Go.Proofs.YtjofnbpcanhfhaaGreatDoor
open Go.Sx
set_option linter.unusedSimpArgs false
set_option linter.unusedVariables false
set_option maxRecDepth 1000000
theorem r73_500000:run (tstS 73) 72 (73+500000*72) 50000=true:=by decide+kernel
theorem r73_550000:run (tstS 73) 72 (73+550000*72) 50000=true:=by decide+kernel
theorem r73_600000:run (tstS 73) 72 (73+600000*72) 50000=true:=by decide+kernel
theorem r73_650000:run (tstS 73) 72 (73+650000*72) 50000=true:=by decide+kernel
theorem r73_700000:run (tstS 73) 72 (73+700000*72) 50000=true:=by decide+kernel
theorem r73_750000:run (tstS 73) 72 (73+750000*72) 50000=true:=by decide+kernel
theorem r73_800000:run (tstS 73) 72 (73+800000*72) 17155=true:=by decide+kernel
theorem r79_0:run (tstS 79) 78 (79+0*78) 50000=true:=by decide+kernel
theorem r79_50000:run (tstS 79) 78 (79+50000*78) 50000=true:=by decide+kernel
theorem r79_100000:run (tstS 79) 78 (79+100000*78) 50000=true:=by decide+kernel
theorem r79_150000:run (tstS 79) 78 (79+150000*78) 50000=true:=by decide+kernel
theorem r79_200000:run (tstS 79) 78 (79+200000*78) 50000=true:=by decide+kernel
theorem r79_250000:run (tstS 79) 78 (79+250000*78) 50000=true:=by decide+kernel
theorem r79_300000:run (tstS 79) 78 (79+300000*78) 50000=true:=by decide+kernel
theorem r79_350000:run (tstS 79) 78 (79+350000*78) 50000=true:=by decide+kernel
theorem r79_400000:run (tstS 79) 78 (79+400000*78) 50000=true:=by decide+kernel
theorem r79_450000:run (tstS 79) 78 (79+450000*78) 50000=true:=by decide+kernel
theorem r79_500000:run (tstS 79) 78 (79+500000*78) 50000=true:=by decide+kernel
theorem r79_550000:run (tstS 79) 78 (79+550000*78) 50000=true:=by decide+kernel
theorem r79_600000:run (tstS 79) 78 (79+600000*78) 50000=true:=by decide+kernel
theorem r79_650000:run (tstS 79) 78 (79+650000*78) 47008=true:=by decide+kernel
theorem r83_0:run (tstS 83) 82 (83+0*82) 50000=true:=by decide+kernel
theorem r83_50000:run (tstS 83) 82 (83+50000*82) 50000=true:=by decide+kernel
theorem r83_100000:run (tstS 83) 82 (83+100000*82) 50000=true:=by decide+kernel
theorem r83_150000:run (tstS 83) 82 (83+150000*82) 50000=true:=by decide+kernel
theorem r83_200000:run (tstS 83) 82 (83+200000*82) 50000=true:=by decide+kernel
theorem r83_250000:run (tstS 83) 82 (83+250000*82) 50000=true:=by decide+kernel
theorem r83_300000:run (tstS 83) 82 (83+300000*82) 50000=true:=by decide+kernel
theorem r83_350000:run (tstS 83) 82 (83+350000*82) 50000=true:=by decide+kernel
theorem r83_400000:run (tstS 83) 82 (83+400000*82) 50000=true:=by decide+kernel
theorem r83_450000:run (tstS 83) 82 (83+450000*82) 50000=true:=by decide+kernel
theorem r83_500000:run (tstS 83) 82 (83+500000*82) 50000=true:=by decide+kernel
theorem r83_550000:run (tstS 83) 82 (83+550000*82) 50000=true:=by decide+kernel
theorem r83_600000:run (tstS 83) 82 (83+600000*82) 31056=true:=by decide+kernel
theorem r89_0:run (tstS 89) 88 (89+0*88) 50000=true:=by decide+kernel
theorem r89_50000:run (tstS 89) 88 (89+50000*88) 50000=true:=by decide+kernel
theorem r89_100000:run (tstS 89) 88 (89+100000*88) 50000=true:=by decide+kernel
theorem r89_150000:run (tstS 89) 88 (89+150000*88) 50000=true:=by decide+kernel
theorem r89_200000:run (tstS 89) 88 (89+200000*88) 50000=true:=by decide+kernel
theorem r89_250000:run (tstS 89) 88 (89+250000*88) 50000=true:=by decide+kernel
theorem r89_300000:run (tstS 89) 88 (89+300000*88) 50000=true:=by decide+kernel
theorem r89_350000:run (tstS 89) 88 (89+350000*88) 50000=true:=by decide+kernel
theorem r89_400000:run (tstS 89) 88 (89+400000*88) 50000=true:=by decide+kernel
theorem r89_450000:run (tstS 89) 88 (89+450000*88) 50000=true:=by decide+kernel
theorem r89_500000:run (tstS 89) 88 (89+500000*88) 48387=true:=by decide+kernel
theorem r97_0:run (tstS 97) 96 (97+0*96) 50000=true:=by decide+kernel
theorem r97_50000:run (tstS 97) 96 (97+50000*96) 50000=true:=by decide+kernel
end Go.Proofs.YtjofnbpcanhfhaaGreatDoor
