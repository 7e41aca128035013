/- The texts Wa0. -/
import Derived.Test.YtjofnbpcanhfhaaGreatDoorQLModsKnown3
namespace Go.Proofs.YtjofnbpcanhfhaaGreatDoor
open Go.Sx
set_option linter.unusedSimpArgs false
set_option linter.unusedVariables false
set_option maxRecDepth 1000000
theorem r67_0:run (tstS 67) 66 (67+0*66) 50000=true:=by decide+kernel
theorem r67_50000:run (tstS 67) 66 (67+50000*66) 50000=true:=by decide+kernel
theorem r67_100000:run (tstS 67) 66 (67+100000*66) 50000=true:=by decide+kernel
theorem r67_150000:run (tstS 67) 66 (67+150000*66) 50000=true:=by decide+kernel
theorem r67_200000:run (tstS 67) 66 (67+200000*66) 50000=true:=by decide+kernel
theorem r67_250000:run (tstS 67) 66 (67+250000*66) 50000=true:=by decide+kernel
theorem r67_300000:run (tstS 67) 66 (67+300000*66) 50000=true:=by decide+kernel
theorem r67_350000:run (tstS 67) 66 (67+350000*66) 50000=true:=by decide+kernel
theorem r67_400000:run (tstS 67) 66 (67+400000*66) 50000=true:=by decide+kernel
theorem r67_450000:run (tstS 67) 66 (67+450000*66) 50000=true:=by decide+kernel
theorem r67_500000:run (tstS 67) 66 (67+500000*66) 50000=true:=by decide+kernel
theorem r67_550000:run (tstS 67) 66 (67+550000*66) 50000=true:=by decide+kernel
theorem r67_600000:run (tstS 67) 66 (67+600000*66) 50000=true:=by decide+kernel
theorem r67_650000:run (tstS 67) 66 (67+650000*66) 50000=true:=by decide+kernel
theorem r67_700000:run (tstS 67) 66 (67+700000*66) 50000=true:=by decide+kernel
theorem r67_750000:run (tstS 67) 66 (67+750000*66) 50000=true:=by decide+kernel
theorem r67_800000:run (tstS 67) 66 (67+800000*66) 50000=true:=by decide+kernel
theorem r67_850000:run (tstS 67) 66 (67+850000*66) 50000=true:=by decide+kernel
theorem r67_900000:run (tstS 67) 66 (67+900000*66) 50000=true:=by decide+kernel
theorem r67_950000:run (tstS 67) 66 (67+950000*66) 21272=true:=by decide+kernel
theorem r71_0:run (tstS 71) 70 (71+0*70) 50000=true:=by decide+kernel
theorem r71_50000:run (tstS 71) 70 (71+50000*70) 50000=true:=by decide+kernel
theorem r71_100000:run (tstS 71) 70 (71+100000*70) 50000=true:=by decide+kernel
theorem r71_150000:run (tstS 71) 70 (71+150000*70) 50000=true:=by decide+kernel
theorem r71_200000:run (tstS 71) 70 (71+200000*70) 50000=true:=by decide+kernel
theorem r71_250000:run (tstS 71) 70 (71+250000*70) 50000=true:=by decide+kernel
theorem r71_300000:run (tstS 71) 70 (71+300000*70) 50000=true:=by decide+kernel
theorem r71_350000:run (tstS 71) 70 (71+350000*70) 50000=true:=by decide+kernel
theorem r71_400000:run (tstS 71) 70 (71+400000*70) 50000=true:=by decide+kernel
theorem r71_450000:run (tstS 71) 70 (71+450000*70) 50000=true:=by decide+kernel
theorem r71_500000:run (tstS 71) 70 (71+500000*70) 50000=true:=by decide+kernel
theorem r71_550000:run (tstS 71) 70 (71+550000*70) 50000=true:=by decide+kernel
theorem r71_600000:run (tstS 71) 70 (71+600000*70) 50000=true:=by decide+kernel
theorem r71_650000:run (tstS 71) 70 (71+650000*70) 50000=true:=by decide+kernel
theorem r71_700000:run (tstS 71) 70 (71+700000*70) 50000=true:=by decide+kernel
theorem r71_750000:run (tstS 71) 70 (71+750000*70) 50000=true:=by decide+kernel
theorem r71_800000:run (tstS 71) 70 (71+800000*70) 50000=true:=by decide+kernel
theorem r71_850000:run (tstS 71) 70 (71+850000*70) 14178=true:=by decide+kernel
theorem r73_0:run (tstS 73) 72 (73+0*72) 50000=true:=by decide+kernel
theorem r73_50000:run (tstS 73) 72 (73+50000*72) 50000=true:=by decide+kernel
theorem r73_100000:run (tstS 73) 72 (73+100000*72) 50000=true:=by decide+kernel
theorem r73_150000:run (tstS 73) 72 (73+150000*72) 50000=true:=by decide+kernel
theorem r73_200000:run (tstS 73) 72 (73+200000*72) 50000=true:=by decide+kernel
theorem r73_250000:run (tstS 73) 72 (73+250000*72) 50000=true:=by decide+kernel
theorem r73_300000:run (tstS 73) 72 (73+300000*72) 50000=true:=by decide+kernel
theorem r73_350000:run (tstS 73) 72 (73+350000*72) 50000=true:=by decide+kernel
theorem r73_400000:run (tstS 73) 72 (73+400000*72) 50000=true:=by decide+kernel
theorem r73_450000:run (tstS 73) 72 (73+450000*72) 50000=true:=by decide+kernel
end Go.Proofs.YtjofnbpcanhfhaaGreatDoor
