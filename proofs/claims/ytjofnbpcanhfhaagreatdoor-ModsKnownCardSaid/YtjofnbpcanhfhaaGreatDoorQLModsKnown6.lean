/- The texts Wa2. -/
import Derived.Test.YtjofnbpcanhfhaaGreatDoorQLModsKnown5
namespace Go.Proofs.YtjofnbpcanhfhaaGreatDoor
open Go.Sx
set_option linter.unusedSimpArgs false
set_option linter.unusedVariables false
set_option maxRecDepth 1000000
theorem r97_100000:run (tstS 97) 96 (97+100000*96) 50000=true:=by decide+kernel
theorem r97_150000:run (tstS 97) 96 (97+150000*96) 50000=true:=by decide+kernel
theorem r97_200000:run (tstS 97) 96 (97+200000*96) 50000=true:=by decide+kernel
theorem r97_250000:run (tstS 97) 96 (97+250000*96) 50000=true:=by decide+kernel
theorem r97_300000:run (tstS 97) 96 (97+300000*96) 50000=true:=by decide+kernel
theorem r97_350000:run (tstS 97) 96 (97+350000*96) 50000=true:=by decide+kernel
theorem r97_400000:run (tstS 97) 96 (97+400000*96) 50000=true:=by decide+kernel
theorem r97_450000:run (tstS 97) 96 (97+450000*96) 11229=true:=by decide+kernel
theorem r101_0:run (tstS 101) 100 (101+0*100) 50000=true:=by decide+kernel
theorem r101_50000:run (tstS 101) 100 (101+50000*100) 50000=true:=by decide+kernel
theorem r101_100000:run (tstS 101) 100 (101+100000*100) 50000=true:=by decide+kernel
theorem r101_150000:run (tstS 101) 100 (101+150000*100) 50000=true:=by decide+kernel
theorem r101_200000:run (tstS 101) 100 (101+200000*100) 50000=true:=by decide+kernel
theorem r101_250000:run (tstS 101) 100 (101+250000*100) 50000=true:=by decide+kernel
theorem r101_300000:run (tstS 101) 100 (101+300000*100) 50000=true:=by decide+kernel
theorem r101_350000:run (tstS 101) 100 (101+350000*100) 50000=true:=by decide+kernel
theorem r101_400000:run (tstS 101) 100 (101+400000*100) 25244=true:=by decide+kernel
theorem r103_0:run (tstS 103) 51 (103+0*51) 50000=true:=by decide+kernel
theorem r103_50000:run (tstS 103) 51 (103+50000*51) 50000=true:=by decide+kernel
theorem r103_100000:run (tstS 103) 51 (103+100000*51) 50000=true:=by decide+kernel
theorem r103_150000:run (tstS 103) 51 (103+150000*51) 50000=true:=by decide+kernel
theorem r103_200000:run (tstS 103) 51 (103+200000*51) 50000=true:=by decide+kernel
theorem r103_250000:run (tstS 103) 51 (103+250000*51) 50000=true:=by decide+kernel
theorem r103_300000:run (tstS 103) 51 (103+300000*51) 50000=true:=by decide+kernel
theorem r103_350000:run (tstS 103) 51 (103+350000*51) 50000=true:=by decide+kernel
theorem r103_400000:run (tstS 103) 51 (103+400000*51) 50000=true:=by decide+kernel
theorem r103_450000:run (tstS 103) 51 (103+450000*51) 50000=true:=by decide+kernel
theorem r103_500000:run (tstS 103) 51 (103+500000*51) 50000=true:=by decide+kernel
theorem r103_550000:run (tstS 103) 51 (103+550000*51) 50000=true:=by decide+kernel
theorem r103_600000:run (tstS 103) 51 (103+600000*51) 50000=true:=by decide+kernel
theorem r103_650000:run (tstS 103) 51 (103+650000*51) 50000=true:=by decide+kernel
theorem r103_700000:run (tstS 103) 51 (103+700000*51) 50000=true:=by decide+kernel
theorem r103_750000:run (tstS 103) 51 (103+750000*51) 50000=true:=by decide+kernel
theorem r103_800000:run (tstS 103) 51 (103+800000*51) 17620=true:=by decide+kernel
theorem r107_0:run (tstS 107) 106 (107+0*106) 50000=true:=by decide+kernel
theorem r107_50000:run (tstS 107) 106 (107+50000*106) 50000=true:=by decide+kernel
theorem r107_100000:run (tstS 107) 106 (107+100000*106) 50000=true:=by decide+kernel
theorem r107_150000:run (tstS 107) 106 (107+150000*106) 50000=true:=by decide+kernel
theorem r107_200000:run (tstS 107) 106 (107+200000*106) 50000=true:=by decide+kernel
theorem r107_250000:run (tstS 107) 106 (107+250000*106) 50000=true:=by decide+kernel
theorem r107_300000:run (tstS 107) 106 (107+300000*106) 50000=true:=by decide+kernel
theorem r107_350000:run (tstS 107) 106 (107+350000*106) 28678=true:=by decide+kernel
theorem r109_0:run (tstS 109) 108 (109+0*108) 50000=true:=by decide+kernel
theorem r109_50000:run (tstS 109) 108 (109+50000*108) 50000=true:=by decide+kernel
theorem r109_100000:run (tstS 109) 108 (109+100000*108) 50000=true:=by decide+kernel
theorem r109_150000:run (tstS 109) 108 (109+150000*108) 50000=true:=by decide+kernel
theorem r109_200000:run (tstS 109) 108 (109+200000*108) 50000=true:=by decide+kernel
theorem r109_250000:run (tstS 109) 108 (109+250000*108) 50000=true:=by decide+kernel
theorem r109_300000:run (tstS 109) 108 (109+300000*108) 50000=true:=by decide+kernel
end Go.Proofs.YtjofnbpcanhfhaaGreatDoor
