/- The texts Wa3. -/
import Derived.Test.YtjofnbpcanhfhaaGreatDoorQLModsKnown6
namespace Go.Proofs.YtjofnbpcanhfhaaGreatDoor
open Go.Sx
set_option linter.unusedSimpArgs false
set_option linter.unusedVariables false
set_option maxRecDepth 1000000
theorem r109_350000:run (tstS 109) 108 (109+350000*108) 14846=true:=by decide+kernel
theorem r113_0:run (tstS 113) 56 (113+0*56) 50000=true:=by decide+kernel
theorem r113_50000:run (tstS 113) 56 (113+50000*56) 50000=true:=by decide+kernel
theorem r113_100000:run (tstS 113) 56 (113+100000*56) 50000=true:=by decide+kernel
theorem r113_150000:run (tstS 113) 56 (113+150000*56) 50000=true:=by decide+kernel
theorem r113_200000:run (tstS 113) 56 (113+200000*56) 50000=true:=by decide+kernel
theorem r113_250000:run (tstS 113) 56 (113+250000*56) 50000=true:=by decide+kernel
theorem r113_300000:run (tstS 113) 56 (113+300000*56) 50000=true:=by decide+kernel
theorem r113_350000:run (tstS 113) 56 (113+350000*56) 50000=true:=by decide+kernel
theorem r113_400000:run (tstS 113) 56 (113+400000*56) 50000=true:=by decide+kernel
theorem r113_450000:run (tstS 113) 56 (113+450000*56) 50000=true:=by decide+kernel
theorem r113_500000:run (tstS 113) 56 (113+500000*56) 50000=true:=by decide+kernel
theorem r113_550000:run (tstS 113) 56 (113+550000*56) 50000=true:=by decide+kernel
theorem r113_600000:run (tstS 113) 56 (113+600000*56) 50000=true:=by decide+kernel
theorem r113_650000:run (tstS 113) 56 (113+650000*56) 28723=true:=by decide+kernel
theorem r127_0:run (tstS 127) 126 (127+0*126) 50000=true:=by decide+kernel
theorem r127_50000:run (tstS 127) 126 (127+50000*126) 50000=true:=by decide+kernel
theorem r127_100000:run (tstS 127) 126 (127+100000*126) 50000=true:=by decide+kernel
theorem r127_150000:run (tstS 127) 126 (127+150000*126) 50000=true:=by decide+kernel
theorem r127_200000:run (tstS 127) 126 (127+200000*126) 50000=true:=by decide+kernel
theorem r127_250000:run (tstS 127) 126 (127+250000*126) 18401=true:=by decide+kernel
theorem r131_0:run (tstS 131) 130 (131+0*130) 50000=true:=by decide+kernel
theorem r131_50000:run (tstS 131) 130 (131+50000*130) 50000=true:=by decide+kernel
theorem r131_100000:run (tstS 131) 130 (131+100000*130) 50000=true:=by decide+kernel
theorem r131_150000:run (tstS 131) 130 (131+150000*130) 50000=true:=by decide+kernel
theorem r131_200000:run (tstS 131) 130 (131+200000*130) 50000=true:=by decide+kernel
theorem r131_250000:run (tstS 131) 130 (131+250000*130) 2200=true:=by decide+kernel
theorem r137_0:run (tstS 137) 68 (137+0*68) 50000=true:=by decide+kernel
theorem r137_50000:run (tstS 137) 68 (137+50000*68) 50000=true:=by decide+kernel
theorem r137_100000:run (tstS 137) 68 (137+100000*68) 50000=true:=by decide+kernel
theorem r137_150000:run (tstS 137) 68 (137+150000*68) 50000=true:=by decide+kernel
theorem r137_200000:run (tstS 137) 68 (137+200000*68) 50000=true:=by decide+kernel
theorem r137_250000:run (tstS 137) 68 (137+250000*68) 50000=true:=by decide+kernel
theorem r137_300000:run (tstS 137) 68 (137+300000*68) 50000=true:=by decide+kernel
theorem r137_350000:run (tstS 137) 68 (137+350000*68) 50000=true:=by decide+kernel
theorem r137_400000:run (tstS 137) 68 (137+400000*68) 50000=true:=by decide+kernel
theorem r137_450000:run (tstS 137) 68 (137+450000*68) 11030=true:=by decide+kernel
theorem r139_0:run (tstS 139) 138 (139+0*138) 50000=true:=by decide+kernel
theorem r139_50000:run (tstS 139) 138 (139+50000*138) 50000=true:=by decide+kernel
theorem r139_100000:run (tstS 139) 138 (139+100000*138) 50000=true:=by decide+kernel
theorem r139_150000:run (tstS 139) 138 (139+150000*138) 50000=true:=by decide+kernel
theorem r139_200000:run (tstS 139) 138 (139+200000*138) 23906=true:=by decide+kernel
theorem r149_0:run (tstS 149) 148 (149+0*148) 50000=true:=by decide+kernel
theorem r149_50000:run (tstS 149) 148 (149+50000*148) 50000=true:=by decide+kernel
theorem r149_100000:run (tstS 149) 148 (149+100000*148) 50000=true:=by decide+kernel
theorem r149_150000:run (tstS 149) 148 (149+150000*148) 44765=true:=by decide+kernel
theorem r151_0:run (tstS 151) 150 (151+0*150) 50000=true:=by decide+kernel
theorem r151_50000:run (tstS 151) 150 (151+50000*150) 50000=true:=by decide+kernel
theorem r151_100000:run (tstS 151) 150 (151+100000*150) 50000=true:=by decide+kernel
theorem r151_150000:run (tstS 151) 150 (151+150000*150) 39623=true:=by decide+kernel
theorem r157_0:run (tstS 157) 156 (157+0*156) 50000=true:=by decide+kernel
end Go.Proofs.YtjofnbpcanhfhaaGreatDoor
