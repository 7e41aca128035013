/- The texts Wa4. -/
import Derived.Test.YtjofnbpcanhfhaaGreatDoorQLModsKnown7
namespace Go.Proofs.YtjofnbpcanhfhaaGreatDoor
open Go.Sx
set_option linter.unusedSimpArgs false
set_option linter.unusedVariables false
set_option maxRecDepth 1000000
theorem r157_50000:run (tstS 157) 156 (157+50000*156) 50000=true:=by decide+kernel
theorem r157_100000:run (tstS 157) 156 (157+100000*156) 50000=true:=by decide+kernel
theorem r157_150000:run (tstS 157) 156 (157+150000*156) 25362=true:=by decide+kernel
theorem r163_0:run (tstS 163) 162 (163+0*162) 50000=true:=by decide+kernel
theorem r163_50000:run (tstS 163) 162 (163+50000*162) 50000=true:=by decide+kernel
theorem r163_100000:run (tstS 163) 162 (163+100000*162) 50000=true:=by decide+kernel
theorem r163_150000:run (tstS 163) 162 (163+150000*162) 12651=true:=by decide+kernel
theorem r167_0:run (tstS 167) 83 (167+0*83) 50000=true:=by decide+kernel
theorem r167_50000:run (tstS 167) 83 (167+50000*83) 50000=true:=by decide+kernel
theorem r167_100000:run (tstS 167) 83 (167+100000*83) 50000=true:=by decide+kernel
theorem r167_150000:run (tstS 167) 83 (167+150000*83) 50000=true:=by decide+kernel
theorem r167_200000:run (tstS 167) 83 (167+200000*83) 50000=true:=by decide+kernel
theorem r167_250000:run (tstS 167) 83 (167+250000*83) 50000=true:=by decide+kernel
theorem r167_300000:run (tstS 167) 83 (167+300000*83) 9858=true:=by decide+kernel
theorem r173_0:run (tstS 173) 172 (173+0*172) 50000=true:=by decide+kernel
theorem r173_50000:run (tstS 173) 172 (173+50000*172) 50000=true:=by decide+kernel
theorem r173_100000:run (tstS 173) 172 (173+100000*172) 44339=true:=by decide+kernel
theorem r179_0:run (tstS 179) 178 (179+0*178) 50000=true:=by decide+kernel
theorem r179_50000:run (tstS 179) 178 (179+50000*178) 50000=true:=by decide+kernel
theorem r179_100000:run (tstS 179) 178 (179+100000*178) 34799=true:=by decide+kernel
theorem r181_0:run (tstS 181) 180 (181+0*180) 50000=true:=by decide+kernel
theorem r181_50000:run (tstS 181) 180 (181+50000*180) 50000=true:=by decide+kernel
theorem r181_100000:run (tstS 181) 180 (181+100000*180) 31828=true:=by decide+kernel
theorem r191_0:run (tstS 191) 190 (191+0*190) 50000=true:=by decide+kernel
theorem r191_50000:run (tstS 191) 190 (191+50000*190) 50000=true:=by decide+kernel
theorem r191_100000:run (tstS 191) 190 (191+100000*190) 18351=true:=by decide+kernel
theorem r193_0:run (tstS 193) 192 (193+0*192) 50000=true:=by decide+kernel
theorem r193_50000:run (tstS 193) 192 (193+50000*192) 50000=true:=by decide+kernel
theorem r193_100000:run (tstS 193) 192 (193+100000*192) 15904=true:=by decide+kernel
theorem r197_0:run (tstS 197) 196 (197+0*196) 50000=true:=by decide+kernel
theorem r197_50000:run (tstS 197) 196 (197+50000*196) 50000=true:=by decide+kernel
theorem r197_100000:run (tstS 197) 196 (197+100000*196) 11233=true:=by decide+kernel
theorem r199_0:run (tstS 199) 99 (199+0*99) 50000=true:=by decide+kernel
theorem r199_50000:run (tstS 199) 99 (199+50000*99) 50000=true:=by decide+kernel
theorem r199_100000:run (tstS 199) 99 (199+100000*99) 50000=true:=by decide+kernel
theorem r199_150000:run (tstS 199) 99 (199+150000*99) 50000=true:=by decide+kernel
theorem r199_200000:run (tstS 199) 99 (199+200000*99) 18006=true:=by decide+kernel
theorem r211_0:run (tstS 211) 210 (211+0*210) 50000=true:=by decide+kernel
theorem r211_50000:run (tstS 211) 210 (211+50000*210) 46929=true:=by decide+kernel
theorem r223_0:run (tstS 223) 222 (223+0*222) 50000=true:=by decide+kernel
theorem r223_50000:run (tstS 223) 222 (223+50000*222) 36756=true:=by decide+kernel
theorem r227_0:run (tstS 227) 226 (227+0*226) 50000=true:=by decide+kernel
theorem r227_50000:run (tstS 227) 226 (227+50000*226) 33719=true:=by decide+kernel
theorem r229_0:run (tstS 229) 228 (229+0*228) 50000=true:=by decide+kernel
theorem r229_50000:run (tstS 229) 228 (229+50000*228) 32260=true:=by decide+kernel
theorem r233_0:run (tstS 233) 232 (233+0*232) 50000=true:=by decide+kernel
theorem r233_50000:run (tstS 233) 232 (233+50000*232) 29454=true:=by decide+kernel
theorem r239_0:run (tstS 239) 238 (239+0*238) 50000=true:=by decide+kernel
theorem r239_50000:run (tstS 239) 238 (239+50000*238) 25506=true:=by decide+kernel
theorem r241_0:run (tstS 241) 240 (241+0*240) 50000=true:=by decide+kernel
theorem r241_50000:run (tstS 241) 240 (241+50000*240) 24256=true:=by decide+kernel
theorem r251_0:run (tstS 251) 250 (251+0*250) 50000=true:=by decide+kernel
theorem r251_50000:run (tstS 251) 250 (251+50000*250) 18445=true:=by decide+kernel
theorem r257_0:run (tstS 257) 256 (257+0*256) 50000=true:=by decide+kernel
theorem r257_50000:run (tstS 257) 256 (257+50000*256) 15280=true:=by decide+kernel
end Go.Proofs.YtjofnbpcanhfhaaGreatDoor
