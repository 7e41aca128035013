/- The texts Wc. -/
import Derived.Test.YtjofnbpcanhfhaaGreatDoorQLModsKnown9
namespace Go.Proofs.YtjofnbpcanhfhaaGreatDoor
open Go.Sx
set_option linter.unusedSimpArgs false
set_option linter.unusedVariables false
set_option maxRecDepth 1000000
theorem g67:GoodQ 67 66:=⟨by decide+kernel,by decide,by decide,goodQ_of (n:=971272) (by decide) (runs_cons (lo:=0) (k:=50000) r67_0 (runs_cons (lo:=50000) (k:=50000) r67_50000 (runs_cons (lo:=100000) (k:=50000) r67_100000 (runs_cons (lo:=150000) (k:=50000) r67_150000 (runs_cons (lo:=200000) (k:=50000) r67_200000 (runs_cons (lo:=250000) (k:=50000) r67_250000 (runs_cons (lo:=300000) (k:=50000) r67_300000 (runs_cons (lo:=350000) (k:=50000) r67_350000 (runs_cons (lo:=400000) (k:=50000) r67_400000 (runs_cons (lo:=450000) (k:=50000) r67_450000 (runs_cons (lo:=500000) (k:=50000) r67_500000 (runs_cons (lo:=550000) (k:=50000) r67_550000 (runs_cons (lo:=600000) (k:=50000) r67_600000 (runs_cons (lo:=650000) (k:=50000) r67_650000 (runs_cons (lo:=700000) (k:=50000) r67_700000 (runs_cons (lo:=750000) (k:=50000) r67_750000 (runs_cons (lo:=800000) (k:=50000) r67_800000 (runs_cons (lo:=850000) (k:=50000) r67_850000 (runs_cons (lo:=900000) (k:=50000) r67_900000 (runs_cons (lo:=950000) (k:=21272) r67_950000 runs_nil))))))))))))))))))))⟩
theorem g71:GoodQ 71 70:=⟨by decide+kernel,by decide,by decide,goodQ_of (n:=864178) (by decide) (runs_cons (lo:=0) (k:=50000) r71_0 (runs_cons (lo:=50000) (k:=50000) r71_50000 (runs_cons (lo:=100000) (k:=50000) r71_100000 (runs_cons (lo:=150000) (k:=50000) r71_150000 (runs_cons (lo:=200000) (k:=50000) r71_200000 (runs_cons (lo:=250000) (k:=50000) r71_250000 (runs_cons (lo:=300000) (k:=50000) r71_300000 (runs_cons (lo:=350000) (k:=50000) r71_350000 (runs_cons (lo:=400000) (k:=50000) r71_400000 (runs_cons (lo:=450000) (k:=50000) r71_450000 (runs_cons (lo:=500000) (k:=50000) r71_500000 (runs_cons (lo:=550000) (k:=50000) r71_550000 (runs_cons (lo:=600000) (k:=50000) r71_600000 (runs_cons (lo:=650000) (k:=50000) r71_650000 (runs_cons (lo:=700000) (k:=50000) r71_700000 (runs_cons (lo:=750000) (k:=50000) r71_750000 (runs_cons (lo:=800000) (k:=50000) r71_800000 (runs_cons (lo:=850000) (k:=14178) r71_850000 runs_nil))))))))))))))))))⟩
theorem g73:GoodQ 73 72:=⟨by decide+kernel,by decide,by decide,goodQ_of (n:=817155) (by decide) (runs_cons (lo:=0) (k:=50000) r73_0 (runs_cons (lo:=50000) (k:=50000) r73_50000 (runs_cons (lo:=100000) (k:=50000) r73_100000 (runs_cons (lo:=150000) (k:=50000) r73_150000 (runs_cons (lo:=200000) (k:=50000) r73_200000 (runs_cons (lo:=250000) (k:=50000) r73_250000 (runs_cons (lo:=300000) (k:=50000) r73_300000 (runs_cons (lo:=350000) (k:=50000) r73_350000 (runs_cons (lo:=400000) (k:=50000) r73_400000 (runs_cons (lo:=450000) (k:=50000) r73_450000 (runs_cons (lo:=500000) (k:=50000) r73_500000 (runs_cons (lo:=550000) (k:=50000) r73_550000 (runs_cons (lo:=600000) (k:=50000) r73_600000 (runs_cons (lo:=650000) (k:=50000) r73_650000 (runs_cons (lo:=700000) (k:=50000) r73_700000 (runs_cons (lo:=750000) (k:=50000) r73_750000 (runs_cons (lo:=800000) (k:=17155) r73_800000 runs_nil)))))))))))))))))⟩
theorem g79:GoodQ 79 78:=⟨by decide+kernel,by decide,by decide,goodQ_of (n:=697008) (by decide) (runs_cons (lo:=0) (k:=50000) r79_0 (runs_cons (lo:=50000) (k:=50000) r79_50000 (runs_cons (lo:=100000) (k:=50000) r79_100000 (runs_cons (lo:=150000) (k:=50000) r79_150000 (runs_cons (lo:=200000) (k:=50000) r79_200000 (runs_cons (lo:=250000) (k:=50000) r79_250000 (runs_cons (lo:=300000) (k:=50000) r79_300000 (runs_cons (lo:=350000) (k:=50000) r79_350000 (runs_cons (lo:=400000) (k:=50000) r79_400000 (runs_cons (lo:=450000) (k:=50000) r79_450000 (runs_cons (lo:=500000) (k:=50000) r79_500000 (runs_cons (lo:=550000) (k:=50000) r79_550000 (runs_cons (lo:=600000) (k:=50000) r79_600000 (runs_cons (lo:=650000) (k:=47008) r79_650000 runs_nil))))))))))))))⟩
theorem g83:GoodQ 83 82:=⟨by decide+kernel,by decide,by decide,goodQ_of (n:=631056) (by decide) (runs_cons (lo:=0) (k:=50000) r83_0 (runs_cons (lo:=50000) (k:=50000) r83_50000 (runs_cons (lo:=100000) (k:=50000) r83_100000 (runs_cons (lo:=150000) (k:=50000) r83_150000 (runs_cons (lo:=200000) (k:=50000) r83_200000 (runs_cons (lo:=250000) (k:=50000) r83_250000 (runs_cons (lo:=300000) (k:=50000) r83_300000 (runs_cons (lo:=350000) (k:=50000) r83_350000 (runs_cons (lo:=400000) (k:=50000) r83_400000 (runs_cons (lo:=450000) (k:=50000) r83_450000 (runs_cons (lo:=500000) (k:=50000) r83_500000 (runs_cons (lo:=550000) (k:=50000) r83_550000 (runs_cons (lo:=600000) (k:=31056) r83_600000 runs_nil)))))))))))))⟩
theorem g89:GoodQ 89 88:=⟨by decide+kernel,by decide,by decide,goodQ_of (n:=548387) (by decide) (runs_cons (lo:=0) (k:=50000) r89_0 (runs_cons (lo:=50000) (k:=50000) r89_50000 (runs_cons (lo:=100000) (k:=50000) r89_100000 (runs_cons (lo:=150000) (k:=50000) r89_150000 (runs_cons (lo:=200000) (k:=50000) r89_200000 (runs_cons (lo:=250000) (k:=50000) r89_250000 (runs_cons (lo:=300000) (k:=50000) r89_300000 (runs_cons (lo:=350000) (k:=50000) r89_350000 (runs_cons (lo:=400000) (k:=50000) r89_400000 (runs_cons (lo:=450000) (k:=50000) r89_450000 (runs_cons (lo:=500000) (k:=48387) r89_500000 runs_nil)))))))))))⟩
theorem g97:GoodQ 97 96:=⟨by decide+kernel,by decide,by decide,goodQ_of (n:=461229) (by decide) (runs_cons (lo:=0) (k:=50000) r97_0 (runs_cons (lo:=50000) (k:=50000) r97_50000 (runs_cons (lo:=100000) (k:=50000) r97_100000 (runs_cons (lo:=150000) (k:=50000) r97_150000 (runs_cons (lo:=200000) (k:=50000) r97_200000 (runs_cons (lo:=250000) (k:=50000) r97_250000 (runs_cons (lo:=300000) (k:=50000) r97_300000 (runs_cons (lo:=350000) (k:=50000) r97_350000 (runs_cons (lo:=400000) (k:=50000) r97_400000 (runs_cons (lo:=450000) (k:=11229) r97_450000 runs_nil))))))))))⟩
theorem g101:GoodQ 101 100:=⟨by decide+kernel,by decide,by decide,goodQ_of (n:=425244) (by decide) (runs_cons (lo:=0) (k:=50000) r101_0 (runs_cons (lo:=50000) (k:=50000) r101_50000 (runs_cons (lo:=100000) (k:=50000) r101_100000 (runs_cons (lo:=150000) (k:=50000) r101_150000 (runs_cons (lo:=200000) (k:=50000) r101_200000 (runs_cons (lo:=250000) (k:=50000) r101_250000 (runs_cons (lo:=300000) (k:=50000) r101_300000 (runs_cons (lo:=350000) (k:=50000) r101_350000 (runs_cons (lo:=400000) (k:=25244) r101_400000 runs_nil)))))))))⟩
theorem g103:GoodQ 103 51:=⟨by decide+kernel,by decide,by decide,goodQ_of (n:=817620) (by decide) (runs_cons (lo:=0) (k:=50000) r103_0 (runs_cons (lo:=50000) (k:=50000) r103_50000 (runs_cons (lo:=100000) (k:=50000) r103_100000 (runs_cons (lo:=150000) (k:=50000) r103_150000 (runs_cons (lo:=200000) (k:=50000) r103_200000 (runs_cons (lo:=250000) (k:=50000) r103_250000 (runs_cons (lo:=300000) (k:=50000) r103_300000 (runs_cons (lo:=350000) (k:=50000) r103_350000 (runs_cons (lo:=400000) (k:=50000) r103_400000 (runs_cons (lo:=450000) (k:=50000) r103_450000 (runs_cons (lo:=500000) (k:=50000) r103_500000 (runs_cons (lo:=550000) (k:=50000) r103_550000 (runs_cons (lo:=600000) (k:=50000) r103_600000 (runs_cons (lo:=650000) (k:=50000) r103_650000 (runs_cons (lo:=700000) (k:=50000) r103_700000 (runs_cons (lo:=750000) (k:=50000) r103_750000 (runs_cons (lo:=800000) (k:=17620) r103_800000 runs_nil)))))))))))))))))⟩
theorem g107:GoodQ 107 106:=⟨by decide+kernel,by decide,by decide,goodQ_of (n:=378678) (by decide) (runs_cons (lo:=0) (k:=50000) r107_0 (runs_cons (lo:=50000) (k:=50000) r107_50000 (runs_cons (lo:=100000) (k:=50000) r107_100000 (runs_cons (lo:=150000) (k:=50000) r107_150000 (runs_cons (lo:=200000) (k:=50000) r107_200000 (runs_cons (lo:=250000) (k:=50000) r107_250000 (runs_cons (lo:=300000) (k:=50000) r107_300000 (runs_cons (lo:=350000) (k:=28678) r107_350000 runs_nil))))))))⟩
theorem g109:GoodQ 109 108:=⟨by decide+kernel,by decide,by decide,goodQ_of (n:=364846) (by decide) (runs_cons (lo:=0) (k:=50000) r109_0 (runs_cons (lo:=50000) (k:=50000) r109_50000 (runs_cons (lo:=100000) (k:=50000) r109_100000 (runs_cons (lo:=150000) (k:=50000) r109_150000 (runs_cons (lo:=200000) (k:=50000) r109_200000 (runs_cons (lo:=250000) (k:=50000) r109_250000 (runs_cons (lo:=300000) (k:=50000) r109_300000 (runs_cons (lo:=350000) (k:=14846) r109_350000 runs_nil))))))))⟩
theorem g113:GoodQ 113 56:=⟨by decide+kernel,by decide,by decide,goodQ_of (n:=678723) (by decide) (runs_cons (lo:=0) (k:=50000) r113_0 (runs_cons (lo:=50000) (k:=50000) r113_50000 (runs_cons (lo:=100000) (k:=50000) r113_100000 (runs_cons (lo:=150000) (k:=50000) r113_150000 (runs_cons (lo:=200000) (k:=50000) r113_200000 (runs_cons (lo:=250000) (k:=50000) r113_250000 (runs_cons (lo:=300000) (k:=50000) r113_300000 (runs_cons (lo:=350000) (k:=50000) r113_350000 (runs_cons (lo:=400000) (k:=50000) r113_400000 (runs_cons (lo:=450000) (k:=50000) r113_450000 (runs_cons (lo:=500000) (k:=50000) r113_500000 (runs_cons (lo:=550000) (k:=50000) r113_550000 (runs_cons (lo:=600000) (k:=50000) r113_600000 (runs_cons (lo:=650000) (k:=28723) r113_650000 runs_nil))))))))))))))⟩
theorem g127:GoodQ 127 126:=⟨by decide+kernel,by decide,by decide,goodQ_of (n:=268401) (by decide) (runs_cons (lo:=0) (k:=50000) r127_0 (runs_cons (lo:=50000) (k:=50000) r127_50000 (runs_cons (lo:=100000) (k:=50000) r127_100000 (runs_cons (lo:=150000) (k:=50000) r127_150000 (runs_cons (lo:=200000) (k:=50000) r127_200000 (runs_cons (lo:=250000) (k:=18401) r127_250000 runs_nil))))))⟩
theorem g131:GoodQ 131 130:=⟨by decide+kernel,by decide,by decide,goodQ_of (n:=252200) (by decide) (runs_cons (lo:=0) (k:=50000) r131_0 (runs_cons (lo:=50000) (k:=50000) r131_50000 (runs_cons (lo:=100000) (k:=50000) r131_100000 (runs_cons (lo:=150000) (k:=50000) r131_150000 (runs_cons (lo:=200000) (k:=50000) r131_200000 (runs_cons (lo:=250000) (k:=2200) r131_250000 runs_nil))))))⟩
theorem g137:GoodQ 137 68:=⟨by decide+kernel,by decide,by decide,goodQ_of (n:=461030) (by decide) (runs_cons (lo:=0) (k:=50000) r137_0 (runs_cons (lo:=50000) (k:=50000) r137_50000 (runs_cons (lo:=100000) (k:=50000) r137_100000 (runs_cons (lo:=150000) (k:=50000) r137_150000 (runs_cons (lo:=200000) (k:=50000) r137_200000 (runs_cons (lo:=250000) (k:=50000) r137_250000 (runs_cons (lo:=300000) (k:=50000) r137_300000 (runs_cons (lo:=350000) (k:=50000) r137_350000 (runs_cons (lo:=400000) (k:=50000) r137_400000 (runs_cons (lo:=450000) (k:=11030) r137_450000 runs_nil))))))))))⟩
theorem g139:GoodQ 139 138:=⟨by decide+kernel,by decide,by decide,goodQ_of (n:=223906) (by decide) (runs_cons (lo:=0) (k:=50000) r139_0 (runs_cons (lo:=50000) (k:=50000) r139_50000 (runs_cons (lo:=100000) (k:=50000) r139_100000 (runs_cons (lo:=150000) (k:=50000) r139_150000 (runs_cons (lo:=200000) (k:=23906) r139_200000 runs_nil)))))⟩
theorem g149:GoodQ 149 148:=⟨by decide+kernel,by decide,by decide,goodQ_of (n:=194765) (by decide) (runs_cons (lo:=0) (k:=50000) r149_0 (runs_cons (lo:=50000) (k:=50000) r149_50000 (runs_cons (lo:=100000) (k:=50000) r149_100000 (runs_cons (lo:=150000) (k:=44765) r149_150000 runs_nil))))⟩
theorem g151:GoodQ 151 150:=⟨by decide+kernel,by decide,by decide,goodQ_of (n:=189623) (by decide) (runs_cons (lo:=0) (k:=50000) r151_0 (runs_cons (lo:=50000) (k:=50000) r151_50000 (runs_cons (lo:=100000) (k:=50000) r151_100000 (runs_cons (lo:=150000) (k:=39623) r151_150000 runs_nil))))⟩
theorem g157:GoodQ 157 156:=⟨by decide+kernel,by decide,by decide,goodQ_of (n:=175362) (by decide) (runs_cons (lo:=0) (k:=50000) r157_0 (runs_cons (lo:=50000) (k:=50000) r157_50000 (runs_cons (lo:=100000) (k:=50000) r157_100000 (runs_cons (lo:=150000) (k:=25362) r157_150000 runs_nil))))⟩
theorem g163:GoodQ 163 162:=⟨by decide+kernel,by decide,by decide,goodQ_of (n:=162651) (by decide) (runs_cons (lo:=0) (k:=50000) r163_0 (runs_cons (lo:=50000) (k:=50000) r163_50000 (runs_cons (lo:=100000) (k:=50000) r163_100000 (runs_cons (lo:=150000) (k:=12651) r163_150000 runs_nil))))⟩
theorem g167:GoodQ 167 83:=⟨by decide+kernel,by decide,by decide,goodQ_of (n:=309858) (by decide) (runs_cons (lo:=0) (k:=50000) r167_0 (runs_cons (lo:=50000) (k:=50000) r167_50000 (runs_cons (lo:=100000) (k:=50000) r167_100000 (runs_cons (lo:=150000) (k:=50000) r167_150000 (runs_cons (lo:=200000) (k:=50000) r167_200000 (runs_cons (lo:=250000) (k:=50000) r167_250000 (runs_cons (lo:=300000) (k:=9858) r167_300000 runs_nil)))))))⟩
theorem g173:GoodQ 173 172:=⟨by decide+kernel,by decide,by decide,goodQ_of (n:=144339) (by decide) (runs_cons (lo:=0) (k:=50000) r173_0 (runs_cons (lo:=50000) (k:=50000) r173_50000 (runs_cons (lo:=100000) (k:=44339) r173_100000 runs_nil)))⟩
theorem g179:GoodQ 179 178:=⟨by decide+kernel,by decide,by decide,goodQ_of (n:=134799) (by decide) (runs_cons (lo:=0) (k:=50000) r179_0 (runs_cons (lo:=50000) (k:=50000) r179_50000 (runs_cons (lo:=100000) (k:=34799) r179_100000 runs_nil)))⟩
theorem g181:GoodQ 181 180:=⟨by decide+kernel,by decide,by decide,goodQ_of (n:=131828) (by decide) (runs_cons (lo:=0) (k:=50000) r181_0 (runs_cons (lo:=50000) (k:=50000) r181_50000 (runs_cons (lo:=100000) (k:=31828) r181_100000 runs_nil)))⟩
theorem g191:GoodQ 191 190:=⟨by decide+kernel,by decide,by decide,goodQ_of (n:=118351) (by decide) (runs_cons (lo:=0) (k:=50000) r191_0 (runs_cons (lo:=50000) (k:=50000) r191_50000 (runs_cons (lo:=100000) (k:=18351) r191_100000 runs_nil)))⟩
theorem g193:GoodQ 193 192:=⟨by decide+kernel,by decide,by decide,goodQ_of (n:=115904) (by decide) (runs_cons (lo:=0) (k:=50000) r193_0 (runs_cons (lo:=50000) (k:=50000) r193_50000 (runs_cons (lo:=100000) (k:=15904) r193_100000 runs_nil)))⟩
theorem g197:GoodQ 197 196:=⟨by decide+kernel,by decide,by decide,goodQ_of (n:=111233) (by decide) (runs_cons (lo:=0) (k:=50000) r197_0 (runs_cons (lo:=50000) (k:=50000) r197_50000 (runs_cons (lo:=100000) (k:=11233) r197_100000 runs_nil)))⟩
theorem g199:GoodQ 199 99:=⟨by decide+kernel,by decide,by decide,goodQ_of (n:=218006) (by decide) (runs_cons (lo:=0) (k:=50000) r199_0 (runs_cons (lo:=50000) (k:=50000) r199_50000 (runs_cons (lo:=100000) (k:=50000) r199_100000 (runs_cons (lo:=150000) (k:=50000) r199_150000 (runs_cons (lo:=200000) (k:=18006) r199_200000 runs_nil)))))⟩
theorem g211:GoodQ 211 210:=⟨by decide+kernel,by decide,by decide,goodQ_of (n:=96929) (by decide) (runs_cons (lo:=0) (k:=50000) r211_0 (runs_cons (lo:=50000) (k:=46929) r211_50000 runs_nil))⟩
theorem g223:GoodQ 223 222:=⟨by decide+kernel,by decide,by decide,goodQ_of (n:=86756) (by decide) (runs_cons (lo:=0) (k:=50000) r223_0 (runs_cons (lo:=50000) (k:=36756) r223_50000 runs_nil))⟩
theorem g227:GoodQ 227 226:=⟨by decide+kernel,by decide,by decide,goodQ_of (n:=83719) (by decide) (runs_cons (lo:=0) (k:=50000) r227_0 (runs_cons (lo:=50000) (k:=33719) r227_50000 runs_nil))⟩
theorem g229:GoodQ 229 228:=⟨by decide+kernel,by decide,by decide,goodQ_of (n:=82260) (by decide) (runs_cons (lo:=0) (k:=50000) r229_0 (runs_cons (lo:=50000) (k:=32260) r229_50000 runs_nil))⟩
theorem g233:GoodQ 233 232:=⟨by decide+kernel,by decide,by decide,goodQ_of (n:=79454) (by decide) (runs_cons (lo:=0) (k:=50000) r233_0 (runs_cons (lo:=50000) (k:=29454) r233_50000 runs_nil))⟩
theorem g239:GoodQ 239 238:=⟨by decide+kernel,by decide,by decide,goodQ_of (n:=75506) (by decide) (runs_cons (lo:=0) (k:=50000) r239_0 (runs_cons (lo:=50000) (k:=25506) r239_50000 runs_nil))⟩
theorem g241:GoodQ 241 240:=⟨by decide+kernel,by decide,by decide,goodQ_of (n:=74256) (by decide) (runs_cons (lo:=0) (k:=50000) r241_0 (runs_cons (lo:=50000) (k:=24256) r241_50000 runs_nil))⟩
theorem g251:GoodQ 251 250:=⟨by decide+kernel,by decide,by decide,goodQ_of (n:=68445) (by decide) (runs_cons (lo:=0) (k:=50000) r251_0 (runs_cons (lo:=50000) (k:=18445) r251_50000 runs_nil))⟩
theorem g257:GoodQ 257 256:=⟨by decide+kernel,by decide,by decide,goodQ_of (n:=65280) (by decide) (runs_cons (lo:=0) (k:=50000) r257_0 (runs_cons (lo:=50000) (k:=15280) r257_50000 runs_nil))⟩
theorem g263:GoodQ 263 262:=⟨by decide+kernel,by decide,by decide,goodQ_of (n:=62330) (by decide) (runs_cons (lo:=0) (k:=50000) r263_0 (runs_cons (lo:=50000) (k:=12330) r263_50000 runs_nil))⟩
theorem g269:GoodQ 269 268:=⟨by decide+kernel,by decide,by decide,goodQ_of (n:=59576) (by decide) (runs_cons (lo:=0) (k:=50000) r269_0 (runs_cons (lo:=50000) (k:=9576) r269_50000 runs_nil))⟩
theorem g271:GoodQ 271 135:=⟨by decide+kernel,by decide,by decide,goodQ_of (n:=117395) (by decide) (runs_cons (lo:=0) (k:=50000) r271_0 (runs_cons (lo:=50000) (k:=50000) r271_50000 (runs_cons (lo:=100000) (k:=17395) r271_100000 runs_nil)))⟩
theorem g277:GoodQ 277 276:=⟨by decide+kernel,by decide,by decide,goodQ_of (n:=56178) (by decide) (runs_cons (lo:=0) (k:=50000) r277_0 (runs_cons (lo:=50000) (k:=6178) r277_50000 runs_nil))⟩
theorem g281:GoodQ 281 280:=⟨by decide+kernel,by decide,by decide,goodQ_of (n:=54587) (by decide) (runs_cons (lo:=0) (k:=50000) r281_0 (runs_cons (lo:=50000) (k:=4587) r281_50000 runs_nil))⟩
theorem g283:GoodQ 283 282:=⟨by decide+kernel,by decide,by decide,goodQ_of (n:=53817) (by decide) (runs_cons (lo:=0) (k:=50000) r283_0 (runs_cons (lo:=50000) (k:=3817) r283_50000 runs_nil))⟩
theorem g293:GoodQ 293 292:=⟨by decide+kernel,by decide,by decide,goodQ_of (n:=50200) (by decide) (runs_cons (lo:=0) (k:=50000) r293_0 (runs_cons (lo:=50000) (k:=200) r293_50000 runs_nil))⟩
theorem g307:GoodQ 307 306:=⟨by decide+kernel,by decide,by decide,goodQ_of (n:=45719) (by decide) (runs_cons (lo:=0) (k:=45719) r307_0 runs_nil)⟩
theorem g311:GoodQ 311 310:=⟨by decide+kernel,by decide,by decide,goodQ_of (n:=44548) (by decide) (runs_cons (lo:=0) (k:=44548) r311_0 runs_nil)⟩
theorem g313:GoodQ 313 312:=⟨by decide+kernel,by decide,by decide,goodQ_of (n:=43980) (by decide) (runs_cons (lo:=0) (k:=43980) r313_0 runs_nil)⟩
theorem g317:GoodQ 317 316:=⟨by decide+kernel,by decide,by decide,goodQ_of (n:=42875) (by decide) (runs_cons (lo:=0) (k:=42875) r317_0 runs_nil)⟩
theorem g331:GoodQ 331 330:=⟨by decide+kernel,by decide,by decide,goodQ_of (n:=39320) (by decide) (runs_cons (lo:=0) (k:=39320) r331_0 runs_nil)⟩
theorem g337:GoodQ 337 336:=⟨by decide+kernel,by decide,by decide,goodQ_of (n:=37930) (by decide) (runs_cons (lo:=0) (k:=37930) r337_0 runs_nil)⟩
theorem g347:GoodQ 347 346:=⟨by decide+kernel,by decide,by decide,goodQ_of (n:=35772) (by decide) (runs_cons (lo:=0) (k:=35772) r347_0 runs_nil)⟩
theorem g349:GoodQ 349 348:=⟨by decide+kernel,by decide,by decide,goodQ_of (n:=35363) (by decide) (runs_cons (lo:=0) (k:=35363) r349_0 runs_nil)⟩
theorem g353:GoodQ 353 352:=⟨by decide+kernel,by decide,by decide,goodQ_of (n:=34565) (by decide) (runs_cons (lo:=0) (k:=34565) r353_0 runs_nil)⟩
theorem g359:GoodQ 359 358:=⟨by decide+kernel,by decide,by decide,goodQ_of (n:=33418) (by decide) (runs_cons (lo:=0) (k:=33418) r359_0 runs_nil)⟩
theorem g367:GoodQ 367 183:=⟨by decide+kernel,by decide,by decide,goodQ_of (n:=63949) (by decide) (runs_cons (lo:=0) (k:=50000) r367_0 (runs_cons (lo:=50000) (k:=13949) r367_50000 runs_nil))⟩
theorem g373:GoodQ 373 372:=⟨by decide+kernel,by decide,by decide,goodQ_of (n:=30953) (by decide) (runs_cons (lo:=0) (k:=30953) r373_0 runs_nil)⟩
theorem g379:GoodQ 379 378:=⟨by decide+kernel,by decide,by decide,goodQ_of (n:=29979) (by decide) (runs_cons (lo:=0) (k:=29979) r379_0 runs_nil)⟩
theorem g383:GoodQ 383 382:=⟨by decide+kernel,by decide,by decide,goodQ_of (n:=29356) (by decide) (runs_cons (lo:=0) (k:=29356) r383_0 runs_nil)⟩
theorem g389:GoodQ 389 388:=⟨by decide+kernel,by decide,by decide,goodQ_of (n:=28456) (by decide) (runs_cons (lo:=0) (k:=28456) r389_0 runs_nil)⟩
theorem g397:GoodQ 397 396:=⟨by decide+kernel,by decide,by decide,goodQ_of (n:=27319) (by decide) (runs_cons (lo:=0) (k:=27319) r397_0 runs_nil)⟩
theorem g401:GoodQ 401 400:=⟨by decide+kernel,by decide,by decide,goodQ_of (n:=26776) (by decide) (runs_cons (lo:=0) (k:=26776) r401_0 runs_nil)⟩
theorem g409:GoodQ 409 408:=⟨by decide+kernel,by decide,by decide,goodQ_of (n:=25738) (by decide) (runs_cons (lo:=0) (k:=25738) r409_0 runs_nil)⟩
theorem g419:GoodQ 419 418:=⟨by decide+kernel,by decide,by decide,goodQ_of (n:=24522) (by decide) (runs_cons (lo:=0) (k:=24522) r419_0 runs_nil)⟩
theorem g421:GoodQ 421 420:=⟨by decide+kernel,by decide,by decide,goodQ_of (n:=24290) (by decide) (runs_cons (lo:=0) (k:=24290) r421_0 runs_nil)⟩
theorem g431:GoodQ 431 430:=⟨by decide+kernel,by decide,by decide,goodQ_of (n:=23174) (by decide) (runs_cons (lo:=0) (k:=23174) r431_0 runs_nil)⟩
theorem g433:GoodQ 433 432:=⟨by decide+kernel,by decide,by decide,goodQ_of (n:=22960) (by decide) (runs_cons (lo:=0) (k:=22960) r433_0 runs_nil)⟩
theorem g439:GoodQ 439 73:=⟨by decide+kernel,by decide,by decide,goodQ_of (n:=134015) (by decide) (runs_cons (lo:=0) (k:=50000) r439_0 (runs_cons (lo:=50000) (k:=50000) r439_50000 (runs_cons (lo:=100000) (k:=34015) r439_100000 runs_nil)))⟩
theorem g443:GoodQ 443 442:=⟨by decide+kernel,by decide,by decide,goodQ_of (n:=21934) (by decide) (runs_cons (lo:=0) (k:=21934) r443_0 runs_nil)⟩
theorem g449:GoodQ 449 224:=⟨by decide+kernel,by decide,by decide,goodQ_of (n:=42702) (by decide) (runs_cons (lo:=0) (k:=42702) r449_0 runs_nil)⟩
theorem g457:GoodQ 457 456:=⟨by decide+kernel,by decide,by decide,goodQ_of (n:=20610) (by decide) (runs_cons (lo:=0) (k:=20610) r457_0 runs_nil)⟩
theorem g461:GoodQ 461 460:=⟨by decide+kernel,by decide,by decide,goodQ_of (n:=20253) (by decide) (runs_cons (lo:=0) (k:=20253) r461_0 runs_nil)⟩
theorem g463:GoodQ 463 462:=⟨by decide+kernel,by decide,by decide,goodQ_of (n:=20078) (by decide) (runs_cons (lo:=0) (k:=20078) r463_0 runs_nil)⟩
theorem g467:GoodQ 467 466:=⟨by decide+kernel,by decide,by decide,goodQ_of (n:=19735) (by decide) (runs_cons (lo:=0) (k:=19735) r467_0 runs_nil)⟩
theorem g479:GoodQ 479 239:=⟨by decide+kernel,by decide,by decide,goodQ_of (n:=37515) (by decide) (runs_cons (lo:=0) (k:=37515) r479_0 runs_nil)⟩
theorem g487:GoodQ 487 486:=⟨by decide+kernel,by decide,by decide,goodQ_of (n:=18146) (by decide) (runs_cons (lo:=0) (k:=18146) r487_0 runs_nil)⟩
theorem g491:GoodQ 491 490:=⟨by decide+kernel,by decide,by decide,goodQ_of (n:=17851) (by decide) (runs_cons (lo:=0) (k:=17851) r491_0 runs_nil)⟩
theorem g499:GoodQ 499 498:=⟨by decide+kernel,by decide,by decide,goodQ_of (n:=17283) (by decide) (runs_cons (lo:=0) (k:=17283) r499_0 runs_nil)⟩
theorem g503:GoodQ 503 251:=⟨by decide+kernel,by decide,by decide,goodQ_of (n:=34017) (by decide) (runs_cons (lo:=0) (k:=34017) r503_0 runs_nil)⟩
theorem g509:GoodQ 509 508:=⟨by decide+kernel,by decide,by decide,goodQ_of (n:=16610) (by decide) (runs_cons (lo:=0) (k:=16610) r509_0 runs_nil)⟩
theorem g521:GoodQ 521 520:=⟨by decide+kernel,by decide,by decide,goodQ_of (n:=15853) (by decide) (runs_cons (lo:=0) (k:=15853) r521_0 runs_nil)⟩
theorem g523:GoodQ 523 522:=⟨by decide+kernel,by decide,by decide,goodQ_of (n:=15732) (by decide) (runs_cons (lo:=0) (k:=15732) r523_0 runs_nil)⟩
theorem g541:GoodQ 541 540:=⟨by decide+kernel,by decide,by decide,goodQ_of (n:=14701) (by decide) (runs_cons (lo:=0) (k:=14701) r541_0 runs_nil)⟩
theorem g547:GoodQ 547 546:=⟨by decide+kernel,by decide,by decide,goodQ_of (n:=14380) (by decide) (runs_cons (lo:=0) (k:=14380) r547_0 runs_nil)⟩
theorem g557:GoodQ 557 556:=⟨by decide+kernel,by decide,by decide,goodQ_of (n:=13868) (by decide) (runs_cons (lo:=0) (k:=13868) r557_0 runs_nil)⟩
theorem g563:GoodQ 563 562:=⟨by decide+kernel,by decide,by decide,goodQ_of (n:=13574) (by decide) (runs_cons (lo:=0) (k:=13574) r563_0 runs_nil)⟩
theorem g569:GoodQ 569 284:=⟨by decide+kernel,by decide,by decide,goodQ_of (n:=26577) (by decide) (runs_cons (lo:=0) (k:=26577) r569_0 runs_nil)⟩
theorem g571:GoodQ 571 570:=⟨by decide+kernel,by decide,by decide,goodQ_of (n:=13196) (by decide) (runs_cons (lo:=0) (k:=13196) r571_0 runs_nil)⟩
theorem g577:GoodQ 577 576:=⟨by decide+kernel,by decide,by decide,goodQ_of (n:=12922) (by decide) (runs_cons (lo:=0) (k:=12922) r577_0 runs_nil)⟩
theorem g587:GoodQ 587 586:=⟨by decide+kernel,by decide,by decide,goodQ_of (n:=12486) (by decide) (runs_cons (lo:=0) (k:=12486) r587_0 runs_nil)⟩
theorem g593:GoodQ 593 592:=⟨by decide+kernel,by decide,by decide,goodQ_of (n:=12234) (by decide) (runs_cons (lo:=0) (k:=12234) r593_0 runs_nil)⟩
theorem g599:GoodQ 599 598:=⟨by decide+kernel,by decide,by decide,goodQ_of (n:=11990) (by decide) (runs_cons (lo:=0) (k:=11990) r599_0 runs_nil)⟩
theorem g601:GoodQ 601 600:=⟨by decide+kernel,by decide,by decide,goodQ_of (n:=11910) (by decide) (runs_cons (lo:=0) (k:=11910) r601_0 runs_nil)⟩
theorem g607:GoodQ 607 303:=⟨by decide+kernel,by decide,by decide,goodQ_of (n:=23351) (by decide) (runs_cons (lo:=0) (k:=23351) r607_0 runs_nil)⟩
theorem g613:GoodQ 613 612:=⟨by decide+kernel,by decide,by decide,goodQ_of (n:=11448) (by decide) (runs_cons (lo:=0) (k:=11448) r613_0 runs_nil)⟩
theorem g617:GoodQ 617 616:=⟨by decide+kernel,by decide,by decide,goodQ_of (n:=11300) (by decide) (runs_cons (lo:=0) (k:=11300) r617_0 runs_nil)⟩
theorem g619:GoodQ 619 618:=⟨by decide+kernel,by decide,by decide,goodQ_of (n:=11227) (by decide) (runs_cons (lo:=0) (k:=11227) r619_0 runs_nil)⟩
theorem g631:GoodQ 631 630:=⟨by decide+kernel,by decide,by decide,goodQ_of (n:=10804) (by decide) (runs_cons (lo:=0) (k:=10804) r631_0 runs_nil)⟩
theorem g641:GoodQ 641 640:=⟨by decide+kernel,by decide,by decide,goodQ_of (n:=10469) (by decide) (runs_cons (lo:=0) (k:=10469) r641_0 runs_nil)⟩
theorem g643:GoodQ 643 642:=⟨by decide+kernel,by decide,by decide,goodQ_of (n:=10404) (by decide) (runs_cons (lo:=0) (k:=10404) r643_0 runs_nil)⟩
theorem g647:GoodQ 647 646:=⟨by decide+kernel,by decide,by decide,goodQ_of (n:=10275) (by decide) (runs_cons (lo:=0) (k:=10275) r647_0 runs_nil)⟩
theorem g653:GoodQ 653 652:=⟨by decide+kernel,by decide,by decide,goodQ_of (n:=10087) (by decide) (runs_cons (lo:=0) (k:=10087) r653_0 runs_nil)⟩
theorem g659:GoodQ 659 658:=⟨by decide+kernel,by decide,by decide,goodQ_of (n:=9904) (by decide) (runs_cons (lo:=0) (k:=9904) r659_0 runs_nil)⟩
theorem g661:GoodQ 661 660:=⟨by decide+kernel,by decide,by decide,goodQ_of (n:=9844) (by decide) (runs_cons (lo:=0) (k:=9844) r661_0 runs_nil)⟩
theorem g673:GoodQ 673 672:=⟨by decide+kernel,by decide,by decide,goodQ_of (n:=9496) (by decide) (runs_cons (lo:=0) (k:=9496) r673_0 runs_nil)⟩
theorem g677:GoodQ 677 676:=⟨by decide+kernel,by decide,by decide,goodQ_of (n:=9384) (by decide) (runs_cons (lo:=0) (k:=9384) r677_0 runs_nil)⟩
theorem g683:GoodQ 683 682:=⟨by decide+kernel,by decide,by decide,goodQ_of (n:=9220) (by decide) (runs_cons (lo:=0) (k:=9220) r683_0 runs_nil)⟩
theorem g691:GoodQ 691 690:=⟨by decide+kernel,by decide,by decide,goodQ_of (n:=9008) (by decide) (runs_cons (lo:=0) (k:=9008) r691_0 runs_nil)⟩
theorem g701:GoodQ 701 700:=⟨by decide+kernel,by decide,by decide,goodQ_of (n:=8752) (by decide) (runs_cons (lo:=0) (k:=8752) r701_0 runs_nil)⟩
theorem g709:GoodQ 709 708:=⟨by decide+kernel,by decide,by decide,goodQ_of (n:=8556) (by decide) (runs_cons (lo:=0) (k:=8556) r709_0 runs_nil)⟩
theorem g719:GoodQ 719 359:=⟨by decide+kernel,by decide,by decide,goodQ_of (n:=16638) (by decide) (runs_cons (lo:=0) (k:=16638) r719_0 runs_nil)⟩
theorem g727:GoodQ 727 363:=⟨by decide+kernel,by decide,by decide,goodQ_of (n:=16273) (by decide) (runs_cons (lo:=0) (k:=16273) r727_0 runs_nil)⟩
theorem g733:GoodQ 733 732:=⟨by decide+kernel,by decide,by decide,goodQ_of (n:=8004) (by decide) (runs_cons (lo:=0) (k:=8004) r733_0 runs_nil)⟩
theorem g739:GoodQ 739 738:=⟨by decide+kernel,by decide,by decide,goodQ_of (n:=7875) (by decide) (runs_cons (lo:=0) (k:=7875) r739_0 runs_nil)⟩
theorem g743:GoodQ 743 742:=⟨by decide+kernel,by decide,by decide,goodQ_of (n:=7790) (by decide) (runs_cons (lo:=0) (k:=7790) r743_0 runs_nil)⟩
theorem g751:GoodQ 751 750:=⟨by decide+kernel,by decide,by decide,goodQ_of (n:=7625) (by decide) (runs_cons (lo:=0) (k:=7625) r751_0 runs_nil)⟩
theorem g757:GoodQ 757 756:=⟨by decide+kernel,by decide,by decide,goodQ_of (n:=7504) (by decide) (runs_cons (lo:=0) (k:=7504) r757_0 runs_nil)⟩
theorem g761:GoodQ 761 760:=⟨by decide+kernel,by decide,by decide,goodQ_of (n:=7426) (by decide) (runs_cons (lo:=0) (k:=7426) r761_0 runs_nil)⟩
theorem g769:GoodQ 769 768:=⟨by decide+kernel,by decide,by decide,goodQ_of (n:=7272) (by decide) (runs_cons (lo:=0) (k:=7272) r769_0 runs_nil)⟩
theorem g773:GoodQ 773 772:=⟨by decide+kernel,by decide,by decide,goodQ_of (n:=7197) (by decide) (runs_cons (lo:=0) (k:=7197) r773_0 runs_nil)⟩
theorem g787:GoodQ 787 786:=⟨by decide+kernel,by decide,by decide,goodQ_of (n:=6943) (by decide) (runs_cons (lo:=0) (k:=6943) r787_0 runs_nil)⟩
theorem g797:GoodQ 797 796:=⟨by decide+kernel,by decide,by decide,goodQ_of (n:=6769) (by decide) (runs_cons (lo:=0) (k:=6769) r797_0 runs_nil)⟩
theorem g809:GoodQ 809 404:=⟨by decide+kernel,by decide,by decide,goodQ_of (n:=13140) (by decide) (runs_cons (lo:=0) (k:=13140) r809_0 runs_nil)⟩
theorem g811:GoodQ 811 810:=⟨by decide+kernel,by decide,by decide,goodQ_of (n:=6538) (by decide) (runs_cons (lo:=0) (k:=6538) r811_0 runs_nil)⟩
theorem g821:GoodQ 821 820:=⟨by decide+kernel,by decide,by decide,goodQ_of (n:=6379) (by decide) (runs_cons (lo:=0) (k:=6379) r821_0 runs_nil)⟩
theorem g823:GoodQ 823 822:=⟨by decide+kernel,by decide,by decide,goodQ_of (n:=6348) (by decide) (runs_cons (lo:=0) (k:=6348) r823_0 runs_nil)⟩
theorem g827:GoodQ 827 826:=⟨by decide+kernel,by decide,by decide,goodQ_of (n:=6287) (by decide) (runs_cons (lo:=0) (k:=6287) r827_0 runs_nil)⟩
theorem g829:GoodQ 829 828:=⟨by decide+kernel,by decide,by decide,goodQ_of (n:=6257) (by decide) (runs_cons (lo:=0) (k:=6257) r829_0 runs_nil)⟩
theorem g839:GoodQ 839 419:=⟨by decide+kernel,by decide,by decide,goodQ_of (n:=12216) (by decide) (runs_cons (lo:=0) (k:=12216) r839_0 runs_nil)⟩
theorem g853:GoodQ 853 852:=⟨by decide+kernel,by decide,by decide,goodQ_of (n:=5909) (by decide) (runs_cons (lo:=0) (k:=5909) r853_0 runs_nil)⟩
theorem g857:GoodQ 857 856:=⟨by decide+kernel,by decide,by decide,goodQ_of (n:=5854) (by decide) (runs_cons (lo:=0) (k:=5854) r857_0 runs_nil)⟩
theorem g859:GoodQ 859 858:=⟨by decide+kernel,by decide,by decide,goodQ_of (n:=5827) (by decide) (runs_cons (lo:=0) (k:=5827) r859_0 runs_nil)⟩
theorem g863:GoodQ 863 862:=⟨by decide+kernel,by decide,by decide,goodQ_of (n:=5773) (by decide) (runs_cons (lo:=0) (k:=5773) r863_0 runs_nil)⟩
theorem g877:GoodQ 877 876:=⟨by decide+kernel,by decide,by decide,goodQ_of (n:=5590) (by decide) (runs_cons (lo:=0) (k:=5590) r877_0 runs_nil)⟩
theorem g881:GoodQ 881 880:=⟨by decide+kernel,by decide,by decide,goodQ_of (n:=5539) (by decide) (runs_cons (lo:=0) (k:=5539) r881_0 runs_nil)⟩
theorem g883:GoodQ 883 882:=⟨by decide+kernel,by decide,by decide,goodQ_of (n:=5514) (by decide) (runs_cons (lo:=0) (k:=5514) r883_0 runs_nil)⟩
theorem g887:GoodQ 887 886:=⟨by decide+kernel,by decide,by decide,goodQ_of (n:=5465) (by decide) (runs_cons (lo:=0) (k:=5465) r887_0 runs_nil)⟩
theorem g907:GoodQ 907 906:=⟨by decide+kernel,by decide,by decide,goodQ_of (n:=5226) (by decide) (runs_cons (lo:=0) (k:=5226) r907_0 runs_nil)⟩
theorem g911:GoodQ 911 182:=⟨by decide+kernel,by decide,by decide,goodQ_of (n:=25900) (by decide) (runs_cons (lo:=0) (k:=25900) r911_0 runs_nil)⟩
theorem g919:GoodQ 919 918:=⟨by decide+kernel,by decide,by decide,goodQ_of (n:=5090) (by decide) (runs_cons (lo:=0) (k:=5090) r919_0 runs_nil)⟩
theorem g929:GoodQ 929 928:=⟨by decide+kernel,by decide,by decide,goodQ_of (n:=4981) (by decide) (runs_cons (lo:=0) (k:=4981) r929_0 runs_nil)⟩
theorem g937:GoodQ 937 936:=⟨by decide+kernel,by decide,by decide,goodQ_of (n:=4897) (by decide) (runs_cons (lo:=0) (k:=4897) r937_0 runs_nil)⟩
theorem g941:GoodQ 941 940:=⟨by decide+kernel,by decide,by decide,goodQ_of (n:=4855) (by decide) (runs_cons (lo:=0) (k:=4855) r941_0 runs_nil)⟩
theorem g947:GoodQ 947 946:=⟨by decide+kernel,by decide,by decide,goodQ_of (n:=4794) (by decide) (runs_cons (lo:=0) (k:=4794) r947_0 runs_nil)⟩
theorem g953:GoodQ 953 952:=⟨by decide+kernel,by decide,by decide,goodQ_of (n:=4734) (by decide) (runs_cons (lo:=0) (k:=4734) r953_0 runs_nil)⟩
theorem g967:GoodQ 967 966:=⟨by decide+kernel,by decide,by decide,goodQ_of (n:=4597) (by decide) (runs_cons (lo:=0) (k:=4597) r967_0 runs_nil)⟩
theorem g971:GoodQ 971 970:=⟨by decide+kernel,by decide,by decide,goodQ_of (n:=4560) (by decide) (runs_cons (lo:=0) (k:=4560) r971_0 runs_nil)⟩
theorem g977:GoodQ 977 488:=⟨by decide+kernel,by decide,by decide,goodQ_of (n:=9007) (by decide) (runs_cons (lo:=0) (k:=9007) r977_0 runs_nil)⟩
theorem g983:GoodQ 983 982:=⟨by decide+kernel,by decide,by decide,goodQ_of (n:=4449) (by decide) (runs_cons (lo:=0) (k:=4449) r983_0 runs_nil)⟩
theorem g991:GoodQ 991 990:=⟨by decide+kernel,by decide,by decide,goodQ_of (n:=4377) (by decide) (runs_cons (lo:=0) (k:=4377) r991_0 runs_nil)⟩
theorem g997:GoodQ 997 996:=⟨by decide+kernel,by decide,by decide,goodQ_of (n:=4325) (by decide) (runs_cons (lo:=0) (k:=4325) r997_0 runs_nil)⟩
def tblS:List (Nat×Nat):=[(67,66),(71,70),(73,72),(79,78),(83,82),(89,88),(97,96),(101,100),(103,51),(107,106),(109,108),(113,56),(127,126),(131,130),(137,68),(139,138),(149,148),(151,150),(157,156),(163,162),(167,83),(173,172),(179,178),(181,180),(191,190),(193,192),(197,196),(199,99),(211,210),(223,222),(227,226),(229,228),(233,232),(239,238),(241,240),(251,250),(257,256),(263,262),(269,268),(271,135),(277,276),(281,280),(283,282),(293,292),(307,306),(311,310),(313,312),(317,316),(331,330),(337,336),(347,346),(349,348),(353,352),(359,358),(367,183),(373,372),(379,378),(383,382),(389,388),(397,396),(401,400),(409,408),(419,418),(421,420),(431,430),(433,432),(439,73),(443,442),(449,224),(457,456),(461,460),(463,462),(467,466),(479,239),(487,486),(491,490),(499,498),(503,251),(509,508),(521,520),(523,522),(541,540),(547,546),(557,556),(563,562),(569,284),(571,570),(577,576),(587,586),(593,592),(599,598),(601,600),(607,303),(613,612),(617,616),(619,618),(631,630),(641,640),(643,642),(647,646),(653,652),(659,658),(661,660),(673,672),(677,676),(683,682),(691,690),(701,700),(709,708),(719,359),(727,363),(733,732),(739,738),(743,742),(751,750),(757,756),(761,760),(769,768),(773,772),(787,786),(797,796),(809,404),(811,810),(821,820),(823,822),(827,826),(829,828),(839,419),(853,852),(857,856),(859,858),(863,862),(877,876),(881,880),(883,882),(887,886),(907,906),(911,182),(919,918),(929,928),(937,936),(941,940),(947,946),(953,952),(967,966),(971,970),(977,488),(983,982),(991,990),(997,996)]
theorem tblS_all:∀x∈tblS,GoodQ x.1 x.2:=by
 intro x hx
 simp only[tblS,List.mem_cons,List.not_mem_nil,or_false]at hx
 rcases hx with rfl|rfl|rfl|rfl|rfl|rfl|rfl|rfl|rfl|rfl|rfl|rfl|rfl|rfl|rfl|rfl|rfl|rfl|rfl|rfl|rfl|rfl|rfl|rfl|rfl|rfl|rfl|rfl|rfl|rfl|rfl|rfl|rfl|rfl|rfl|rfl|rfl|rfl|rfl|rfl|rfl|rfl|rfl|rfl|rfl|rfl|rfl|rfl|rfl|rfl|rfl|rfl|rfl|rfl|rfl|rfl|rfl|rfl|rfl|rfl|rfl|rfl|rfl|rfl|rfl|rfl|rfl|rfl|rfl|rfl|rfl|rfl|rfl|rfl|rfl|rfl|rfl|rfl|rfl|rfl|rfl|rfl|rfl|rfl|rfl|rfl|rfl|rfl|rfl|rfl|rfl|rfl|rfl|rfl|rfl|rfl|rfl|rfl|rfl|rfl|rfl|rfl|rfl|rfl|rfl|rfl|rfl|rfl|rfl|rfl|rfl|rfl|rfl|rfl|rfl|rfl|rfl|rfl|rfl|rfl|rfl|rfl|rfl|rfl|rfl|rfl|rfl|rfl|rfl|rfl|rfl|rfl|rfl|rfl|rfl|rfl|rfl|rfl|rfl|rfl|rfl|rfl|rfl|rfl|rfl|rfl|rfl|rfl|rfl|rfl
 ·exact g67
 ·exact g71
 ·exact g73
 ·exact g79
 ·exact g83
 ·exact g89
 ·exact g97
 ·exact g101
 ·exact g103
 ·exact g107
 ·exact g109
 ·exact g113
 ·exact g127
 ·exact g131
 ·exact g137
 ·exact g139
 ·exact g149
 ·exact g151
 ·exact g157
 ·exact g163
 ·exact g167
 ·exact g173
 ·exact g179
 ·exact g181
 ·exact g191
 ·exact g193
 ·exact g197
 ·exact g199
 ·exact g211
 ·exact g223
 ·exact g227
 ·exact g229
 ·exact g233
 ·exact g239
 ·exact g241
 ·exact g251
 ·exact g257
 ·exact g263
 ·exact g269
 ·exact g271
 ·exact g277
 ·exact g281
 ·exact g283
 ·exact g293
 ·exact g307
 ·exact g311
 ·exact g313
 ·exact g317
 ·exact g331
 ·exact g337
 ·exact g347
 ·exact g349
 ·exact g353
 ·exact g359
 ·exact g367
 ·exact g373
 ·exact g379
 ·exact g383
 ·exact g389
 ·exact g397
 ·exact g401
 ·exact g409
 ·exact g419
 ·exact g421
 ·exact g431
 ·exact g433
 ·exact g439
 ·exact g443
 ·exact g449
 ·exact g457
 ·exact g461
 ·exact g463
 ·exact g467
 ·exact g479
 ·exact g487
 ·exact g491
 ·exact g499
 ·exact g503
 ·exact g509
 ·exact g521
 ·exact g523
 ·exact g541
 ·exact g547
 ·exact g557
 ·exact g563
 ·exact g569
 ·exact g571
 ·exact g577
 ·exact g587
 ·exact g593
 ·exact g599
 ·exact g601
 ·exact g607
 ·exact g613
 ·exact g617
 ·exact g619
 ·exact g631
 ·exact g641
 ·exact g643
 ·exact g647
 ·exact g653
 ·exact g659
 ·exact g661
 ·exact g673
 ·exact g677
 ·exact g683
 ·exact g691
 ·exact g701
 ·exact g709
 ·exact g719
 ·exact g727
 ·exact g733
 ·exact g739
 ·exact g743
 ·exact g751
 ·exact g757
 ·exact g761
 ·exact g769
 ·exact g773
 ·exact g787
 ·exact g797
 ·exact g809
 ·exact g811
 ·exact g821
 ·exact g823
 ·exact g827
 ·exact g829
 ·exact g839
 ·exact g853
 ·exact g857
 ·exact g859
 ·exact g863
 ·exact g877
 ·exact g881
 ·exact g883
 ·exact g887
 ·exact g907
 ·exact g911
 ·exact g919
 ·exact g929
 ·exact g937
 ·exact g941
 ·exact g947
 ·exact g953
 ·exact g967
 ·exact g971
 ·exact g977
 ·exact g983
 ·exact g991
 ·exact g997
theorem tblS_has:((List.range 938).all fun i=>Nat.gcd (62+i) 117288381359406970983270 != 1||tblS.any fun x=>x.1==62+i)=true:=by decide+kernel
theorem smallQ {q:Nat} (hp:PrimeN q) (h0:62≤q) (h1:q<1000):∃L,GoodQ q L:=by
 have h:=List.all_eq_true.1 tblS_has (q - 62) (List.mem_range.2 (by omega))
 rw[show 62+(q - 62)=q from by omega]at h
 rw[Bool.or_eq_true]at h
 rcases h with h|h
 ·rw[prime_cop61 hp h0]at h;cases h
 ·obtain⟨x,hx,he⟩:=List.any_eq_true.1 h
  have:=tblS_all x hx
  rw[beq_iff_eq.1 he]at this
  exact⟨_,this⟩
end Go.Proofs.YtjofnbpcanhfhaaGreatDoor
