/- The texts Shelf, Ha, Hb, Pa, Hc, Hd, Ja, Na, Nb, Nc, Nd, Ne, Jb, Ta, Tb, Tc, Ka, Kb, Kc, Kd, Ke, Kg, Kf, Kh, Ra, Rb, Rc, Rd, Aa, Re, Rf, Td, Te, Tf, Rg, Kk, Kl, Ki, Km, Kn, Ko, Kp, Kq, Kr, Kw, Ia, Os, Fb, Oa, Ob, Of, Oh, Oc, Od. -/
import Derived.Shelf.Strings.Builder1
import Derived.Shelf.Strings.Builder2
import Derived.Shelf.Strings.OnBuilder
import Derived.Shelf.Small.Bits
import Derived.Shelf.Strings.BuilderF
import Derived.Shelf.Strings.Builder2Cap
import Derived.Shelf.Strconv.Itoa0
import Derived.Shelf.Strconv.Itoa1
import Derived.Shelf.LaysM
import Derived.Shelf.Strconv.Itoa2
import Derived.Shelf.Strconv.Itoa3
import Derived.Shelf.Strings.Prefix
import Derived.Shelf.Bits.Mul64
import Derived.Shelf.Strings.Repeat
import Derived.Ground.Names2Prog
import Derived.Shelf.Slices.ReverseS
import Derived.Shelf.Slices.Cells
import Derived.Test.YtjknedoaofjnbaaGreatDoorProg
import Derived.Lib.Walk
import Derived.Lib.ItoaMem
import Derived.Lib.AppendIntMem
import Derived.WalkKit
import Derived.BigCall
import Derived.BigGuard
import Derived.Test.YtjknedoaofjnbaaGreatDoorQLBareissSylvester3
namespace Go.Proofs
open Go.Shelf
def Tryz.lays156_ren:Go.Shelf.Ren:=⟨fun|156=>92|165=>160|166=>161|169=>162|240=>209|241=>210|276=>237|277=>238|n=>n,fun|31=>161|9=>9|3=>3|4=>4|0=>0|20=>20|72=>213|76=>217|70=>211|37=>83|75=>216|127=>265|164=>289|5=>5|80=>219|n=>n,fun|n=>n⟩
theorem Tryz.lays156:Go.Proofs.Lays.n156 Tryz.prog Tryz.lays156_ren:={
 mixed:=by kernel_rfl
 f156:=Tryz.func92.trans (congrArg some (by kernel_rfl))
 f165:=Tryz.func160.trans (congrArg some (by kernel_rfl))
 f166:=Tryz.func161.trans (congrArg some (by kernel_rfl))
 f169:=Tryz.func162.trans (congrArg some (by kernel_rfl))
 f240:=Tryz.func209.trans (congrArg some (by kernel_rfl))
 f241:=Tryz.func210.trans (congrArg some (by kernel_rfl))
 f276:=Tryz.func237.trans (congrArg some (by kernel_rfl))
 f277:=Tryz.func238.trans (congrArg some (by kernel_rfl))
 t0:=Tryz.underlying0
 a0:=Tryz.isAgg0
 z0:=Tryz.sizeOf0
 v0:=Tryz.zeroValue0
 t3:=Tryz.underlying3
 a3:=Tryz.isAgg3
 z3:=Tryz.sizeOf3
 v3:=Tryz.zeroValue3
 t4:=Tryz.underlying4
 a4:=Tryz.isAgg4
 z4:=Tryz.sizeOf4
 v4:=Tryz.zeroValue4
 t9:=Tryz.underlying9
 a9:=Tryz.isAgg9
 z9:=Tryz.sizeOf9
 v9:=Tryz.zeroValue9
 t20:=Tryz.underlying20
 a20:=Tryz.isAgg20
 z20:=Tryz.sizeOf20
 v20:=Tryz.zeroValue20
 t31:=Tryz.underlying161
 a31:=Tryz.isAgg161
 z31:=Tryz.sizeOf161
 v31:=Tryz.zeroValue161
 t37:=Tryz.underlying83
 a37:=Tryz.isAgg83
 z37:=Tryz.sizeOf83
 v37:=Tryz.zeroValue83
 t70:=Tryz.underlying211
 a70:=Tryz.isAgg211
 z70:=Tryz.sizeOf211
 v70:=Tryz.zeroValue211
 t72:=Tryz.underlying213
 a72:=Tryz.isAgg213
 z72:=Tryz.sizeOf213
 v72:=Tryz.zeroValue213
 t75:=Tryz.underlying216
 a75:=Tryz.isAgg216
 z75:=Tryz.sizeOf216
 v75:=Tryz.zeroValue216
 t76:=Tryz.underlying217
 a76:=Tryz.isAgg217
 z76:=Tryz.sizeOf217
 v76:=Tryz.zeroValue217
 t127:=Tryz.underlying265
 a127:=Tryz.isAgg265
 z127:=Tryz.sizeOf265
 v127:=Tryz.zeroValue265
 t164:=Tryz.underlying289
 a164:=Tryz.isAgg289
 z164:=Tryz.sizeOf289
 v164:=Tryz.zeroValue289}
theorem Tryz.Builder_Extra_156:Builder.Extra Tryz.prog Tryz.lays156_ren:={
 sizeBuilder:=by kernel_rfl
 liesBuilder:=by kernel_rfl
 t5:=Tryz.underlying5
 a5:=Tryz.isAgg5
 z5:=Tryz.sizeOf5
 v5:=Tryz.zeroValue5
 infoByte:=by kernel_rfl
 cellsByte:=by kernel_rfl
 sizeByte:=by kernel_rfl
 neB5:=by decide}
open Go.RowKit in
theorem Tryz.strings_Join_none (a:Option Addr) (c:Nat) (sep:ByteArray) (w:World):
  Calls Tryz.prog 92 #[.slice a 0 c,.string sep] w fun e w'=>e= .returned (.string ⟨#[]⟩)∧w'=w:=Any.strings_Join_none Tryz.lays156 Tryz.Builder_Extra_156 a c sep w
open Go.RowKit in
/-- strings.Join: "Join concatenates the elements of its first argument to create a single string. The separator string sep is placed between elements in the resulting string.": HOWEVER MANY ELEMENTS. Below the heap's end the world is as it was. (LAID: no walk: one application.) -/
theorem Tryz.strings_Join (bk o c:Nat) (xs:List ByteArray) (sep:ByteArray) (w:World) (hcells:∀(j:Nat) x,xs[j]? =some x→w.cell? ⟨bk,o+j,none⟩=some (.string x)) (hbk:bk<w.heap.size) (hN:xs.length≤140737488355328) (hcap:xs.length≤c) (hlen:(Lib.join (xs.map (·.data.toList)) sep.data.toList).length≤140737488355328):
  Calls Tryz.prog 92 #[.slice (some ⟨bk,o,none⟩) xs.length c,.string sep] w fun e w'=>e= .returned (.string ⟨(Lib.join (xs.map (·.data.toList)) sep.data.toList).toArray⟩)∧Below w.heap.size w w':=Any.strings_Join Tryz.lays156 Tryz.Builder_Extra_156 bk o c xs sep w hcells hbk hN hcap hlen
def Tryz.lays283_ren:Go.Shelf.Ren:=⟨fun|283=>249|n=>n,fun|3=>3|9=>9|4=>4|n=>n,fun|n=>n⟩
theorem Tryz.lays283:Go.Proofs.Lays.n283 Tryz.prog Tryz.lays283_ren:={
 mixed:=by kernel_rfl
 f283:=Tryz.func249.trans (congrArg some (by kernel_rfl))
 t3:=Tryz.underlying3
 a3:=Tryz.isAgg3
 z3:=Tryz.sizeOf3
 v3:=Tryz.zeroValue3
 t4:=Tryz.underlying4
 a4:=Tryz.isAgg4
 z4:=Tryz.sizeOf4
 v4:=Tryz.zeroValue4
 t9:=Tryz.underlying9
 a9:=Tryz.isAgg9
 z9:=Tryz.sizeOf9
 v9:=Tryz.zeroValue9}
open Go.Lib in
/-- internal/strconv.small: "small returns the string for an i with 0 <= i < nSmalls.": i's decimal numeral. The world is as it was. (LAID: no walk: one application.) -/
theorem Tryz.internal_strconv_small (i:Nat) (h:i<100) (w:World):
  Calls Tryz.prog 249 #[.int .i64 i] w fun e w'=>e= .returned (.string ⟨(Lib.decDigits i).toArray⟩)∧w'=w:=Any.internal_strconv_small Tryz.lays283 i h w
def Tryz.laysM284_ren:Go.Shelf.Ren:=⟨fun|284=>250|129=>257|317=>256|318=>258|n=>n,fun|53=>45|3=>3|212=>307|0=>0|4=>4|46=>234|5=>5|9=>9|n=>n,fun|17=>2|n=>n⟩
theorem Tryz.laysM284:Go.Proofs.LaysM.n284 Tryz.prog Tryz.laysM284_ren:={
 mixed:=by kernel_rfl
 f129:=Tryz.func257.trans (congrArg some (by kernel_rfl))
 f284:=Tryz.func250.trans (congrArg some (by kernel_rfl))
 f317:=Tryz.func256.trans (congrArg some (by kernel_rfl))
 f318:=Tryz.func258.trans (congrArg some (by kernel_rfl))
 t0:=Tryz.underlying0
 a0:=Tryz.isAgg0
 z0:=Tryz.sizeOf0
 v0:=Tryz.zeroValue0
 t3:=Tryz.underlying3
 a3:=Tryz.isAgg3
 z3:=Tryz.sizeOf3
 v3:=Tryz.zeroValue3
 t4:=Tryz.underlying4
 a4:=Tryz.isAgg4
 z4:=Tryz.sizeOf4
 v4:=Tryz.zeroValue4
 t5:=Tryz.underlying5
 a5:=Tryz.isAgg5
 z5:=Tryz.sizeOf5
 v5:=Tryz.zeroValue5
 t9:=Tryz.underlying9
 a9:=Tryz.isAgg9
 z9:=Tryz.sizeOf9
 v9:=Tryz.zeroValue9
 t46:=Tryz.underlying234
 a46:=Tryz.isAgg234
 z46:=Tryz.sizeOf234
 v46:=Tryz.zeroValue234
 t53:=Tryz.underlying45
 a53:=Tryz.isAgg45
 z53:=Tryz.sizeOf45
 v53:=Tryz.zeroValue45
 t212:=Tryz.underlying307
 a212:=Tryz.isAgg307
 z212:=Tryz.sizeOf307
 v212:=Tryz.zeroValue307
 g17:=by kernel_rfl
 i0:=by kernel_rfl
 i3:=by kernel_rfl
 i4:=by kernel_rfl
 i5:=by kernel_rfl
 i9:=by kernel_rfl
 i46:=by kernel_rfl
 i53:=by kernel_rfl
 i212:=by kernel_rfl
 m17:=by kernel_rfl}
open Go.Lib in
theorem Tryz.internal_strconv_numDigits (u:Nat) (h1:1≤u) (h2:u<18446744073709551616) (w:World) (htab:Lib.TabIs Tryz.prog w "internal/strconv.uint64pow10" .u64 Lib.pow10Tab):
  Calls Tryz.prog 250 #[.int .u64 u] w fun e w'=>e= .returned (.int .i64 (Lib.nDigits u))∧w'=w:=Any.internal_strconv_numDigits Tryz.laysM284 u h1 h2 w htab
def Tryz.lays285_ren:Go.Shelf.Ren:=⟨fun|285=>251|n=>n,fun|37=>83|53=>45|3=>3|4=>4|51=>87|9=>9|5=>5|0=>0|n=>n,fun|n=>n⟩
theorem Tryz.lays285:Go.Proofs.Lays.n285 Tryz.prog Tryz.lays285_ren:={
 mixed:=by kernel_rfl
 f285:=Tryz.func251.trans (congrArg some (by kernel_rfl))
 t0:=Tryz.underlying0
 a0:=Tryz.isAgg0
 z0:=Tryz.sizeOf0
 v0:=Tryz.zeroValue0
 t3:=Tryz.underlying3
 a3:=Tryz.isAgg3
 z3:=Tryz.sizeOf3
 v3:=Tryz.zeroValue3
 t4:=Tryz.underlying4
 a4:=Tryz.isAgg4
 z4:=Tryz.sizeOf4
 v4:=Tryz.zeroValue4
 t5:=Tryz.underlying5
 a5:=Tryz.isAgg5
 z5:=Tryz.sizeOf5
 v5:=Tryz.zeroValue5
 t9:=Tryz.underlying9
 a9:=Tryz.isAgg9
 z9:=Tryz.sizeOf9
 v9:=Tryz.zeroValue9
 t37:=Tryz.underlying83
 a37:=Tryz.isAgg83
 z37:=Tryz.sizeOf83
 v37:=Tryz.zeroValue83
 t51:=Tryz.underlying87
 a51:=Tryz.isAgg87
 z51:=Tryz.sizeOf87
 v51:=Tryz.zeroValue87
 t53:=Tryz.underlying45
 a53:=Tryz.isAgg45
 z53:=Tryz.sizeOf45
 v53:=Tryz.zeroValue45}
open Go.RowKit Go.Sort Go.Lib in
/-- internal/strconv.formatBase10: "formatBase10 formats the decimal representation of u into a. The caller is responsible for ensuring that a is big enough to hold u. If a is too big, leading zeros will be filled in as needed.": THE ROW HOLDS u's DIGITS ('FmtInv .. 0 ..': every place t holds 'dg u (len - 1 - t)'); all else is as it was but for the count of draws. (LAID: no walk: one application.) -/
theorem Tryz.internal_strconv_formatBase10 (blk off cap:Nat) (u:Nat) (d:Array UInt8) (w:World) (hH:Holds (fun(b:UInt8)=>Value.int .u8 (b.toNat:Int)) w blk off d) (hu:u<10^d.size) (hu64:u<18446744073709551616) (hsz:d.size<4611686018427387904):
  Calls Tryz.prog 251 #[.slice (some ⟨blk,off,none⟩) d.size cap,.int .u64 u] w fun e w'=>
   e= .returned (.tuple #[])∧∃(n v':Nat) (dk:Array UInt8),w'=(putRow (fun(b:UInt8)=>Value.int .u8 (b.toNat:Int)) w blk off dk).drewN n∧FmtInv d.size u 0 v' dk:=Any.internal_strconv_formatBase10 Tryz.lays285 blk off cap u d w hH hu hu64 hsz
def Tryz.laysM171_ren:Go.Shelf.Ren:=⟨fun|171=>213|243=>240|246=>253|283=>249|284=>250|285=>251|286=>252|129=>257|317=>256|318=>258|319=>259|320=>260|337=>261|338=>262|n=>n,fun|3=>3|9=>9|2=>2|4=>4|171=>299|0=>0|53=>45|37=>83|5=>5|173=>302|212=>307|51=>87|20=>20|213=>308|46=>234|232=>310|233=>311|n=>n,fun|17=>2|18=>3|19=>4|n=>n⟩
theorem Tryz.laysM171:Go.Proofs.LaysM.n171 Tryz.prog Tryz.laysM171_ren:={
 mixed:=by kernel_rfl
 f129:=Tryz.func257.trans (congrArg some (by kernel_rfl))
 f171:=Tryz.func213.trans (congrArg some (by kernel_rfl))
 f243:=Tryz.func240.trans (congrArg some (by kernel_rfl))
 f246:=Tryz.func253.trans (congrArg some (by kernel_rfl))
 f283:=Tryz.func249.trans (congrArg some (by kernel_rfl))
 f284:=Tryz.func250.trans (congrArg some (by kernel_rfl))
 f285:=Tryz.func251.trans (congrArg some (by kernel_rfl))
 f286:=Tryz.func252.trans (congrArg some (by kernel_rfl))
 f317:=Tryz.func256.trans (congrArg some (by kernel_rfl))
 f318:=Tryz.func258.trans (congrArg some (by kernel_rfl))
 f319:=Tryz.func259.trans (congrArg some (by kernel_rfl))
 f320:=Tryz.func260.trans (congrArg some (by kernel_rfl))
 f337:=Tryz.func261.trans (congrArg some (by kernel_rfl))
 f338:=Tryz.func262.trans (congrArg some (by kernel_rfl))
 t0:=Tryz.underlying0
 a0:=Tryz.isAgg0
 z0:=Tryz.sizeOf0
 v0:=Tryz.zeroValue0
 t2:=Tryz.underlying2
 a2:=Tryz.isAgg2
 z2:=Tryz.sizeOf2
 v2:=Tryz.zeroValue2
 t3:=Tryz.underlying3
 a3:=Tryz.isAgg3
 z3:=Tryz.sizeOf3
 v3:=Tryz.zeroValue3
 t4:=Tryz.underlying4
 a4:=Tryz.isAgg4
 z4:=Tryz.sizeOf4
 v4:=Tryz.zeroValue4
 t5:=Tryz.underlying5
 a5:=Tryz.isAgg5
 z5:=Tryz.sizeOf5
 v5:=Tryz.zeroValue5
 t9:=Tryz.underlying9
 a9:=Tryz.isAgg9
 z9:=Tryz.sizeOf9
 v9:=Tryz.zeroValue9
 t20:=Tryz.underlying20
 a20:=Tryz.isAgg20
 z20:=Tryz.sizeOf20
 v20:=Tryz.zeroValue20
 t37:=Tryz.underlying83
 a37:=Tryz.isAgg83
 z37:=Tryz.sizeOf83
 v37:=Tryz.zeroValue83
 t46:=Tryz.underlying234
 a46:=Tryz.isAgg234
 z46:=Tryz.sizeOf234
 v46:=Tryz.zeroValue234
 t51:=Tryz.underlying87
 a51:=Tryz.isAgg87
 z51:=Tryz.sizeOf87
 v51:=Tryz.zeroValue87
 t53:=Tryz.underlying45
 a53:=Tryz.isAgg45
 z53:=Tryz.sizeOf45
 v53:=Tryz.zeroValue45
 t171:=Tryz.underlying299
 a171:=Tryz.isAgg299
 z171:=Tryz.sizeOf299
 v171:=Tryz.zeroValue299
 t173:=Tryz.underlying302
 a173:=Tryz.isAgg302
 z173:=Tryz.sizeOf302
 v173:=Tryz.zeroValue302
 t212:=Tryz.underlying307
 a212:=Tryz.isAgg307
 z212:=Tryz.sizeOf307
 v212:=Tryz.zeroValue307
 t213:=Tryz.underlying308
 a213:=Tryz.isAgg308
 z213:=Tryz.sizeOf308
 t232:=Tryz.underlying310
 a232:=Tryz.isAgg310
 z232:=Tryz.sizeOf310
 v232:=Tryz.zeroValue310
 t233:=Tryz.underlying311
 a233:=Tryz.isAgg311
 z233:=Tryz.sizeOf311
 v233:=Tryz.zeroValue311
 g17:=by kernel_rfl
 g18:=by kernel_rfl
 g19:=by kernel_rfl
 i0:=by kernel_rfl
 i2:=by kernel_rfl
 i3:=by kernel_rfl
 i4:=by kernel_rfl
 i5:=by kernel_rfl
 i9:=by kernel_rfl
 i20:=by kernel_rfl
 i37:=by kernel_rfl
 i46:=by kernel_rfl
 i51:=by kernel_rfl
 i53:=by kernel_rfl
 i171:=by kernel_rfl
 i173:=by kernel_rfl
 i212:=by kernel_rfl
 i232:=by kernel_rfl
 i233:=by kernel_rfl
 m17:=by kernel_rfl
 m18:=by kernel_rfl
 m19:=by kernel_rfl}
open Go.RowKit Go.Sort Go.Lib in
/-- strconv.Itoa: "Itoa is equivalent to FormatInt(int64(i), 10).": i's DECIMAL NUMERAL ('Lib.itoa': a '-' where i is negative, then the digits), FOR EVERY int. The world behind the call: the world before it, new blocks behind the heap (the library's 'var a [24]byte'), draws. (LAID: no walk: one application.) -/
theorem Tryz.strconv_Itoa (n:Int) (h0: -9223372036854775808≤n) (h1:n≤9223372036854775807) (w:World) (htab:Lib.TabIs Tryz.prog w "internal/strconv.uint64pow10" .u64 Lib.pow10Tab):
  Calls Tryz.prog 213 #[.int .i64 n] w fun e w'=>e= .returned (.string ⟨(Lib.itoa n).toArray⟩)∧∃k os,w'=grow (w.drewN k) os:=Any.strconv_Itoa Tryz.laysM171 n h0 h1 w htab
def Tryz.lays105_ren:Go.Shelf.Ren:=⟨fun|105=>214|212=>241|99=>242|165=>160|166=>161|170=>243|169=>162|263=>254|264=>174|206=>255|240=>209|241=>210|276=>237|277=>238|n=>n,fun|9=>9|3=>3|4=>4|20=>20|0=>0|46=>234|109=>292|5=>5|72=>213|76=>217|51=>87|146=>275|53=>45|148=>231|70=>211|37=>83|75=>216|127=>265|164=>289|80=>219|n=>n,fun|n=>n⟩
theorem Tryz.lays105:Go.Proofs.Lays.n105 Tryz.prog Tryz.lays105_ren:={
 mixed:=by kernel_rfl
 f99:=Tryz.func242.trans (congrArg some (by kernel_rfl))
 f105:=Tryz.func214.trans (congrArg some (by kernel_rfl))
 f165:=Tryz.func160.trans (congrArg some (by kernel_rfl))
 f166:=Tryz.func161.trans (congrArg some (by kernel_rfl))
 f169:=Tryz.func162.trans (congrArg some (by kernel_rfl))
 f170:=Tryz.func243.trans (congrArg some (by kernel_rfl))
 f206:=Tryz.func255.trans (congrArg some (by kernel_rfl))
 f212:=Tryz.func241.trans (congrArg some (by kernel_rfl))
 f240:=Tryz.func209.trans (congrArg some (by kernel_rfl))
 f241:=Tryz.func210.trans (congrArg some (by kernel_rfl))
 f263:=Tryz.func254.trans (congrArg some (by kernel_rfl))
 f264:=Tryz.func174.trans (congrArg some (by kernel_rfl))
 f276:=Tryz.func237.trans (congrArg some (by kernel_rfl))
 f277:=Tryz.func238.trans (congrArg some (by kernel_rfl))
 t0:=Tryz.underlying0
 a0:=Tryz.isAgg0
 z0:=Tryz.sizeOf0
 v0:=Tryz.zeroValue0
 t3:=Tryz.underlying3
 a3:=Tryz.isAgg3
 z3:=Tryz.sizeOf3
 v3:=Tryz.zeroValue3
 t4:=Tryz.underlying4
 a4:=Tryz.isAgg4
 z4:=Tryz.sizeOf4
 v4:=Tryz.zeroValue4
 t5:=Tryz.underlying5
 a5:=Tryz.isAgg5
 z5:=Tryz.sizeOf5
 v5:=Tryz.zeroValue5
 t9:=Tryz.underlying9
 a9:=Tryz.isAgg9
 z9:=Tryz.sizeOf9
 v9:=Tryz.zeroValue9
 t20:=Tryz.underlying20
 a20:=Tryz.isAgg20
 z20:=Tryz.sizeOf20
 v20:=Tryz.zeroValue20
 t37:=Tryz.underlying83
 a37:=Tryz.isAgg83
 z37:=Tryz.sizeOf83
 v37:=Tryz.zeroValue83
 t46:=Tryz.underlying234
 a46:=Tryz.isAgg234
 z46:=Tryz.sizeOf234
 v46:=Tryz.zeroValue234
 t51:=Tryz.underlying87
 a51:=Tryz.isAgg87
 z51:=Tryz.sizeOf87
 v51:=Tryz.zeroValue87
 t53:=Tryz.underlying45
 a53:=Tryz.isAgg45
 z53:=Tryz.sizeOf45
 v53:=Tryz.zeroValue45
 t70:=Tryz.underlying211
 a70:=Tryz.isAgg211
 z70:=Tryz.sizeOf211
 v70:=Tryz.zeroValue211
 t72:=Tryz.underlying213
 a72:=Tryz.isAgg213
 z72:=Tryz.sizeOf213
 v72:=Tryz.zeroValue213
 t75:=Tryz.underlying216
 a75:=Tryz.isAgg216
 z75:=Tryz.sizeOf216
 v75:=Tryz.zeroValue216
 t76:=Tryz.underlying217
 a76:=Tryz.isAgg217
 z76:=Tryz.sizeOf217
 v76:=Tryz.zeroValue217
 t109:=Tryz.underlying292
 a109:=Tryz.isAgg292
 z109:=Tryz.sizeOf292
 v109:=Tryz.zeroValue292
 t127:=Tryz.underlying265
 a127:=Tryz.isAgg265
 z127:=Tryz.sizeOf265
 v127:=Tryz.zeroValue265
 t146:=Tryz.underlying275
 a146:=Tryz.isAgg275
 z146:=Tryz.sizeOf275
 v146:=Tryz.zeroValue275
 t148:=Tryz.underlying231
 a148:=Tryz.isAgg231
 z148:=Tryz.sizeOf231
 v148:=Tryz.zeroValue231
 t164:=Tryz.underlying289
 a164:=Tryz.isAgg289
 z164:=Tryz.sizeOf289
 v164:=Tryz.zeroValue289}
theorem Tryz.Builder_Extra_105:Builder.Extra Tryz.prog Tryz.lays105_ren:={
 sizeBuilder:=by kernel_rfl
 liesBuilder:=by kernel_rfl
 t5:=Tryz.underlying5
 a5:=Tryz.isAgg5
 z5:=Tryz.sizeOf5
 v5:=Tryz.zeroValue5
 infoByte:=by kernel_rfl
 cellsByte:=by kernel_rfl
 sizeByte:=by kernel_rfl
 neB5:=by decide}
open Go.RowKit Go.Lib in
theorem Tryz.strings_Repeat (s:ByteArray) (c:Nat) (w:World) (hc:c≤9223372036854775807) (hlen:s.size*c≤140737488355328):
  Calls Tryz.prog 214 #[.string s,.int .i64 c] w fun e w'=>e= .returned (.string ⟨(Lib.repeatL s.data.toList c).toArray⟩)∧Below w.heap.size w w':=Any.strings_Repeat Tryz.lays105 Tryz.Builder_Extra_105 s c w hc hlen
end Go.Proofs
namespace Go.Proofs.YtjknedoaofjnbaaGreatDoor
open Go.Sx
set_option linter.unusedSimpArgs false
set_option linter.unusedVariables false
set_option maxRecDepth 100000
set_option maxHeartbeats 4000000
def decF:Nat→Nat→List UInt8
 |0,_=>[]
 |f+1,n=>if n<10 then[UInt8.ofNat (48+n)]else decF f (n/10)++[UInt8.ofNat (48+n % 10)]
theorem decF_eq:∀f n,n<f→decF f n=Lib.decDigits n
 |0,n,h=>by omega
 |f+1,n,h=>by
  rw[decF,Lib.decDigits]
  by_cases h1:n<10
  ·rw[if_pos h1,dif_pos h1]
  ·rw[if_neg h1,dif_neg h1,decF_eq f (n/10) (by omega)]
def tN (n:Nat):ByteArray:=⟨(decF (n+1) n).toArray⟩
theorem tN_eq (n:Nat):tN n=⟨(Lib.decDigits n).toArray⟩:=by rw[tN,decF_eq _ _ (Nat.lt_succ_self n)]
def tZ (z:Int):ByteArray:=if z<0 then "-".toUTF8++tN z.natAbs else tN z.natAbs
def tQ (q:Rat):ByteArray:=if q.den=1 then tZ q.num else tZ q.num++ "/".toUTF8++tN q.den
theorem t_small (i:Nat) (h:i<100):CallOK Tryz.prog 249 [.val (.int .i64 (i:Nat))] [] (.val (.string (tN i))) [] []:=
 call_vals' (vs:=[.int .i64 (i:Nat)]) ⟨Tryz.f249,Tryz.func249,rfl,by kernel_rfl⟩ rfl (fun w=>by rw[tN_eq];exact Tryz.internal_strconv_small i h w)
theorem t_iFormat (n:Nat) (h:n<100):CallOK Tryz.prog 239 [.val (.int .u64 (n:Nat)),.val (.int .i64 10)] [] (.val (.string (tN n))) [] []:=by
 have k1:=t_small n h
 have t1:decide ((n:Int)<100)=true:=decide_eq_true (by omega)
 have t2:IntKind.i64.wrap (n:Int)=n:=wrap_i64 (by omega) (by omega)
 refine callV (Z:=[]) tabOK mixedOK Tryz.func239 rfl (by kernel_rfl) rfl rfl (by kernel_rfl) rfl ?_
 intro W0 w0 ρ0 hE
 conv=>whnf
 (repeat((first|refine step_w1 rfl rfl ?_|refine g_c (by assumption) ?_|rw[beq_self_eq_true]|rw[t1]|rw[t2]);conv=>whnf));(first|exact Recast.refl _|exact Frz.recast (Recast.refl _) rfl|(refine Frz.one rfl rfl ?_;skip)|(refine Frz.tup ?_;skip))
theorem t_Format (n:Nat) (h:n<100):CallOK Tryz.prog 211 [.val (.int .u64 (n:Nat)),.val (.int .i64 10)] [] (.val (.string (tN n))) [] []:=by
 have k1:=t_iFormat n h
 refine callV (Z:=[]) tabOK mixedOK Tryz.func211 rfl (by kernel_rfl) rfl rfl (by kernel_rfl) rfl ?_
 intro W0 w0 ρ0 hE
 conv=>whnf
 (repeat(first|(refine g_c (by assumption) ?_;conv=>whnf)));(first|exact Recast.refl _|exact Frz.recast (Recast.refl _) rfl|(refine Frz.one rfl rfl ?_;skip)|(refine Frz.tup ?_;skip))
def tV (a:List Rat):ByteArray:= "[".toUTF8++⟨(Lib.join ((a.map tQ).map (·.data.toList)) [32]).toArray⟩++ "]".toUTF8
theorem t_Join (ss:List ByteArray) (hN:ss.length≤1099511627776) (hlen:(Lib.join (ss.map (·.data.toList)) [32]).length≤140737488355328):
  CallOK Tryz.prog 92 [mvec 1 sel ss,.val (.string ⟨#[32]⟩)] [] (.val (.string ⟨(Lib.join (ss.map (·.data.toList)) [32]).toArray⟩)) [] []:=by
 refine call_strs ⟨Tryz.f92,Tryz.func92,rfl,by kernel_rfl⟩ rfl ?_ ?_
 ·rintro rfl a w
  exact Tryz.strings_Join_none a 0 ⟨#[32]⟩ w
 ·intro bk o c w hc hb hcap
  exact Tryz.strings_Join bk o c ss ⟨#[32]⟩ w hc hb (by omega) hcap hlen
end Go.Proofs.YtjknedoaofjnbaaGreatDoor
namespace Go.Proofs.YtjknedoaofjnbaaGreatDoor
open Go.Sx
set_option linter.unusedSimpArgs false
set_option linter.unusedVariables false
set_option maxRecDepth 100000
set_option maxHeartbeats 4000000
theorem app_snoc {α:Type} {l:List α} {i:Nat} {d:α} (h:i<l.length):(l.take i).take i++(([l.getD i d]:List α).drop 0).take 1=l.take (i+1):=by
 have e:l.take (i+1)=l.take i++[l.getD i d]:=by rw[List.take_add_one,List.getD_eq_getElem?_getD,List.getElem?_eq_getElem h];rfl
 rw[List.take_take,Nat.min_self,e];rfl
end Go.Proofs.YtjknedoaofjnbaaGreatDoor
namespace Go.Proofs.YtjknedoaofjnbaaGreatDoor
open Go.Sx
set_option linter.unusedSimpArgs false
set_option linter.unusedVariables false
def sumR:Nat→(Nat→Rat)→Rat
 |0,_=>0
 |n+1,f=>sumR n f+f n
section
variable (x y:Nat→Rat)
end
theorem sum_congr {f g:Nat→Rat}:∀n,(∀i,i<n→f i=g i)→sumR n f=sumR n g
 |0,_=>rfl
 |n+1,h=>by rw[sumR,sumR,sum_congr n (fun i hi=>h i (by omega)),h n (by omega)]
theorem sum_const_zero:∀n,sumR n (fun _=>0)=0
 |0=>rfl
 |n+1=>by rw[sumR,sum_const_zero n];grind
end Go.Proofs.YtjknedoaofjnbaaGreatDoor
namespace Go.Proofs.YtjknedoaofjnbaaGreatDoor
open Go.Sx
set_option linter.unusedSimpArgs false
set_option linter.unusedVariables false
set_option maxRecDepth 100000
set_option maxHeartbeats 4000000
end Go.Proofs.YtjknedoaofjnbaaGreatDoor
namespace Go.Proofs.YtjknedoaofjnbaaGreatDoor
open Go.Sx
set_option linter.unusedSimpArgs false
set_option linter.unusedVariables false
set_option maxRecDepth 100000
set_option maxHeartbeats 4000000
def Sm (B:Nat) (l:List Rat):Prop:=∀i,i<l.length→fs (l.getD i 0)≤B
section
variable {a b z:List Rat} {n i:Nat} {c:Rat}
theorem sum_add (f g:Nat→Rat):∀n,sumR n (fun i=>f i+g i)=sumR n f+sumR n g
 |0=>by simp only[sumR];grind
 |n+1=>by simp only[sumR];rw[sum_add f g n];grind
theorem sum_smul (c:Rat) (f:Nat→Rat):∀n,sumR n (fun i=>c*f i)=c*sumR n f
 |0=>by simp only[sumR];grind
 |n+1=>by simp only[sumR];rw[sum_smul c f n];grind
end
end Go.Proofs.YtjknedoaofjnbaaGreatDoor
namespace Go.Proofs.YtjknedoaofjnbaaGreatDoor
open Go.Sx
set_option linter.unusedSimpArgs false
set_option linter.unusedVariables false
set_option maxRecDepth 100000
set_option maxHeartbeats 4000000
def mk (r c:Nat) (f:Nat→Nat→Rat):List Rat:=(List.range (r*c)).map fun p=>f (p/c) (p % c)
abbrev el (a:List Rat) (c i k:Nat):Rat:=a.getD (i*c+k) 0
theorem mk_len (r c:Nat) (f:Nat→Nat→Rat):(mk r c f).length=r*c:=by simp[mk]
theorem idx_lt {r c i k:Nat} (hi:i<r) (hk:k<c):i*c+k<r*c:=by
 have:=Nat.mul_le_mul_right c (show i+1≤r from hi)
 rw[Nat.succ_mul]at this;omega
theorem idx_div {c i k:Nat} (hk:k<c):(i*c+k)/c=i:=by
 rw[Nat.mul_comm,Nat.mul_add_div (by omega),Nat.div_eq_of_lt hk,Nat.add_zero]
theorem idx_mod {c i k:Nat} (hk:k<c):(i*c+k) % c=k:=by
 rw[Nat.mul_comm,Nat.mul_add_mod,Nat.mod_eq_of_lt hk]
theorem mk_at {r c:Nat} {f:Nat→Nat→Rat} {p:Nat} (hp:p<r*c):(mk r c f).getD p 0=f (p/c) (p % c):=by
 simp[mk,List.getD_eq_getElem?_getD,hp]
theorem mk_el {r c i k:Nat} {f:Nat→Nat→Rat} (hi:i<r) (hk:k<c):el (mk r c f) c i k=f i k:=by
 rw[el,mk_at (idx_lt hi hk),idx_div hk,idx_mod hk]
theorem idx_split {r c p:Nat} (hp:p<r*c):p/c<r∧p % c<c∧p/c*c+p % c=p:=by
 have hc:0<c:=by rcases Nat.eq_zero_or_pos c with h|h
                 ·subst h;omega
                 ·exact h
 refine⟨(Nat.div_lt_iff_lt_mul hc).2 hp,Nat.mod_lt _ hc, ?_⟩
 rw[Nat.mul_comm];exact Nat.div_add_mod p c
theorem Sm_mk {r c B:Nat} {f:Nat→Nat→Rat} (h:∀i k,i<r→k<c→fs (f i k)≤B):Sm B (mk r c f):=by
 intro p hp
 rw[mk_len]at hp
 obtain⟨h1,h2,_⟩:=idx_split hp
 rw[mk_at hp];exact h _ _ h1 h2
theorem el_sm {a:List Rat} {r c B i k:Nat} (h:Sm B a) (ha:a.length=r*c) (hi:i<r) (hk:k<c):fs (el a c i k)≤B:=h _ (by rw[ha];exact idx_lt hi hk)
theorem sum_swap (f:Nat→Nat→Rat) (m:Nat):∀n,sumR n (fun i=>sumR m (f i))=sumR m (fun k=>sumR n (fun i=>f i k))
 |0=>by
  rw[sumR]
  have:sumR m (fun _=>(0:Rat))=0:=by induction m with
   |zero=>rfl
   |succ m ih=>rw[sumR,ih];grind
  exact(show sumR m (fun k=>sumR 0 (fun i=>f i k))=0 from this).symm
 |n+1=>by rw[sumR,sum_swap f m n,←sum_add];exact sum_congr m fun k _=>rfl
theorem sum_mul (c:Rat) (f:Nat→Rat) (n:Nat):sumR n (fun i=>f i*c)=sumR n f*c:=by
 rw[Rat.mul_comm,←sum_smul]
 exact sum_congr n fun i _=>Rat.mul_comm _ _
theorem sum_fs {f:Nat→Rat} {B:Nat}:∀n,(∀i,i<n→fs (f i)≤B)→fs (sumR n f)≤2+n*B
 |0,_=>by rw[sumR,fs_zero];omega
 |n+1,h=>by
  have h1:=sum_fs n (fun i hi=>h i (by omega))
  have h2:=h n (by omega)
  have:=fs_add (sumR n f) (f n)
  rw[sumR,Nat.succ_mul];omega
def delta (i k:Nat):Rat:=if i=k then 1 else 0
theorem sum_deltaL {f:Nat→Rat} {i:Nat}:∀n,sumR n (fun j=>delta i j*f j)=if i<n then f i else 0
 |0=>by simp[sumR]
 |n+1=>by
  rw[sumR,sum_deltaL n,delta]
  by_cases h:i=n
  ·subst h;simp;grind
  ·by_cases h2:i<n
   ·simp[h,h2,show i<n+1 by omega];grind
   ·simp[h,h2,show ¬i<n+1 by omega];grind
theorem delta_comm (i k:Nat):delta i k=delta k i:=by unfold delta;by_cases h:i=k<;>simp[h,eq_comm]
theorem sum_deltaR {f:Nat→Rat} {i n:Nat}:sumR n (fun j=>f j*delta j i)=if i<n then f i else 0:=by
 rw[←sum_deltaL n];exact sum_congr n fun j _=>by rw[delta_comm,Rat.mul_comm]
theorem sum_mulL {f:Nat→Rat} (c:Rat) (n:Nat):c*sumR n f=sumR n fun i=>c*f i:=(sum_smul c f n).symm
theorem sum_mulR {f:Nat→Rat} (c:Rat) (n:Nat):sumR n f*c=sumR n fun i=>f i*c:=(sum_mul c f n).symm
end Go.Proofs.YtjknedoaofjnbaaGreatDoor
namespace Go.Proofs.YtjknedoaofjnbaaGreatDoor
open Go.Sx
set_option linter.unusedSimpArgs false
set_option linter.unusedVariables false
set_option maxRecDepth 100000
set_option maxHeartbeats 4000000
theorem sum_shift (f:Nat→Rat):∀n,sumR (n+1) f=f 0+sumR n (fun i=>f (i+1))
 |0=>by simp only[sumR];grind
 |n+1=>by rw[sumR,sum_shift f n,sumR];grind
theorem sum_zeros {f:Nat→Rat} {n:Nat} (h:∀i,i<n→f i=0):sumR n f=0:=by
 rw[sum_congr n h,sum_const_zero]
theorem sum_one {f:Nat→Rat} {j:Nat}:∀n,j<n→(∀i,i<n→i≠j→f i=0)→sumR n f=f j
 |0,h,_=>by omega
 |n+1,hj,h=>by
  rw[sumR]
  by_cases e:j=n
  ·subst e;rw[sum_zeros fun i hi=>h i (by omega) (by omega)];grind
  ·rw[sum_one n (by omega) (fun i hi hn=>h i (by omega) hn),h n (by omega) (fun g=>e g.symm)];grind
theorem sum_two {f:Nat→Rat} {j:Nat} {n:Nat} (hj:j+1<n) (h:∀i,i<n→i≠j→i≠j+1→f i=0) (h2:f j+f (j+1)=0):sumR n f=0:=by
 have e:sumR n f=sumR n (fun i=>(if i=j then f j else 0)+(if i=j+1 then f (j+1)else 0)):=sum_congr n fun i hi=>by
  by_cases h1:i=j
  ·subst h1;simp;grind
  ·by_cases h3:i=j+1
   ·subst h3;simp;grind
   ·rw[h i hi h1 h3,if_neg h1,if_neg h3];grind
 rw[e,sum_add,sum_one (f:=fun i=>if i=j then f j else 0) (j:=j) n (by omega) (fun i _ hn=>if_neg hn),sum_one (f:=fun i=>if i=j+1 then f (j+1)else 0) (j:=j+1) n hj (fun i _ hn=>if_neg hn)]
 simp[h2]
abbrev Mx:=Nat→Nat→Rat
def sg:Nat→Rat
 |0=>1
 |n+1=> - sg n
theorem sg_add (m:Nat):∀n,sg (m+n)=sg m*sg n
 |0=>by rw[sg,Nat.add_zero];grind
 |n+1=>by rw[←Nat.add_assoc,sg,sg,sg_add m n];grind
theorem sg_sq (n:Nat):sg n*sg n=1:=by
 induction n with
 |zero=>rw[sg];grind
 |succ n ih=>rw[sg];grind
def sk (k j:Nat):Nat:=if j<k then j else j+1
theorem sk_ne (k j:Nat):sk k j≠k:=by unfold sk;split<;>omega
theorem sk_lt {n k j:Nat} (hj:j<n):sk k j<n+1:=by unfold sk;split<;>omega
theorem sk_le {k j:Nat} (h:j<k):sk k j=j:=if_pos h
theorem sk_ge {k j:Nat} (h:k≤j):sk k j=j+1:=if_neg (by omega)
theorem sk_sk {k l j:Nat} (h:l≤k):sk (k+1) (sk l j)=sk l (sk k j):=by
 unfold sk
 by_cases h1:j<l
 ·simp[h1,show j<k by omega,show j<k+1 by omega]
 ·by_cases h2:j<k
  ·simp[h1,h2]
  ·simp[h1,h2,show ¬j+1<l by omega]
def mn (A:Mx) (k:Nat):Mx:=fun i j=>A (i+1) (sk k j)
def det:Nat→Mx→Rat
 |0,_=>1
 |n+1,A=>sumR (n+1) fun k=>sg k*A 0 k*det n (mn A k)
theorem det_succ (n:Nat) (A:Mx):det (n+1) A=sumR (n+1) fun k=>sg k*A 0 k*det n (mn A k):=rfl
theorem det_congr:∀{n:Nat} {A B:Mx},(∀i k,i<n→k<n→A i k=B i k)→det n A=det n B
 |0,_,_,_=>rfl
 |n+1,A,B,h=>by
  rw[det_succ,det_succ]
  refine sum_congr _ fun k hk=> ?_
  rw[h 0 k (by omega) hk,det_congr (n:=n) (A:=mn A k) (B:=mn B k) (fun i j hi hj=>h _ _ (by omega) (sk_lt hj))]
def setRow (A:Mx) (i:Nat) (x:Nat→Rat):Mx:=fun p q=>if p=i then x q else A p q
theorem setRow_at (A:Mx) (i:Nat) (x:Nat→Rat):setRow A i x i=x:=by funext q;simp[setRow]
theorem setRow_ne (A:Mx) {i p:Nat} (x:Nat→Rat) (h:p≠i):setRow A i x p=A p:=by funext q;simp[setRow,h]
theorem setRow_self (A:Mx) (i:Nat):setRow A i (A i)=A:=by
 funext p q
 by_cases h:p=i
 ·subst h;rw[setRow_at]
 ·rw[setRow_ne _ _ h]
theorem setRow_two (A:Mx) (i:Nat) (x y:Nat→Rat):setRow (setRow A i x) i y=setRow A i y:=by
 funext p q;unfold setRow;split<;>rfl
theorem setRow_comm (A:Mx) {i j:Nat} (x y:Nat→Rat) (h:i≠j):setRow (setRow A i x) j y=setRow (setRow A j y) i x:=by
 funext p q;unfold setRow
 by_cases h1:p=i
 ·subst h1;simp[h]
 ·simp[h1]
structure Alt (n:Nat) (F:Mx→Rat):Prop where
 congr:∀A B,(∀i k,i<n→k<n→A i k=B i k)→F A=F B
 lin:∀A i x c y,i<n→F (setRow A i fun k=>x k+c*y k)=F (setRow A i x)+c*F (setRow A i y)
 alt:∀A i,i+1<n→(∀k,k<n→A i k=A (i+1) k)→F A=0
theorem mn_set0 (A:Mx) (x:Nat→Rat) (k:Nat):mn (setRow A 0 x) k=mn A k:=by
 funext i j;rw[mn,setRow_ne _ _ (by omega)];rfl
theorem mn_set (A:Mx) (x:Nat→Rat) (k i:Nat):mn (setRow A (i+1) x) k=setRow (mn A k) i fun j=>x (sk k j):=by
 funext p q
 by_cases h:p=i
 ·subst h;rw[setRow_at,mn,setRow_at]
 ·rw[setRow_ne _ _ h,mn,setRow_ne _ _ (by omega)];rfl
theorem det_lin:∀(n:Nat) (A:Mx) (i:Nat) (x:Nat→Rat) (c:Rat) (y:Nat→Rat),i<n→det n (setRow A i fun k=>x k+c*y k)=det n (setRow A i x)+c*det n (setRow A i y)
 |0,_,_,_,_,_,h=>by omega
 |n+1,A,0,x,c,y,_=>by
  rw[det_succ,det_succ,det_succ,sum_mulL,←sum_add]
  refine sum_congr _ fun k _=> ?_
  rw[setRow_at,setRow_at,setRow_at,mn_set0,mn_set0,mn_set0]
  grind
 |n+1,A,i+1,x,c,y,h=>by
  rw[det_succ,det_succ,det_succ,sum_mulL,←sum_add]
  refine sum_congr _ fun k _=> ?_
  rw[setRow_ne _ _ (by omega),setRow_ne _ _ (by omega),setRow_ne _ _ (by omega),mn_set,mn_set,mn_set,det_lin n _ _ _ _ _ (by omega)]
  grind
theorem sum_anti (n:Nat) (T:Nat→Nat→Rat) (h:∀k l,l≤k→k<n→T (k+1) l= - T l k):sumR (n+1) (fun k=>sumR n (T k))=0:=by
 have e1:sumR (n+1) (fun k=>sumR n (T k))=sumR (n+1) (fun k=>sumR n fun l=>if l<k then T k l else 0)+sumR (n+1) (fun k=>sumR n fun l=>if l<k then 0 else T k l):=by
  rw[←sum_add]
  refine sum_congr _ fun k _=> ?_
  rw[←sum_add]
  exact sum_congr _ fun l _=>by split<;>grind
 have e2:sumR (n+1) (fun k=>sumR n fun l=>if l<k then T k l else 0)=sumR n fun k=>sumR n fun l=>if l<k+1 then T (k+1) l else 0:=by
  rw[sum_shift,sum_zeros fun l _=>if_neg (by omega)];grind
 have e3:sumR (n+1) (fun k=>sumR n fun l=>if l<k then 0 else T k l)=sumR n fun k=>sumR n fun l=>if k<l then 0 else T l k:=by
  rw[sumR,sum_zeros (f:=fun l=>if l<n then 0 else T n l) fun l hl=>if_pos hl,sum_swap];grind
 rw[e1,e2,e3,←sum_add]
 refine sum_zeros fun k hk=> ?_
 rw[←sum_add]
 refine sum_zeros fun l hl=> ?_
 by_cases h1:l≤k
 ·rw[if_pos (by omega),if_neg (by omega),h k l h1 hk];grind
 ·rw[if_neg (by omega),if_pos (by omega)];grind
theorem det_alt0:∀(n:Nat) (A:Mx) (i:Nat),i+1<n→(∀k,k<n→A i k=A (i+1) k)→det n A=0
 |0,_,_,h,_=>by omega
 |1,_,_,h,_=>by omega
 |n+2,A,0,_,h=>by
  rw[det_succ]
  have e:∀k,k<n+2→sg k*A 0 k*det (n+1) (mn A k)=sumR (n+1) fun l=>sg k*A 0 k*(sg l*A 1 (sk k l)*det n (mn (mn A k) l)):=fun k _=>by
   rw[det_succ,sum_mulL];rfl
  rw[sum_congr _ e]
  refine sum_anti (n+1) (fun k l=>sg k*A 0 k*(sg l*A 1 (sk k l)*det n (mn (mn A k) l))) fun k l hl hk=> ?_
  have e1:mn (mn A (k+1)) l=mn (mn A l) k:=by
   funext i j
   rw[mn,mn,mn,mn,sk_sk hl]
  show sg (k+1)*A 0 (k+1)*(sg l*A 1 (sk (k+1) l)*det n (mn (mn A (k+1)) l))= - (sg l*A 0 l*(sg k*A 1 (sk l k)*det n (mn (mn A l) k)))
  rw[e1,sk_le (by omega),sk_ge hl,h (k+1) (by omega),h l (by omega),sg]
  grind
 |n+2,A,i+1,hi,h=>by
  rw[det_succ]
  refine sum_zeros fun k _=> ?_
  rw[det_alt0 (n+1) (mn A k) i (by omega) (fun j hj=>h _ (sk_lt hj))];grind
theorem det_Alt (n:Nat):Alt n (det n):=⟨fun _ _=>det_congr,fun A i x c y=>det_lin n A i x c y,fun A i=>det_alt0 n A i⟩
section
variable {n:Nat} {F:Mx→Rat} (hF:Alt n F)
include hF
theorem Alt.add (A:Mx) {i:Nat} (x y:Nat→Rat) (hi:i<n):F (setRow A i fun k=>x k+y k)=F (setRow A i x)+F (setRow A i y):=by
 have:=hF.lin A i x 1 y hi
 rw[show(fun k=>x k+1*y k)=fun k=>x k+y k from by funext k;grind]at this
 rw[this];grind
theorem Alt.zero (A:Mx) {i:Nat} (hi:i<n):F (setRow A i fun _=>0)=0:=by
 have:=hF.add A (fun _=>0) (fun _=>0) hi
 rw[show(fun _:Nat=>(0:Rat)+0)=fun _=>0 from by funext k;grind]at this
 grind
theorem Alt.smul (A:Mx) {i:Nat} (c:Rat) (x:Nat→Rat) (hi:i<n):F (setRow A i fun k=>c*x k)=c*F (setRow A i x):=by
 have:=hF.lin A i (fun _=>0) c x hi
 rw[hF.zero A hi,show(fun k=>(0:Rat)+c*x k)=fun k=>c*x k from by funext k;grind]at this
 rw[this];grind
theorem Alt.sum (A:Mx) {i:Nat} (hi:i<n) (a:Nat→Rat) (e:Nat→Nat→Rat):∀m,F (setRow A i fun k=>sumR m fun p=>a p*e p k)=sumR m fun p=>a p*F (setRow A i (e p))
 |0=>by simp only[sumR];exact hF.zero A hi
 |m+1=>by
  simp only[sumR]
  rw[hF.lin A i (fun k=>sumR m fun p=>a p*e p k) (a m) (e m) hi,Alt.sum A hi a e m]
def swapRow (A:Mx) (i j:Nat):Mx:=fun p=>if p=i then A j else if p=j then A i else A p
omit hF in
theorem swap_set (A:Mx) {i j:Nat} (h:i≠j):swapRow A i j=setRow (setRow A i (A j)) j (A i):=by
 funext p q
 unfold swapRow
 by_cases h1:p=i
 ·subst h1;rw[if_pos rfl,setRow_ne _ _ h,setRow_at]
 ·by_cases h2:p=j
  ·subst h2;rw[if_neg h1,if_pos rfl,setRow_at]
  ·rw[if_neg h1,if_neg h2,setRow_ne _ _ h2,setRow_ne _ _ h1]
theorem Alt.swap_of (A:Mx) {i j:Nat} (hi:i<n) (hj:j<n) (hne:i≠j) (h0:∀x,F (setRow (setRow A i x) j x)=0):F (swapRow A i j)= - F A:=by
 have h1:=h0 (fun k=>A i k+A j k)
 rw[hF.add _ _ _ hj,setRow_comm _ _ _ hne,hF.add _ _ _ hi,setRow_comm _ _ _ hne,hF.add _ _ _ hi,
  setRow_comm _ _ _ hne.symm,h0,setRow_comm _ _ _ hne.symm,setRow_comm _ _ _ hne.symm,setRow_comm _ _ _ hne.symm,h0]at h1
 have e1:setRow (setRow A i (A i)) j (A j)=A:=by rw[setRow_self,setRow_self]
 rw[←swap_set A hne]at h1
 rw[e1]at h1
 grind
theorem Alt.swap1 (A:Mx) {i:Nat} (hi:i+1<n):F (swapRow A i (i+1))= - F A:=
 hF.swap_of A (by omega) hi (by omega) fun x=>hF.alt _ i hi fun k _=>by rw[setRow_ne _ _ (by omega),setRow_at,setRow_at]
theorem Alt.same (d:Nat):∀(A:Mx) (i:Nat),i+d+1<n→(∀k,k<n→A i k=A (i+d+1) k)→F A=0:=by
 induction d with
 |zero=>exact fun A i hi h=>hF.alt A i hi h
 |succ d ih=>
  intro A i hi h
  have h1:=ih (swapRow A (i+d+1) (i+d+1+1)) i (by omega) fun k hk=>by
   unfold swapRow
   rw[if_neg (by omega),if_neg (by omega),if_pos rfl];exact h k hk
  rw[hF.swap1 A (by omega)]at h1
  grind
theorem Alt.eq (A:Mx) {i j:Nat} (hi:i<n) (hj:j<n) (hne:i≠j) (h:∀k,k<n→A i k=A j k):F A=0:=by
 rcases Nat.lt_or_gt_of_ne hne with g|g
 ·exact hF.same (j - i - 1) A i (by omega) fun k hk=>by rw[show i+(j - i - 1)+1=j by omega];exact h k hk
 ·exact hF.same (i - j - 1) A j (by omega) fun k hk=>by rw[show j+(i - j - 1)+1=i by omega];exact(h k hk).symm
theorem Alt.swap (A:Mx) {i j:Nat} (hi:i<n) (hj:j<n) (hne:i≠j):F (swapRow A i j)= - F A:=
 hF.swap_of A hi hj hne fun x=>hF.eq _ hi hj hne fun k _=>by rw[setRow_ne _ _ hne,setRow_at,setRow_at]
theorem Alt.addrow (A:Mx) {i j:Nat} (c:Rat) (hi:i<n) (hj:j<n) (hne:i≠j):F (setRow A i fun k=>A i k+c*A j k)=F A:=by
 rw[hF.lin A i (A i) c (A j) hi,setRow_self,hF.eq (setRow A i (A j)) hi hj hne fun k _=>by rw[setRow_at,setRow_ne _ _ (fun h=>hne h.symm)]]
 grind
def rowTop (k:Nat) (A:Mx):Mx:=fun i=>if i=0 then A k else if i≤k then A (i - 1)else A i
theorem Alt.top:∀(k:Nat) (A:Mx),k<n→F (rowTop k A)=sg k*F A
 |0,A,_=>by
  rw[show rowTop 0 A=A from by
   funext i;unfold rowTop
   by_cases h:i=0
   ·rw[if_pos h,h]
   ·rw[if_neg h,if_neg (by omega)],sg]
  grind
 |k+1,A,h=>by
  have e:rowTop (k+1) A=rowTop k (swapRow A k (k+1)):=by
   funext i;unfold rowTop swapRow
   by_cases h1:i=0
   ·rw[if_pos h1,if_pos h1,if_pos rfl]
   ·rw[if_neg h1,if_neg h1]
    by_cases h2:i≤k
    ·rw[if_pos (by omega),if_pos h2,if_neg (by omega),if_neg (by omega)]
    ·rw[if_neg h2]
     by_cases h3:i=k+1
     ·subst h3;rw[if_pos (by omega),if_neg (by omega),if_pos rfl];rfl
     ·rw[if_neg (by omega),if_neg (by omega),if_neg h3]
  rw[e,Alt.top k _ (by omega),hF.swap1 A h,sg]
  grind
end
def un (k q:Nat):Nat:=if q<k then q else q - 1
theorem un_sk (k j:Nat):un k (sk k j)=j:=by
 unfold un sk
 by_cases h:j<k
 ·rw[if_pos h,if_pos h]
 ·rw[if_neg h,if_neg (by omega)];rfl
theorem sk_un {k q:Nat} (h:q≠k):sk k (un k q)=q:=by
 unfold un sk
 by_cases h1:q<k
 ·rw[if_pos h1,if_pos h1]
 ·rw[if_neg h1,if_neg (by omega)];omega
theorem un_lt {n k q:Nat} (hq:q<n+1) (hk:k<n+1) (h:q≠k):un k q<n:=by unfold un;split<;>omega
def bord (k:Nat) (B:Mx):Mx:=fun i q=>if i=0 then delta k q else if q=k then 0 else B (i - 1) (un k q)
theorem bord_set (k:Nat) (B:Mx) (i:Nat) (x:Nat→Rat):bord k (setRow B i x)=setRow (bord k B) (i+1) fun q=>if q=k then 0 else x (un k q):=by
 funext p q
 by_cases h:p=i+1
 ·subst h
  rw[setRow_at,bord,if_neg (by omega),show i+1 - 1=i by omega,setRow_at]
 ·rw[setRow_ne _ _ h,bord,bord]
  by_cases h0:p=0
  ·rw[if_pos h0,if_pos h0]
  ·rw[if_neg h0,if_neg h0,setRow_ne _ _ (by omega)]
theorem Alt.bord {n:Nat} {F:Mx→Rat} (hF:Alt (n+1) F) {k:Nat} (hk:k<n+1):Alt n fun B=>F (bord k B) where
 congr:=fun A B h=>hF.congr _ _ fun i q hi hq=>by
  unfold Go.Proofs.YtjknedoaofjnbaaGreatDoor.bord
  by_cases h0:i=0
  ·rw[if_pos h0,if_pos h0]
  ·rw[if_neg h0,if_neg h0]
   by_cases h1:q=k
   ·rw[if_pos h1,if_pos h1]
   ·rw[if_neg h1,if_neg h1];exact h _ _ (by omega) (un_lt hq hk h1)
 lin:=fun A i x c y hi=>by
  show F _=F _+c*F _
  rw[bord_set,bord_set,bord_set,←hF.lin _ _ _ _ _ (by omega)]
  congr 2
  funext q
  by_cases h:q=k
  ·rw[if_pos h,if_pos h,if_pos h];grind
  ·rw[if_neg h,if_neg h,if_neg h]
 alt:=fun A i hi h=>hF.alt _ (i+1) (by omega) fun q hq=>by
  unfold Go.Proofs.YtjknedoaofjnbaaGreatDoor.bord
  rw[if_neg (show ¬i+1=0 by omega),if_neg (show ¬i+1+1=0 by omega)]
  by_cases h1:q=k
  ·rw[if_pos h1,if_pos h1]
  ·rw[if_neg h1,if_neg h1];exact h _ (un_lt hq hk h1)
theorem alt_unique:∀(n:Nat) (F:Mx→Rat),Alt n F→∀A,F A=F delta*det n A
 |0,F,hF,A=>by rw[hF.congr A delta fun i k hi=>by omega,det];grind
 |n+1,F,hF,A=>by
  have e0:F A=sumR (n+1) fun k=>A 0 k*F (setRow A 0 (delta k)):=by
   rw[←hF.sum A (by omega) (A 0) delta (n+1)]
   refine hF.congr _ _ fun i q hi hq=> ?_
   by_cases h:i=0
   ·subst h;rw[setRow_at,sum_deltaR,if_pos hq]
   ·rw[setRow_ne _ _ h]
  rw[e0,det_succ,sum_mulL]
  refine sum_congr _ fun k hk=> ?_
  have e1:∀m,m≤n→F (setRow A 0 (delta k))=F (fun i q=>if i=0 then delta k q else if i≤m∧q=k then 0 else A i q):=by
   intro m
   induction m with
   |zero=>
    intro _
    refine hF.congr _ _ fun i q _ _=> ?_
    by_cases h:i=0
    ·subst h;rw[setRow_at,if_pos rfl]
    ·rw[setRow_ne _ _ h,if_neg h,if_neg (by omega)]
   |succ m ih=>
    intro hm
    rw[ih (by omega),←hF.addrow (i:=m+1) (j:=0) (fun i q=>if i=0 then delta k q else if i≤m∧q=k then 0 else A i q) (- A (m+1) k) (by omega) (by omega) (by omega)]
    refine hF.congr _ _ fun i q _ _=> ?_
    by_cases h:i=m+1
    ·subst h
     rw[setRow_at,if_neg (by omega),if_neg (by omega),if_pos rfl,if_neg (by omega)]
     by_cases hq:q=k
     ·subst hq;rw[if_pos ⟨Nat.le_refl _,rfl⟩];simp[delta];grind
     ·rw[if_neg (fun g=>hq g.2),delta,if_neg (fun g=>hq g.symm)];grind
    ·rw[setRow_ne _ _ h]
     by_cases h0:i=0
     ·rw[if_pos h0,if_pos h0]
     ·rw[if_neg h0,if_neg h0]
      by_cases g:i≤m∧q=k
      ·rw[if_pos g,if_pos ⟨by omega,g.2⟩]
      ·rw[if_neg g,if_neg (fun g2=>g ⟨by omega,g2.2⟩)]
  have e2:F (setRow A 0 (delta k))=F (bord k (mn A k)):=by
   rw[e1 n (Nat.le_refl _)]
   refine hF.congr _ _ fun i q hi _=> ?_
   unfold bord
   by_cases h0:i=0
   ·rw[if_pos h0,if_pos h0]
   ·rw[if_neg h0,if_neg h0]
    by_cases hq:q=k
    ·rw[if_pos ⟨by omega,hq⟩,if_pos hq]
    ·rw[if_neg (fun g=>hq g.2),if_neg hq,mn,sk_un hq,show i - 1+1=i by omega]
  have e3:F (bord k delta)=sg k*F delta:=by
   rw[←hF.top k delta hk]
   refine hF.congr _ _ fun i q hi _=> ?_
   unfold bord rowTop
   by_cases h0:i=0
   ·rw[if_pos h0,if_pos h0]
   ·rw[if_neg h0,if_neg h0]
    by_cases hq:q=k
    ·rw[if_pos hq,hq]
     by_cases h1:i≤k
     ·rw[if_pos h1,delta,if_neg (by omega)]
     ·rw[if_neg h1,delta,if_neg (by omega)]
    ·rw[if_neg hq]
     unfold un delta
     by_cases h1:i≤k
     ·rw[if_pos h1]
      by_cases h2:q<k
      ·rw[if_pos h2]
      ·rw[if_neg h2,if_neg (by omega),if_neg (by omega)]
     ·rw[if_neg h1]
      by_cases h2:q<k
      ·rw[if_pos h2,if_neg (by omega),if_neg (by omega)]
      ·rw[if_neg h2]
       by_cases h3:i=q
       ·rw[if_pos (by omega),if_pos h3]
       ·rw[if_neg (by omega),if_neg h3]
  rw[e2,alt_unique n _ (hF.bord hk) (mn A k),e3]
  grind
end Go.Proofs.YtjknedoaofjnbaaGreatDoor
namespace Go.Proofs.YtjknedoaofjnbaaGreatDoor
open Go.Sx
set_option linter.unusedSimpArgs false
set_option linter.unusedVariables false
set_option maxRecDepth 100000
set_option maxHeartbeats 4000000
theorem det_one:∀n,det n delta=1
 |0=>rfl
 |n+1=>by
  rw[det_succ,sum_one (j:=0) (n+1) (by omega) fun i _ hi=>by rw[delta,if_neg fun h=>hi h.symm];grind]
  rw[sg,det_congr (A:=mn delta 0) (B:=delta) fun i k _ _=>by
   show delta (i+1) (sk 0 k)=_
   rw[sk_ge (by omega)];unfold delta
   by_cases h:i=k
   ·rw[if_pos (by omega),if_pos h]
   ·rw[if_neg (by omega),if_neg h],det_one n]
  simp[delta]
def pr (n:Nat) (A B:Mx):Mx:=fun i k=>sumR n fun p=>A i p*B p k
theorem det_mul (n:Nat) (A B:Mx):det n (pr n A B)=det n A*det n B:=by
 have h:Alt n fun A=>det n (pr n A B):={
  congr:=fun A A' h=>det_congr fun i k hi hk=>sum_congr n fun p hp=>by rw[h i p hi hp]
  lin:=fun A i x c y hi=>by
   have e:∀z,pr n (setRow A i z) B=setRow (pr n A B) i fun k=>sumR n fun p=>z p*B p k:=fun z=>by
    funext p q
    by_cases h:p=i
    ·subst h;rw[setRow_at,pr];simp only[setRow_at]
    ·rw[setRow_ne _ _ h];unfold pr;simp only[setRow_ne _ _ h]
   show det n _=det n _+c*det n _
   rw[e,e,e,←det_lin n _ _ _ _ _ hi]
   congr 2
   funext k
   rw[sum_mulL,←sum_add]
   exact sum_congr n fun p _=>by grind
  alt:=fun A i hi h=>det_alt0 n _ i hi fun k _=>sum_congr n fun p hp=>by rw[h p hp]}
 rw[alt_unique n _ h A]
 show det n (pr n delta B)*det n A=_
 rw[det_congr (A:=pr n delta B) (B:=B) fun i k hi _=>by rw[pr,sum_deltaL,if_pos hi]]
 grind
def setCol (A:Mx) (j:Nat) (x:Nat→Rat):Mx:=fun p q=>if q=j then x p else A p q
theorem mn_setCol_eq (A:Mx) (x:Nat→Rat) (k:Nat):mn (setCol A k x) k=mn A k:=by
 funext i j;rw[mn,setCol,if_neg (sk_ne _ _)];rfl
theorem mn_setCol (A:Mx) (x:Nat→Rat) {j k:Nat} (h:j≠k):mn (setCol A j x) k=setCol (mn A k) (un k j) fun p=>x (p+1):=by
 funext p q
 unfold mn setCol
 by_cases e:sk k q=j
 ·rw[if_pos e,if_pos (by rw[←e,un_sk])]
 ·rw[if_neg e,if_neg fun g=>e (by rw[g,sk_un h])]
theorem det_collin:∀(n:Nat) (A:Mx) (j:Nat) (x:Nat→Rat) (c:Rat) (y:Nat→Rat),j<n→det n (setCol A j fun k=>x k+c*y k)=det n (setCol A j x)+c*det n (setCol A j y)
 |0,_,_,_,_,_,h=>by omega
 |n+1,A,j,x,c,y,hj=>by
  rw[det_succ,det_succ,det_succ,sum_mulL,←sum_add]
  refine sum_congr _ fun k hk=> ?_
  by_cases h:j=k
  ·subst h
   rw[mn_setCol_eq,mn_setCol_eq,mn_setCol_eq]
   simp only[setCol,if_true]
   grind
  ·rw[mn_setCol _ _ h,mn_setCol _ _ h,mn_setCol _ _ h,det_collin n _ _ _ _ _ (un_lt hj hk h)]
   simp only[setCol,if_neg fun g=>h (Eq.symm g)]
   grind
theorem det_colalt:∀(n:Nat) (A:Mx) (j:Nat),j+1<n→(∀i,i<n→A i j=A i (j+1))→det n A=0
 |0,_,_,h,_=>by omega
 |n+1,A,j,hj,h=>by
  rw[det_succ]
  refine sum_two hj (fun k hk h1 h2=> ?_) ?_
  ·have:det n (mn A k)=0:=by
    rcases Nat.lt_or_gt_of_ne h1 with g|g
    ·refine det_colalt n _ (j - 1) (by omega) fun i hi=> ?_
     show A (i+1) (sk k (j - 1))=A (i+1) (sk k (j - 1+1))
     rw[sk_ge (by omega),sk_ge (by omega),show j - 1+1=j by omega]
     exact h _ (by omega)
    ·refine det_colalt n _ j (by omega) fun i hi=> ?_
     show A (i+1) (sk k j)=A (i+1) (sk k (j+1))
     rw[sk_le (by omega),sk_le (by omega)]
     exact h _ (by omega)
   rw[this];grind
  ·have:det n (mn A j)=det n (mn A (j+1)):=det_congr fun i q hi _=>by
    unfold mn
    by_cases e:q=j
    ·subst e;rw[sk_ge (Nat.le_refl _),sk_le (Nat.lt_succ_self _)];exact(h _ (by omega)).symm
    ·by_cases g:q<j
     ·rw[sk_le g,sk_le (by omega)]
     ·rw[sk_ge (by omega),sk_ge (by omega)]
   rw[this,h 0 (by omega),sg];grind
def tr (A:Mx):Mx:=fun i k=>A k i
theorem det_turn (n:Nat) (A:Mx):det n (tr A)=det n A:=by
 have h:Alt n fun A=>det n (tr A):={
  congr:=fun A A' h=>det_congr fun i k hi hk=>h k i hk hi
  lin:=fun A i x c y hi=>det_collin n (tr A) i x c y hi
  alt:=fun A i hi h=>det_colalt n (tr A) i hi h}
 rw[alt_unique n _ h A]
 show det n (tr delta)*det n A=_
 rw[det_congr (A:=tr delta) (B:=delta) fun i k _ _=>delta_comm k i,det_one];grind
def mnr (A:Mx) (r k:Nat):Mx:=fun i j=>A (sk r i) (sk k j)
theorem laplace (n:Nat) (A:Mx) {r:Nat} (hr:r<n+1):det (n+1) A=sumR (n+1) fun k=>sg (r+k)*A r k*det n (mnr A r k):=by
 have h:=(det_Alt (n+1)).top r A hr
 have h2:det (n+1) A=sg r*det (n+1) (rowTop r A):=by rw[h,←Rat.mul_assoc,sg_sq];grind
 rw[h2,det_succ,sum_mulL]
 refine sum_congr _ fun k _=> ?_
 have e:mn (rowTop r A) k=mnr A r k:=by
  funext i j
  unfold mn mnr rowTop
  rw[if_neg (by omega)]
  by_cases g:i<r
  ·rw[if_pos (by omega),sk_le g];rfl
  ·rw[if_neg (by omega),sk_ge (k:=r) (by omega)]
 rw[e,sg_add,show rowTop r A 0=A r from rfl];grind
theorem mnr_tr (A:Mx) (r k:Nat):mnr (tr A) r k=tr (mnr A k r):=rfl
def adj (n:Nat) (A:Mx):Mx:=fun i k=>sg (i+k)*det (n - 1) (mnr A k i)
theorem adj_tr (n:Nat) (A:Mx) (i k:Nat):adj n (tr A) i k=adj n A k i:=by
 rw[adj,adj,mnr_tr,det_turn,Nat.add_comm]
theorem mnr_set (A:Mx) (r k:Nat) (x:Nat→Rat):mnr (setRow A r x) r k=mnr A r k:=by
 funext i j;rw[mnr,setRow_ne _ _ (sk_ne _ _)];rfl
theorem mul_adj {n:Nat} (A:Mx) {i k:Nat} (hi:i<n) (hk:k<n):pr n A (adj n A) i k=if i=k then det n A else 0:=by
 obtain⟨m,rfl⟩:∃m,n=m+1:=⟨n - 1,by omega⟩
 have h:pr (m+1) A (adj (m+1) A) i k=det (m+1) (setRow A k (A i)):=by
  rw[laplace m _ hk]
  refine sum_congr _ fun p _=> ?_
  rw[mnr_set,setRow_at,adj,Nat.add_comm k p,show m+1 - 1=m from rfl];grind
 rw[h]
 by_cases e:i=k
 ·subst e;rw[setRow_self,if_pos rfl]
 ·rw[if_neg e,(det_Alt (m+1)).eq _ hi hk e fun q _=>by rw[setRow_ne _ _ e,setRow_at]]
theorem adj_mul {n:Nat} (A:Mx) {i k:Nat} (hi:i<n) (hk:k<n):pr n (adj n A) A i k=if i=k then det n A else 0:=by
 have h:=mul_adj (tr A) hk hi
 rw[det_turn]at h
 have e:pr n (adj n A) A i k=pr n (tr A) (adj n (tr A)) k i:=sum_congr _ fun p _=>by rw[adj_tr,Rat.mul_comm];rfl
 rw[e,h]
 by_cases g:i=k
 ·rw[if_pos g,if_pos g.symm]
 ·rw[if_neg g,if_neg (fun h=>g h.symm)]
def pev:List Rat→Rat→Rat
 |[],_=>0
 |a::l,t=>a+t*pev l t
def Pol (f:Rat→Rat):Prop:=∃l,∀t,f t=pev l t
theorem Pol.const (c:Rat):Pol fun _=>c:=⟨[c],fun t=>by simp only[pev];grind⟩
theorem Pol.id:Pol fun t=>t:=⟨[0,1],fun t=>by simp only[pev];grind⟩
def addL:List Rat→List Rat→List Rat
 |[],l=>l
 |l,[]=>l
 |a::l,b::m=>(a+b)::addL l m
theorem pev_addL:∀(l m:List Rat) (t:Rat),pev (addL l m) t=pev l t+pev m t
 |[],m,t=>by rw[addL,pev];grind
 |a::l,[],t=>by rw[addL];simp only[pev];grind;simp
 |a::l,b::m,t=>by rw[addL];simp only[pev];rw[pev_addL l m t];grind
theorem addL_len:∀(l m:List Rat) (d:Nat),l.length≤d→m.length≤d→(addL l m).length≤d
 |[],m,d,_,h=>by rw[addL];exact h
 |a::l,[],d,h,_=>by rw[addL];exact h;simp
 |a::l,b::m,0,h,_=>by simp at h
 |a::l,b::m,d+1,h1,h2=>by rw[addL,List.length_cons];have:=addL_len l m d (by simpa using h1) (by simpa using h2);omega
theorem pev_map (c:Rat):∀(l:List Rat) (t:Rat),pev (l.map (c*·)) t=c*pev l t
 |[],t=>by simp only[List.map_nil,pev];grind
 |a::l,t=>by simp only[List.map_cons,pev];rw[pev_map c l t];grind
theorem Pol.add {f g:Rat→Rat} (hf:Pol f) (hg:Pol g):Pol fun t=>f t+g t:=by
 obtain⟨l,hl⟩:=hf;obtain⟨m,hm⟩:=hg
 exact⟨addL l m,fun t=>by show f t+g t=_;rw[pev_addL,hl,hm]⟩
theorem Pol.smul {f:Rat→Rat} (c:Rat) (hf:Pol f):Pol fun t=>c*f t:=by
 obtain⟨l,hl⟩:=hf
 exact⟨l.map (c*·),fun t=>by show c*f t=_;rw[pev_map,hl]⟩
theorem Pol.x {f:Rat→Rat} (hf:Pol f):Pol fun t=>t*f t:=by
 obtain⟨l,hl⟩:=hf
 exact⟨0::l,fun t=>by show t*f t=_;rw[pev,hl];grind⟩
theorem Pol.mul {f g:Rat→Rat} (hf:Pol f) (hg:Pol g):Pol fun t=>f t*g t:=by
 obtain⟨l,hl⟩:=hf
 have:∀l:List Rat,Pol fun t=>pev l t*g t:=by
  intro l
  induction l with
  |nil=>exact⟨[],fun t=>by simp only[pev];grind⟩
  |cons a l ih=>
   obtain⟨m,hm⟩:=(hg.smul a).add ih.x
   exact⟨m,fun t=>by rw[←hm t];simp only[pev];grind⟩
 obtain⟨m,hm⟩:=this l
 exact⟨m,fun t=>by show f t*g t=_;rw[hl];exact hm t⟩
theorem Pol.sub {f g:Rat→Rat} (hf:Pol f) (hg:Pol g):Pol fun t=>f t - g t:=by
 obtain⟨m,hm⟩:=hf.add (hg.smul (-1))
 exact⟨m,fun t=>by rw[←hm t];grind⟩
theorem Pol.sum {f:Nat→Rat→Rat}:∀n,(∀i,i<n→Pol (f i))→Pol fun t=>sumR n fun i=>f i t
 |0,_=>⟨[],fun t=>by simp only[sumR,pev]⟩
 |n+1,h=>(Pol.sum n fun i hi=>h i (by omega)).add (h n (by omega))
theorem Pol.pow {f:Rat→Rat} (hf:Pol f):∀n:Nat,Pol fun t=>f t^n
 |0=>⟨[1],fun t=>by simp only[pev];grind⟩
 |n+1=>by
  obtain⟨m,hm⟩:=(Pol.pow hf n).mul hf
  exact⟨m,fun t=>by show f t^(n+1)=_;rw[←hm t,Rat.pow_succ]⟩
theorem Pol.det {A:Rat→Mx}:∀n,(∀i k,Pol fun t=>A t i k)→Pol fun t=>det n (A t)
 |0,_=>Pol.const 1
 |n+1,h=>Pol.sum (n+1) fun k _=>((h 0 k).smul (sg k)).mul (Pol.det (A:=fun t=>mn (A t) k) n fun _ _=>h _ _)
def qd (s:Rat):List Rat→List Rat
 |[]=>[]
 |_::l=>addL l ((qd s l).map (s*·))
theorem qd_len (s:Rat):∀(l:List Rat),(qd s l).length≤l.length - 1
 |[]=>by simp[qd]
 |a::l=>by
  rw[qd]
  refine addL_len _ _ _ (by simp) ?_
  rw[List.length_map];have:=qd_len s l;simp;omega
theorem qd_spec (s:Rat):∀(l:List Rat) (t:Rat),pev l t - pev l s=(t - s)*pev (qd s l) t
 |[],t=>by simp only[pev,qd];grind
 |a::l,t=>by
  have:=qd_spec s l t
  rw[qd,pev_addL,pev_map];simp only[pev];grind
theorem pev_zero:∀(d N:Nat) (l:List Rat),l.length≤d→(∀n:Nat,N≤n→pev l n=0)→∀t,pev l t=0
 |0,_,l,hl,_,t=>by
  obtain rfl:l=[]:=List.eq_nil_of_length_eq_zero (by omega)
  rfl
 |d+1,N,l,hl,h,t=>by
  have h1:=qd_spec (N:Rat) l
  rw[h N (Nat.le_refl _)]at h1
  have h2:=pev_zero d (N+1) (qd N l) (by have:=qd_len (N:Rat) l;omega) fun n hn=>by
   have:=h1 n
   rw[h n (by omega)]at this
   have hne:(n:Rat) - N≠0:=by
    intro e
    have:(n:Rat)=N:=by grind
    have:=Rat.natCast_inj.1 this
    omega
   have h0:((n:Rat) - N)*pev (qd N l) n=0:=by rw[←this];grind
   rcases Rat.mul_eq_zero.1 h0 with g|g
   ·exact absurd g hne
   ·exact g
  have:=h1 t
  rw[h2 t]at this
  grind
theorem Pol.zero {f:Rat→Rat} (hf:Pol f) (N:Nat) (h:∀n:Nat,N≤n→f n=0) (t:Rat):f t=0:=by
 obtain⟨l,hl⟩:=hf
 rw[hl];exact pev_zero _ N l (Nat.le_refl _) (fun n hn=>by rw[←hl];exact h n hn) t
theorem Pol.dom {f h:Rat→Rat} (hf:Pol f) (hh:Pol h) (h0:h 0≠0) (H:∀s,h s≠0→f s=0) (t:Rat):f t=0:=by
 have key:∀l:List Rat,(∀t,pev l t*h t=0)→∀t,pev l t=0:=by
  intro l
  induction l with
  |nil=>intro _ t;rfl
  |cons a l ih=>
   intro hz t
   have h1:=hz 0
   simp only[pev]at h1
   have ha:a=0:=by
    rcases Rat.mul_eq_zero.1 h1 with g|g
    ·grind
    ·exact absurd g h0
   have hp:Pol fun t=>pev l t*h t:=Pol.mul ⟨l,fun _=>rfl⟩ hh
   have h2:=ih fun t=>hp.zero 1 (fun n hn=>by
    have h3:=hz n
    simp only[pev]at h3
    rw[ha]at h3
    have h4:(n:Rat)*(pev l n*h n)=0:=by grind
    rcases Rat.mul_eq_zero.1 h4 with g|g
    ·have:=Rat.natCast_inj.1 (show(n:Rat)=(0:Nat) by rw[g];rfl)
     omega
    ·exact g) t
   simp only[pev];rw[ha,h2 t];grind
 obtain⟨l,hl⟩:=hf
 rw[hl]
 refine key l (fun t=> ?_) t
 by_cases g:h t=0
 ·rw[g];grind
 ·rw[←hl,H t g];grind
def mixI (A:Mx) (s:Rat):Mx:=fun i k=>s*A i k+(1 - s)*delta i k
theorem mixI_pol (A:Mx) (i k:Nat):Pol fun s=>mixI A s i k:=(Pol.id.mul (Pol.const _)).add (((Pol.const 1).sub Pol.id).mul (Pol.const _))
theorem mixI_one (A:Mx):mixI A 1=A:=by funext i k;unfold mixI;grind
theorem mixI_zero (A:Mx):mixI A 0=delta:=by funext i k;unfold mixI;grind
theorem generic (s:Nat) (A:Mx) (f:Mx→Rat) (hp:Pol fun t=>f (mixI A t)) (h:∀B,det s B≠0→f B=0):f A=0:=by
 have:=hp.dom (h:=fun t=>det s (mixI A t)) (Pol.det s (mixI_pol A)) (by show det s (mixI A 0)≠0;rw[mixI_zero,det_one];decide) (fun t ht=>h _ ht) 1
 rwa [mixI_one]at this
end Go.Proofs.YtjknedoaofjnbaaGreatDoor
namespace Go.Proofs.YtjknedoaofjnbaaGreatDoor
open Go.Sx
set_option linter.unusedSimpArgs false
set_option linter.unusedVariables false
set_option maxRecDepth 100000
set_option maxHeartbeats 4000000
theorem Alt.addrows {n:Nat} {F:Mx→Rat} (hF:Alt n F) (A:Mx) {i:Nat} (c:Nat→Rat) (hi:i<n):∀m,m≤i→F (setRow A i fun k=>A i k+sumR m fun p=>c p*A p k)=F A
 |0,_=>by
  simp only[sumR]
  rw[show(fun k=>A i k+0)=A i from by funext k;grind,setRow_self]
 |m+1,h=>by
  have h1:=hF.addrow (i:=i) (j:=m) (setRow A i fun k=>A i k+sumR m fun p=>c p*A p k) (c m) hi (by omega) (by omega)
  rw[setRow_at,setRow_two,setRow_ne _ _ (by omega),Alt.addrows hF A c hi m (by omega)]at h1
  rw[←h1]
  congr 2
  funext k
  simp only[sumR];grind
theorem det_last {n:Nat} {A:Mx} (h:∀k,k<n→A n k=0):det (n+1) A=A n n*det n A:=by
 rw[laplace n A (r:=n) (by omega),sum_one (j:=n) (n+1) (by omega) fun k hk hne=>by rw[h k (by omega)];grind,sg_add,sg_sq]
 rw[det_congr (A:=mnr A n n) (B:=A) fun i j hi hj=>by unfold mnr;rw[sk_le hi,sk_le hj]]
 grind
theorem det_last2 {n:Nat} {A:Mx} (h:∀k,k<n→A (n+1) k=0):det (n+2) A=A (n+1) (n+1)*det (n+1) A - A (n+1) n*det (n+1) (fun i j=>A i (if j<n then j else n+1)):=by
 rw[laplace (n+1) A (r:=n+1) (by omega),sumR,sumR,sum_zeros fun k hk=>by rw[h k hk];grind]
 rw[det_congr (A:=mnr A (n+1) n) (B:=fun i j=>A i (if j<n then j else n+1)) fun i j hi hj=>by
  unfold mnr;rw[sk_le hi]
  by_cases g:j<n
  ·rw[sk_le g,if_pos g]
  ·rw[sk_ge (by omega),if_neg g,show j=n by omega]]
 rw[det_congr (A:=mnr A (n+1) (n+1)) (B:=A) fun i j hi hj=>by unfold mnr;rw[sk_le hi,sk_le hj]]
 rw[show n+1+n=(n+n)+1 by omega,sg,sg_add,sg_sq,sg_add,sg_sq]
 grind
def at1 (s i a:Nat):Nat:=if a<s then a else s+i
def bm (s:Nat) (A:Mx) (i k:Nat):Rat:=det (s+1) fun a b=>A (at1 s i a) (at1 s k b)
theorem bm_tr (s:Nat) (A:Mx) (i k:Nat):bm s (tr A) i k=bm s A k i:=by
 unfold bm;rw[←det_turn];rfl
theorem bm_zero (A:Mx) (i k:Nat):bm 0 A i k=A i k:=by
 unfold bm at1
 rw[det_succ,sumR,sumR,det,sg]
 simp only[Nat.not_lt_zero,if_false,Nat.zero_add];grind
theorem bm_first (s:Nat) (A:Mx):bm s A 0 0=det (s+1) A:=det_congr fun a b ha hb=>by
 have e:∀x,x<s+1→at1 s 0 x=x:=fun x hx=>by unfold at1;split<;>omega
 rw[e a ha,e b hb]
section
variable {s:Nat} {A:Mx} (hd:det s A≠0)
include hd
def xs (s:Nat) (A:Mx) (r:Nat→Rat) (p:Nat):Rat:=sumR s fun q=>r q*(adj s A q p*(det s A)⁻¹)
theorem xs_mul (r:Nat→Rat) {b:Nat} (hb:b<s):sumR s (fun p=>xs s A r p*A p b)=r b:=by
 have e1:sumR s (fun p=>xs s A r p*A p b)=sumR s fun p=>sumR s fun q=>r q*(adj s A q p*(det s A)⁻¹)*A p b:=
  sum_congr s fun p _=>by rw[xs,sum_mulR]
 have e2:∀q,q<s→sumR s (fun p=>r q*(adj s A q p*(det s A)⁻¹)*A p b)=r q*delta q b:=fun q hq=>by
  have h1:=adj_mul A hq hb
  unfold pr at h1
  rw[sum_congr s (g:=fun p=>(r q*(det s A)⁻¹)*(adj s A q p*A p b)) fun p _=>by grind,←sum_mulL,h1,delta]
  split
  ·have:=Rat.mul_inv_cancel _ hd;grind
  ·grind
 rw[e1,sum_swap,sum_congr s e2,sum_deltaR,if_pos hb]
def sch (s:Nat) (A:Mx) (i k:Nat):Rat:=A (s+i) (s+k) - sumR s fun p=>xs s A (A (s+i)) p*A p (s+k)
theorem bm_sch (i k:Nat):bm s A i k=det s A*sch s A i k:=by
 have h:=(det_Alt (s+1)).addrows (fun a b=>A (at1 s i a) (at1 s k b)) (i:=s) (fun p=> - xs s A (A (s+i)) p) (by omega) s (Nat.le_refl _)
 rw[bm,←h]
 have e:∀b,(A (at1 s i s) (at1 s k b)+sumR s fun p=> - xs s A (A (s+i)) p*A (at1 s i p) (at1 s k b))=A (s+i) (at1 s k b) - sumR s fun p=>xs s A (A (s+i)) p*A p (at1 s k b):=fun b=>by
  rw[at1,if_neg (by omega),sum_congr s (g:=fun p=>(-1)*(xs s A (A (s+i)) p*A p (at1 s k b))) fun p hp=>by rw[at1,if_pos hp];grind,←sum_mulL]
  grind
 rw[det_last fun b hb=>by rw[setRow_at,e];rw[show at1 s k b=b from if_pos hb,xs_mul hd _ hb];grind]
 rw[setRow_at,e,show at1 s k s=s+k from if_neg (by omega),det_congr (A:=setRow _ s _) (B:=A) fun a b ha hb=>by
  rw[setRow_ne _ _ (by omega),show at1 s i a=a from if_pos ha,show at1 s k b=b from if_pos hb]]
 unfold sch;grind
theorem bm_sch2 (i k:Nat):bm (s+1) A i k=det s A*(sch s A 0 0*sch s A (i+1) (k+1) - sch s A (i+1) 0*sch s A 0 (k+1)):=by
 have h:=(det_Alt (s+2)).addrows (fun a b=>A (at1 (s+1) i a) (at1 (s+1) k b)) (i:=s+1) (fun p=> - xs s A (A (s+(i+1))) p) (by omega) s (by omega)
 rw[bm,←h]
 have ea:∀p,p<s→at1 (s+1) i p=p:=fun p hp=>if_pos (by omega)
 have e:∀b,(A (at1 (s+1) i (s+1)) (at1 (s+1) k b)+sumR s fun p=> - xs s A (A (s+(i+1))) p*A (at1 (s+1) i p) (at1 (s+1) k b))=A (s+(i+1)) (at1 (s+1) k b) - sumR s fun p=>xs s A (A (s+(i+1))) p*A p (at1 (s+1) k b):=fun b=>by
  rw[show at1 (s+1) i (s+1)=s+(i+1)from by unfold at1;rw[if_neg (by omega)];omega,sum_congr s (g:=fun p=>(-1)*(xs s A (A (s+(i+1))) p*A p (at1 (s+1) k b))) fun p hp=>by rw[ea p hp];grind,←sum_mulL]
  grind
 rw[det_last2 fun b hb=>by rw[setRow_at,e,show at1 (s+1) k b=b from if_pos (by omega),xs_mul hd _ hb];grind]
 have e1:det (s+1) (setRow (fun a b=>A (at1 (s+1) i a) (at1 (s+1) k b)) (s+1) fun b=>A (at1 (s+1) i (s+1)) (at1 (s+1) k b)+sumR s fun p=> - xs s A (A (s+(i+1))) p*A (at1 (s+1) i p) (at1 (s+1) k b))=bm s A 0 0:=by
  rw[bm_first]
  exact det_congr fun a b ha hb=>by rw[setRow_ne _ _ (by omega),show at1 (s+1) i a=a from if_pos (by omega),show at1 (s+1) k b=b from if_pos (by omega)]
 have e2:det (s+1) (fun a b=>setRow (fun a b=>A (at1 (s+1) i a) (at1 (s+1) k b)) (s+1) (fun b=>A (at1 (s+1) i (s+1)) (at1 (s+1) k b)+sumR s fun p=> - xs s A (A (s+(i+1))) p*A (at1 (s+1) i p) (at1 (s+1) k b)) a (if b<s then b else s+1))=bm s A 0 (k+1):=by
  refine det_congr fun a b ha hb=> ?_
  show setRow _ (s+1) _ a (if b<s then b else s+1)=_
  rw[setRow_ne _ _ (by omega)]
  show A (at1 (s+1) i a) (at1 (s+1) k (if b<s then b else s+1))=A (at1 s 0 a) (at1 s (k+1) b)
  rw[show at1 (s+1) i a=a from if_pos (by omega),show at1 s 0 a=a from by unfold at1;split<;>omega]
  congr 1
  unfold at1
  by_cases g:b<s
  ·rw[if_pos g,if_pos (by omega),if_pos g]
  ·rw[if_neg g,if_neg (by omega),if_neg g];omega
 rw[e1,e2,setRow_at,e,e,show at1 (s+1) k (s+1)=s+(k+1)from by unfold at1;rw[if_neg (by omega)];omega,show at1 (s+1) k s=s+0 from if_pos (by omega),bm_sch hd,bm_sch hd]
 have f1:(A (s+(i+1)) (s+(k+1)) - sumR s fun p=>xs s A (A (s+(i+1))) p*A p (s+(k+1)))=sch s A (i+1) (k+1):=rfl
 have f2:(A (s+(i+1)) (s+0) - sumR s fun p=>xs s A (A (s+(i+1))) p*A p (s+0))=sch s A (i+1) 0:=rfl
 rw[f1,f2];grind
end
theorem bm_step (s:Nat) (A:Mx) (i k:Nat):bm s A 0 0*bm s A (i+1) (k+1) - bm s A (i+1) 0*bm s A 0 (k+1)=det s A*bm (s+1) A i k:=by
 have hb:∀s i k,Pol fun t=>bm s (mixI A t) i k:=fun s i k=>Pol.det (s+1) fun a b=>mixI_pol A _ _
 have:=generic s A (fun A=>bm s A 0 0*bm s A (i+1) (k+1) - bm s A (i+1) 0*bm s A 0 (k+1) - det s A*bm (s+1) A i k)
  ((((hb _ _ _).mul (hb _ _ _)).sub ((hb _ _ _).mul (hb _ _ _))).sub ((Pol.det s (mixI_pol A)).mul (hb _ _ _))) fun B hB=>by
   rw[bm_sch hB,bm_sch hB,bm_sch hB,bm_sch hB,bm_sch2 hB];grind
 grind
theorem bm_sing {s n:Nat} {A:Mx} (hd:det s A≠0) (hs:s<n) (h:∀i,s+i<n→bm s A i 0=0):det n A=0:=by
 have hd':det s (tr A)≠0:=by rwa [det_turn]
 rw[←det_turn,←(det_Alt n).addrows (tr A) (i:=s) (fun p=> - xs s (tr A) (tr A s) p) hs s (Nat.le_refl _)]
 have e:∀b,b<n→(fun k=>tr A s k+sumR s fun p=> - xs s (tr A) (tr A s) p*tr A p k) b=(fun _=>0) b:=fun b hb=>by
  show tr A s b+(sumR s fun p=> - xs s (tr A) (tr A s) p*tr A p b)=0
  rw[sum_congr s (g:=fun p=>(-1)*(xs s (tr A) (tr A s) p*tr A p b)) fun p _=>by grind,←sum_mulL]
  by_cases g:b<s
  ·rw[xs_mul hd' _ g];grind
  ·have h1:=h (b - s) (by omega)
   rw[←bm_tr,bm_sch hd']at h1
   have h2:sch s (tr A) 0 (b - s)=0:=by
    rcases Rat.mul_eq_zero.1 h1 with g|g
    ·exact absurd g hd'
    ·exact g
   unfold sch at h2
   rw[Nat.add_zero,show s+(b - s)=b by omega]at h2
   grind
 rw[(det_Alt n).congr (setRow (tr A) s fun k=>tr A s k+sumR s fun p=> - xs s (tr A) (tr A s) p*tr A p k) (setRow (tr A) s fun _=>0) fun i k _ hk=>by
  by_cases g:i=s
  ·subst g;rw[setRow_at,setRow_at];exact e k hk
  ·rw[setRow_ne _ _ g,setRow_ne _ _ g],(det_Alt n).zero _ hs]
theorem det_block {s:Nat}:∀(m:Nat) {A:Mx},(∀i k,s≤i→k<s→A i k=0)→det (s+m) A=det s A*det m fun i k=>A (s+i) (s+k):=by
 intro m A h
 let G:Mx→Mx:=fun S a b=>if a<s then A a b else if b<s then 0 else S (a - s) (b - s)
 have hG:Alt m fun S=>det (s+m) (G S):={
  congr:=fun S S' hS=>det_congr fun a b ha hb=>by
   show G S a b=G S' a b
   simp only[G]
   by_cases g:a<s
   ·rw[if_pos g,if_pos g]
   ·rw[if_neg g,if_neg g]
    by_cases g2:b<s
    ·rw[if_pos g2,if_pos g2]
    ·rw[if_neg g2,if_neg g2];exact hS _ _ (by omega) (by omega)
  lin:=fun S i x c y hi=>by
   have e:∀z,G (setRow S i z)=setRow (G S) (s+i) fun b=>if b<s then 0 else z (b - s):=fun z=>by
    funext a b
    by_cases g:a=s+i
    ·subst g
     rw[setRow_at];simp only[G]
     rw[if_neg (by omega),show s+i - s=i by omega,setRow_at]
    ·rw[setRow_ne _ _ g];simp only[G]
     by_cases g1:a<s
     ·rw[if_pos g1,if_pos g1]
     ·rw[if_neg g1,if_neg g1,setRow_ne _ _ (by omega)]
   show det _ _=det _ _+c*det _ _
   rw[e,e,e,←det_lin _ _ _ _ _ _ (by omega)]
   congr 2
   funext b
   split<;>grind
  alt:=fun S i hi hS=>det_alt0 _ _ (s+i) (by omega) fun b hb=>by
   simp only[G]
   rw[if_neg (show ¬s+i<s by omega),if_neg (show ¬s+i+1<s by omega)]
   by_cases g:b<s
   ·rw[if_pos g,if_pos g]
   ·rw[if_neg g,if_neg g,show s+i - s=i by omega,show s+i+1 - s=i+1 by omega];exact hS _ (by omega)}
 have h1:=alt_unique m _ hG fun i k=>A (s+i) (s+k)
 have h2:∀m,det (s+m) (fun a b=>if a<s then A a b else if b<s then 0 else delta (a - s) (b - s))=det s A:=by
  intro m
  induction m with
  |zero=>exact det_congr fun a b ha _=>by rw[if_pos (by omega)]
  |succ m ih=>
   rw[show s+(m+1)=s+m+1 from rfl,det_last fun k hk=>by
    rw[if_neg (by omega)]
    by_cases g:k<s
    ·rw[if_pos g]
    ·rw[if_neg g,delta,if_neg (by omega)],ih,if_neg (by omega),if_neg (by omega),delta,if_pos rfl];grind
 have h3:det (s+m) A=det (s+m) (G fun i k=>A (s+i) (s+k)):=det_congr fun a b ha hb=>by
  simp only[G]
  by_cases g:a<s
  ·rw[if_pos g]
  ·rw[if_neg g]
   by_cases g2:b<s
   ·rw[if_pos g2,h a b (by omega) g2]
   ·rw[if_neg g2,show s+(a - s)=a by omega,show s+(b - s)=b by omega]
 rw[h3]
 refine h1.trans ?_
 show det (s+m) (fun a b=>if a<s then A a b else if b<s then 0 else delta (a - s) (b - s))*_=_
 rw[h2 m]
theorem det_schur {s:Nat} {A:Mx} (hd:det s A≠0) (m:Nat):det (s+m) A=det s A*det m (sch s A):=by
 have h:∀j,j≤m→det (s+m) A=det (s+m) fun a b=>if s≤a∧a<s+j then A a b - sumR s (fun p=>xs s A (A a) p*A p b)else A a b:=by
  intro j
  induction j with
  |zero=>intro _;exact det_congr fun a b _ _=>by rw[if_neg (by omega)]
  |succ j ih=>
   intro hj
   rw[ih (by omega),←(det_Alt (s+m)).addrows (i:=s+j) (fun a b=>if s≤a∧a<s+j then A a b - sumR s (fun p=>xs s A (A a) p*A p b)else A a b) (fun p=> - xs s A (A (s+j)) p) (by omega) s (by omega)]
   refine det_congr fun a b _ _=> ?_
   by_cases g:a=s+j
   ·subst g
    rw[setRow_at,if_neg (by omega),if_pos (by omega),sum_congr s (g:=fun p=>(-1)*(xs s A (A (s+j)) p*A p b)) fun p hp=>by rw[if_neg (by omega)];grind,←sum_mulL]
    grind
   ·rw[setRow_ne _ _ g]
    by_cases g2:s≤a∧a<s+j
    ·rw[if_pos g2,if_pos (by omega)]
    ·rw[if_neg g2,if_neg (by omega)]
 rw[h m (Nat.le_refl _),det_congr (B:=fun a b=>if s≤a then A a b - sumR s (fun p=>xs s A (A a) p*A p b)else A a b) fun a b ha _=>by
  by_cases g:s≤a
  ·rw[if_pos ⟨g,ha⟩,if_pos g]
  ·rw[if_neg (by omega),if_neg g]]
 rw[det_block m fun i k hi hk=>by rw[if_pos hi,xs_mul hd _ hk];grind]
 rw[det_congr (n:=s) (B:=A) fun a b ha _=>by rw[if_neg (by omega)]]
 congr 1
 exact det_congr fun i k _ _=>by rw[if_pos (by omega)];rfl
theorem det_smul (c:Rat) (A:Mx):∀n,det n (fun i k=>c*A i k)=c^n*det n A:=by
 intro n
 have h:∀j,j≤n→det n (fun i k=>if i<j then c*A i k else A i k)=c^j*det n A:=by
  intro j
  induction j with
  |zero=>intro _;rw[det_congr (B:=A) fun i k _ _=>if_neg (by omega)];grind
  |succ j ih=>
   intro hj
   have e:(fun i k=>if i<j+1 then c*A i k else A i k)=setRow (fun i k=>if i<j then c*A i k else A i k) j fun k=>c*A j k:=by
    funext i k
    by_cases g:i=j
    ·subst g;rw[setRow_at,if_pos (by omega)]
    ·rw[setRow_ne _ _ g]
     by_cases g2:i<j
     ·rw[if_pos g2,if_pos (by omega)]
     ·rw[if_neg g2,if_neg (by omega)]
   have e2:setRow (fun i k=>if i<j then c*A i k else A i k) j (A j)=fun i k=>if i<j then c*A i k else A i k:=by
    funext i k
    by_cases g:i=j
    ·subst g;rw[setRow_at,if_neg (by omega)]
    ·rw[setRow_ne _ _ g]
   rw[e,(det_Alt n).smul _ _ _ (by omega),e2,ih (by omega),Rat.pow_succ];grind
 rw[←h n (Nat.le_refl _)]
 exact det_congr fun i k hi _=>(if_pos hi).symm
theorem sylvester (s m:Nat) (A:Mx):det (m+1) (bm s A)=det (s+(m+1)) A*det s A^m:=by
 have hb:∀i k,Pol fun t=>bm s (mixI A t) i k:=fun i k=>Pol.det (s+1) fun a b=>mixI_pol A _ _
 have:=generic s A (fun A=>det (m+1) (bm s A) - det (s+(m+1)) A*det s A^m)
  ((Pol.det (m+1) hb).sub ((Pol.det _ (mixI_pol A)).mul ((Pol.det s (mixI_pol A)).pow m))) fun B hB=>by
   rw[det_schur hB,det_congr (A:=bm s B) (B:=fun i k=>det s B*sch s B i k) fun i k _ _=>bm_sch hB i k,det_smul,Rat.pow_succ];grind
 grind
theorem Pol.adj {A:Rat→Mx} (n:Nat) (h:∀i k,Pol fun t=>A t i k) (i k:Nat):Pol fun t=>adj n (A t) i k:=(Pol.det (A:=fun t=>mnr (A t) k i) (n - 1) fun _ _=>h _ _).smul (sg (i+k))
end Go.Proofs.YtjknedoaofjnbaaGreatDoor
namespace Go.Proofs.YtjknedoaofjnbaaGreatDoor
open Go.Sx
set_option linter.unusedSimpArgs false
set_option linter.unusedVariables false
set_option maxRecDepth 100000
set_option maxHeartbeats 4000000
def turns (l:List Nat) (k:Nat):Nat:=l.countP fun u=>decide (k<u)
theorem turns_snoc (l:List Nat) (u k:Nat):turns (l++[u]) k=turns l k+if k<u then 1 else 0:=by
 simp[turns,List.countP_append,List.countP_cons]
def picksR (n:Nat) (A:Mx):Nat→Nat→List Nat→Rat
 |0,_,_=>1
 |m+1,i,l=>sumR n fun k=>if k∈l then 0 else sg (turns l k)*A i k*picksR n A m (i+1) (l++[k])
theorem picks_perm (n:Nat) (A:Mx):∀(m i:Nat) (l l':List Nat),(∀k,k∈l↔k∈l')→(∀k,turns l k=turns l' k)→picksR n A m i l=picksR n A m i l'
 |0,_,_,_,_,_=>rfl
 |m+1,i,l,l',h1,h2=>sum_congr n fun k _=>by
  by_cases h:k∈l
  ·rw[if_pos h,if_pos ((h1 k).1 h)]
  ·rw[if_neg h,if_neg fun g=>h ((h1 k).2 g),h2,picks_perm n A m (i+1) (l++[k]) (l'++[k]) (fun q=>by simp[h1 q]) (fun q=>by rw[turns_snoc,turns_snoc,h2])]
theorem picks_congr (n:Nat) {A B:Mx}:∀(m i:Nat) (l:List Nat),(∀a k,i≤a→a<i+m→k<n→A a k=B a k)→picksR n A m i l=picksR n B m i l
 |0,_,_,_=>rfl
 |m+1,i,l,h=>sum_congr n fun k hk=>by
  rw[picks_congr n m (i+1) (l++[k]) fun a k ha hb hk=>h a k (by omega) (by omega) hk,h i k (by omega) (by omega) hk]
theorem picks_lin (n:Nat) (A:Mx) (r:Nat) (x:Nat→Rat) (c:Rat) (y:Nat→Rat):∀(m i:Nat) (l:List Nat),i≤r→r<i+m→
  picksR n (setRow A r fun k=>x k+c*y k) m i l=picksR n (setRow A r x) m i l+c*picksR n (setRow A r y) m i l
 |0,_,_,h1,h2=>by omega
 |m+1,i,l,h1,h2=>by
  rw[picksR,picksR,picksR,sum_mulL,←sum_add]
  refine sum_congr n fun k _=> ?_
  by_cases hk:k∈l
  ·rw[if_pos hk,if_pos hk,if_pos hk];grind
  ·rw[if_neg hk,if_neg hk,if_neg hk]
   by_cases e:i=r
   ·subst e
    have e1:∀z,picksR n (setRow A i z) m (i+1) (l++[k])=picksR n A m (i+1) (l++[k]):=fun z=>picks_congr n m (i+1) _ fun a q ha _ _=>by rw[setRow_ne _ _ (by omega)]
    rw[e1,e1,e1,setRow_at,setRow_at,setRow_at];grind
   ·rw[setRow_ne _ _ e,setRow_ne _ _ e,setRow_ne _ _ e,picks_lin n A r x c y m (i+1) _ (by omega) (by omega)];grind
theorem sum_asym (n:Nat) (T:Nat→Nat→Rat) (h:∀k l,k<n→l<n→T k l= - T l k):sumR n (fun k=>sumR n (T k))=0:=by
 have h1:sumR n (fun k=>sumR n (T k))=sumR n fun k=>sumR n fun l=>(-1)*T l k:=
  sum_congr n fun k hk=>sum_congr n fun l hl=>by rw[h k l hk hl];grind
 have h2:(sumR n fun k=>sumR n fun l=>(-1)*T l k)=sumR n fun k=>(-1)*sumR n fun l=>T l k:=
  sum_congr n fun k _=>(sum_mulL _ _).symm
 have h3:(sumR n fun k=>(-1)*sumR n fun l=>T l k)=(-1)*sumR n (fun k=>sumR n (T k)):=by
  rw[←sum_mulL,←sum_swap]
 rw[h2,h3]at h1
 grind
theorem picks_alt (n:Nat) (A:Mx) (r:Nat) (h:∀k,k<n→A r k=A (r+1) k):∀(m i:Nat) (l:List Nat),i≤r→r+1<i+m→picksR n A m i l=0
 |0,_,_,h1,h2=>by omega
 |1,_,_,h1,h2=>by omega
 |m+2,i,l,h1,h2=>by
  by_cases e:i=r
  ·subst e
   rw[picksR]
   refine Eq.trans ?_ (sum_asym n (fun k q=>if k∈l then 0 else if q∈l++[k]then 0 else sg (turns l k)*A i k*(sg (turns (l++[k]) q)*A (i+1) q*picksR n A m (i+1+1) (l++[k]++[q]))) ?_)
   ·refine sum_congr n fun k _=> ?_
    by_cases hk:k∈l
    ·rw[if_pos hk,sum_zeros fun q _=>if_pos hk]
    ·rw[if_neg hk,picksR,sum_mulL]
     refine sum_congr n fun q _=> ?_
     rw[if_neg hk]
     by_cases hq:q∈l++[k]
     ·rw[if_pos hq,if_pos hq];grind
     ·rw[if_neg hq,if_neg hq]
   ·intro k q hk hq
    by_cases h1:k∈l
    ·rw[if_pos h1]
     by_cases h2:q∈l
     ·rw[if_pos h2];grind
     ·rw[if_neg h2,if_pos (by simp[h1])];grind
    ·rw[if_neg h1]
     by_cases h2:q∈l
     ·rw[if_pos (by simp[h2]),if_pos h2];grind
     ·rw[if_neg h2]
      by_cases h3:q=k
      ·subst h3;rw[if_pos (by simp)];grind
      ·rw[if_neg (by simp[h2,h3]),if_neg (by simp[h1];exact fun g=>h3 g.symm)]
       rw[picks_perm n A m (i+1+1) (l++[k]++[q]) (l++[q]++[k]) (fun p=>by simp;grind) (fun p=>by rw[turns_snoc,turns_snoc,turns_snoc,turns_snoc];omega)]
       rw[turns_snoc,turns_snoc,h k hk,←h q hq]
       rcases Nat.lt_or_gt_of_ne h3 with g|g
       ·rw[if_pos g,if_neg (by omega),sg];grind
       ·rw[if_neg (by omega),if_pos g];simp only[sg,Nat.add_zero];grind
  ·rw[picksR]
   refine sum_zeros fun k _=> ?_
   by_cases hk:k∈l
   ·rw[if_pos hk]
   ·rw[if_neg hk,picks_alt n A r h (m+1) (i+1) _ (by omega) (by omega)];grind
theorem picks_one (n:Nat):∀(m i:Nat),i+m=n→picksR n delta m i (List.range i)=1
 |0,_,_=>rfl
 |m+1,i,h=>by
  rw[picksR,sum_one (j:=i) n (by omega) fun k _ hne=>by
   split
   ·rfl
   ·rw[delta,if_neg (fun g=>hne g.symm)];grind]
  rw[if_neg (by simp),←List.range_succ,picks_one n m (i+1) (by omega),delta,if_pos rfl]
  have:turns (List.range i) i=0:=by
   rw[turns,List.countP_eq_zero];intro u hu;have:=List.mem_range.1 hu;simp;omega
  rw[this,sg];grind
theorem picks_det (n:Nat) (A:Mx):picksR n A n 0 []=det n A:=by
 have h:Alt n fun A=>picksR n A n 0 []:={
  congr:=fun A B h=>picks_congr n n 0 [] fun a k _ ha hk=>h a k (by omega) hk
  lin:=fun A i x c y hi=>picks_lin n A i x c y n 0 [] (by omega) (by omega)
  alt:=fun A i hi h=>picks_alt n A i h n 0 [] (by omega) (by omega)}
 rw[alt_unique n _ h A]
 show picksR n delta n 0 (List.range 0)*_=_
 rw[picks_one n n 0 (by omega)];grind
def Bd (x b:Rat):Prop:= -b≤x∧x≤b
theorem Bd.nonneg {x b:Rat} (h:Bd x b):0≤b:=by obtain⟨h1,h2⟩:=h;grind
theorem Bd.add {x y a b:Rat} (h:Bd x a) (k:Bd y b):Bd (x+y) (a+b):=by
 obtain⟨h1,h2⟩:=h;obtain⟨k1,k2⟩:=k;constructor<;>grind
theorem Bd.neg {x a:Rat} (h:Bd x a):Bd (-x) a:=by obtain⟨h1,h2⟩:=h;constructor<;>grind
theorem Bd.mono {x a b:Rat} (h:Bd x a) (hb:a≤b):Bd x b:=by obtain⟨h1,h2⟩:=h;constructor<;>grind
theorem Bd.mul {x y a b:Rat} (h:Bd x a) (k:Bd y b):Bd (x*y) (a*b):=by
 have ha:=h.nonneg;have hb:=k.nonneg
 obtain⟨h1,h2⟩:=h;obtain⟨k1,k2⟩:=k
 have p1:=Rat.mul_nonneg (show 0≤a - x by grind) (show 0≤b+y by grind)
 have p2:=Rat.mul_nonneg (show 0≤a+x by grind) (show 0≤b - y by grind)
 have p3:=Rat.mul_nonneg (show 0≤a - x by grind) (show 0≤b - y by grind)
 have p4:=Rat.mul_nonneg (show 0≤a+x by grind) (show 0≤b+y by grind)
 constructor<;>grind
theorem Bd.sg {x a:Rat} (h:Bd x a):∀n,Bd (sg n*x) a
 |0=>by rw[Go.Proofs.YtjknedoaofjnbaaGreatDoor.sg,show(1:Rat)*x=x by grind];exact h
 |n+1=>by rw[Go.Proofs.YtjknedoaofjnbaaGreatDoor.sg,show - Go.Proofs.YtjknedoaofjnbaaGreatDoor.sg n*x= - (Go.Proofs.YtjknedoaofjnbaaGreatDoor.sg n*x) by grind];exact(Bd.sg h n).neg
theorem Bd.sum {f r:Nat→Rat}:∀n,(∀i,i<n→Bd (f i) (r i))→Bd (sumR n f) (sumR n r)
 |0,_=>(show Bd 0 0 from⟨by decide,by decide⟩)
 |n+1,h=>(Bd.sum n fun i hi=>h i (by omega)).add (h n (by omega))
end Go.Proofs.YtjknedoaofjnbaaGreatDoor
namespace Go.Proofs.YtjknedoaofjnbaaGreatDoor
open Go.Sx
set_option linter.unusedSimpArgs false
set_option linter.unusedVariables false
set_option maxRecDepth 100000
set_option maxHeartbeats 4000000
abbrev Mz:=Nat→Nat→Int
def toR (A:Mz):Mx:=fun i k=>(A i k:Rat)
def sumZ:Nat→(Nat→Int)→Int
 |0,_=>0
 |n+1,f=>sumZ n f+f n
theorem sumZ_cast (f:Nat→Int):∀n,((sumZ n f:Int):Rat)=sumR n fun i=>(f i:Rat)
 |0=>by simp[sumZ,sumR]
 |n+1=>by rw[sumZ,sumR,Rat.intCast_add,sumZ_cast f n]
def sgZ:Nat→Int
 |0=>1
 |n+1=> - sgZ n
theorem sgZ_cast:∀n,((sgZ n:Int):Rat)=sg n
 |0=>by simp[sgZ,sg]
 |n+1=>by rw[sgZ,sg,Rat.intCast_neg,sgZ_cast n]
theorem sgZ_mod:∀n,sgZ n=if n % 2=1 then -1 else 1
 |0=>rfl
 |n+1=>by
  rw[sgZ,sgZ_mod n]
  by_cases h:n % 2=1
  ·rw[if_pos h,if_neg (by omega)];rfl
  ·rw[if_neg h,if_pos (by omega)]
def detZ:Nat→Mz→Int
 |0,_=>1
 |n+1,A=>sumZ (n+1) fun k=>sgZ k*A 0 k*detZ n fun i j=>A (i+1) (sk k j)
theorem detZ_cast:∀(n:Nat) (A:Mz),((detZ n A:Int):Rat)=det n (toR A)
 |0,_=>by simp[detZ,det]
 |n+1,A=>by
  rw[detZ,det_succ,sumZ_cast]
  refine sum_congr _ fun k _=> ?_
  rw[Rat.intCast_mul,Rat.intCast_mul,sgZ_cast,detZ_cast n];rfl
theorem cast_inj {a b:Int} (h:(a:Rat)=(b:Rat)):a=b:=Rat.intCast_inj.1 h
theorem detZ_congr {n:Nat} {A B:Mz} (h:∀i k,i<n→k<n→A i k=B i k):detZ n A=detZ n B:=by
 apply cast_inj
 rw[detZ_cast,detZ_cast]
 exact det_congr fun i k hi hk=>by unfold toR;rw[h i k hi hk]
def bmZ (s:Nat) (A:Mz) (i k:Nat):Int:=detZ (s+1) fun a b=>A (at1 s i a) (at1 s k b)
theorem bmZ_cast (s:Nat) (A:Mz) (i k:Nat):((bmZ s A i k:Int):Rat)=bm s (toR A) i k:=detZ_cast _ _
theorem bmZ_zero (A:Mz) (i k:Nat):bmZ 0 A i k=A i k:=by
 apply cast_inj;rw[bmZ_cast,bm_zero];rfl
theorem bmZ_first (s:Nat) (A:Mz):bmZ s A 0 0=detZ (s+1) A:=by
 apply cast_inj;rw[bmZ_cast,bm_first,detZ_cast]
theorem bmZ_step (s:Nat) (A:Mz) (i k:Nat):bmZ s A 0 0*bmZ s A (i+1) (k+1) - bmZ s A (i+1) 0*bmZ s A 0 (k+1)=detZ s A*bmZ (s+1) A i k:=by
 apply cast_inj
 have:=bm_step s (toR A) i k
 simp only[Rat.intCast_sub,Rat.intCast_mul,bmZ_cast,detZ_cast];exact this
theorem bmZ_div {s:Nat} {A:Mz} (h:detZ s A≠0) (i k:Nat):(bmZ s A 0 0*bmZ s A (i+1) (k+1) - bmZ s A (i+1) 0*bmZ s A 0 (k+1))/detZ s A=bmZ (s+1) A i k:=by
 rw[bmZ_step,Int.mul_ediv_cancel_left _ h]
theorem bmZ_sing {s n:Nat} {A:Mz} (hd:detZ s A≠0) (hs:s<n) (h:∀i,s+i<n→bmZ s A i 0=0):detZ n A=0:=by
 apply cast_inj
 rw[detZ_cast]
 refine bm_sing (s:=s) ?_ hs fun i hi=> ?_
 ·rw[←detZ_cast];intro g;exact hd (cast_inj g)
 ·rw[←bmZ_cast,h i hi];rfl
def swapZ (A:Mz) (i j:Nat):Mz:=fun p=>if p=i then A j else if p=j then A i else A p
theorem swapZ_cast (A:Mz) (i j:Nat):toR (swapZ A i j)=swapRow (toR A) i j:=by
 funext p q
 unfold toR swapZ swapRow
 by_cases h:p=i
 ·rw[if_pos h,if_pos h]
 ·rw[if_neg h,if_neg h]
  by_cases h2:p=j
  ·rw[if_pos h2,if_pos h2]
  ·rw[if_neg h2,if_neg h2]
theorem swapZ_self (A:Mz) (i:Nat):swapZ A i i=A:=by
 funext p;unfold swapZ
 by_cases h:p=i
 ·rw[if_pos h,h]
 ·rw[if_neg h,if_neg h]
theorem detZ_swap {n:Nat} (A:Mz) {i j:Nat} (hi:i<n) (hj:j<n) (hne:i≠j):detZ n (swapZ A i j)= - detZ n A:=by
 apply cast_inj
 rw[detZ_cast,swapZ_cast,(det_Alt n).swap _ hi hj hne,Rat.intCast_neg,detZ_cast]
theorem bmZ_swap (s:Nat) (A:Mz) (j p q:Nat):bmZ s (swapZ A s (s+j)) p q=swapZ (bmZ s A) 0 j p q:=by
 have e:∀p r,(∀a,a<s+1→swapZ A s (s+j) (at1 s p a)=A (at1 s r a))→bmZ s (swapZ A s (s+j)) p q=bmZ s A r q:=fun p r h=>detZ_congr fun a b ha _=>by rw[h a ha]
 unfold swapZ at e ⊢
 by_cases h:p=0
 ·subst h
  rw[if_pos rfl]
  refine e 0 j fun a ha=> ?_
  unfold at1
  by_cases g:a<s
  ·rw[if_pos g,if_pos g,if_neg (by omega),if_neg (by omega)]
  ·rw[if_neg g,if_neg g,if_pos (Nat.add_zero s)]
 ·rw[if_neg h]
  by_cases h2:p=j
  ·subst h2
   rw[if_pos rfl]
   refine e p 0 fun a ha=> ?_
   unfold at1
   by_cases g:a<s
   ·rw[if_pos g,if_pos g,if_neg (by omega),if_neg (by omega)]
   ·rw[if_neg g,if_neg g,if_neg (by omega),if_pos rfl,Nat.add_zero]
  ·rw[if_neg h2]
   refine e p p fun a ha=> ?_
   unfold at1
   by_cases g:a<s
   ·rw[if_pos g,if_neg (by omega),if_neg (by omega)]
   ·rw[if_neg g,if_neg (by omega),if_neg (by omega)]
theorem detZ_swap_lead (s:Nat) (A:Mz) (j:Nat):detZ s (swapZ A s (s+j))=detZ s A:=detZ_congr fun i k hi _=>by
 unfold swapZ;rw[if_neg (by omega),if_neg (by omega)]
end Go.Proofs.YtjknedoaofjnbaaGreatDoor
namespace Go.Proofs.YtjknedoaofjnbaaGreatDoor
open Go.Sx
set_option linter.unusedSimpArgs false
set_option linter.unusedVariables false
set_option maxRecDepth 100000
set_option maxHeartbeats 4000000
end Go.Proofs.YtjknedoaofjnbaaGreatDoor
namespace Go.Proofs.YtjknedoaofjnbaaGreatDoor
open Go.Sx
set_option linter.unusedSimpArgs false
set_option linter.unusedVariables false
section
open Go.Shelf Go.RowKit Go.Sort Go.Lib
set_option maxHeartbeats 6400000 in
set_option maxRecDepth 100000 in
theorem fmt_big (u:Nat) (hu:100≤u) (hu64:u<18446744073709551616) (w:World) (htab:Lib.TabIs Tryz.prog w "internal/strconv.uint64pow10" .u64 Lib.pow10Tab):
  Calls Tryz.prog 239 #[.int .u64 u,.int .i64 10] w fun e w'=>e= .returned (.string ⟨(Lib.decDigits u).toArray⟩)∧∃k os,w'=grow (w.drewN k) os:=by
 have mixed:Tryz.prog.follows .mixedOrders=true:=by kernel_rfl
 have t3:=Tryz.underlying3;have a3:=Tryz.isAgg3;have z3:=Tryz.sizeOf3;have v3:=Tryz.zeroValue3
 have t9:=Tryz.underlying9;have a9:=Tryz.isAgg9;have z9:=Tryz.sizeOf9;have v9:=Tryz.zeroValue9
 have t4:=Tryz.underlying4;have a4:=Tryz.isAgg4;have z4:=Tryz.sizeOf4;have v4:=Tryz.zeroValue4
 have t53:=Tryz.underlying45;have a53:=Tryz.isAgg45;have z53:=Tryz.sizeOf45;have v53:=Tryz.zeroValue45
 have t5:=Tryz.underlying5;have a5:=Tryz.isAgg5;have z5:=Tryz.sizeOf5;have v5:=Tryz.zeroValue5
 have t37:=Tryz.underlying83;have a37:=Tryz.isAgg83;have z37:=Tryz.sizeOf83;have v37:=Tryz.zeroValue83
 have t171:=Tryz.underlying299;have a171:=Tryz.isAgg299;have z171:=Tryz.sizeOf299;have v171:=Tryz.zeroValue299
 have t0:=Tryz.underlying0;have a0:=Tryz.isAgg0;have z0:=Tryz.sizeOf0;have v0:=Tryz.zeroValue0
 have e284:∀args w,(callFunc 250 args).run Tryz.prog w= .ok (.enter 250 args) w:=enters_of Tryz.func250 (by kernel_rfl) rfl
 have e285:∀args w,(callFunc 251 args).run Tryz.prog w= .ok (.enter 251 args) w:=enters_of Tryz.func251 (by kernel_rfl) rfl
 have hu1:1≤u:=by omega
 have hnd20:Lib.nDigits u≤20:=by have:=Lib.numDigits_eq u hu1 hu64;split at this<;>omega
 have hal:Tryz.prog.arrayLen 299=24:=by simp[Program.arrayLen,t171]
 have hsl:∀W,(Instr.sliceAt 299 (.pointer (some ⟨w.heap.size,0,none⟩)) none (some (.int .i64 (Lib.nDigits u:Int))) none).run Tryz.prog W= .ok (.slice (some ⟨w.heap.size,0,none⟩) (Lib.nDigits u) 24) W:=fun W=>by
  rw[run_sliceAt_array_h W 299 ⟨w.heap.size,0,none⟩ (by simp[Program.arrayLen,Program.elem,t171]) .i64 (Lib.nDigits u:Int) (by omega) (by rw[hal];omega)]
  go_simp
 have hH0:=Lib.holds_zero0 w 299 (Lib.nDigits u) (by omega)
 have hfmt:=Tryz.internal_strconv_formatBase10 w.heap.size 0 24 u (Array.replicate (Lib.nDigits u) 0) (w.alloc (.cells Lib.zeros24 299)) hH0 (by rw[Array.size_replicate];exact Lib.lt_pow_nDigits u) hu64 (by rw[Array.size_replicate];omega)
 rw[Array.size_replicate]at hfmt
 have HH0:=Lib.hid hH0
 have iu:¬(u:Int)<100:=by omega
 clear hH0 hal
 go_enter Tryz.func239,Tryz.ntmps239
 go_wp2_with (first
  |(go_at_fn 250;refine(Tryz.internal_strconv_numDigits u hu1 hu64 _ (Lib.tabIs_alloc htab _)).mono ?_;rintro e w' ⟨rfl,rfl⟩))
 go_at_fn 251
 refine hfmt.mono ?_
 rintro e w' ⟨rfl,k,v',dk,rfl,hF⟩
 have hcv:(convert 83 9 (.slice (some ⟨w.heap.size,0,none⟩) (Lib.nDigits u) 24)).run Tryz.prog ((putRow (fun(b:UInt8)=>Value.int .u8 (b.toNat:Int)) (w.alloc (.cells Lib.zeros24 299)) w.heap.size 0 dk).drewN k)= .ok (.string ⟨(Lib.decDigits u).toArray⟩) ((putRow (fun(b:UInt8)=>Value.int .u8 (b.toNat:Int)) (w.alloc (.cells Lib.zeros24 299)) w.heap.size 0 dk).drewN k):=by
  have h:=run_convert_bytes_back (P:=Tryz.prog) ((putRow (fun(b:UInt8)=>Value.int .u8 (b.toNat:Int)) (w.alloc (.cells Lib.zeros24 299)) w.heap.size 0 dk).drewN k) 83 9 5 ⟨w.heap.size,0,none⟩ 24 (Lib.decDigits u) t37 t5 t9 (fun j hj=>by
   rw[Lib.row_is_numeral hF j hj,Lib.add_plain,World.cell?_drewN]
   exact cell?_putRow (fun(b:UInt8)=>Value.int .u8 (b.toNat:Int)) _ w.heap.size 0 _ dk HH0.out (by rw[hF.size,Array.size_replicate]) j (by rw[hF.size];rw[Lib.decDigits_length]at hj;exact hj))
  rw[Lib.decDigits_length]at h
  exact h
 go_wp2
 go_ret
 obtain⟨os,eo⟩:=Lib.fin_at w (.cells Lib.zeros24 299) dk k 0
 exact⟨rfl,k,os,eo⟩
end
end Go.Proofs.YtjknedoaofjnbaaGreatDoor
namespace Go.Proofs.YtjknedoaofjnbaaGreatDoor
open Go.Sx
set_option linter.unusedSimpArgs false
set_option linter.unusedVariables false
set_option maxRecDepth 100000
set_option maxHeartbeats 4000000
def padF:Nat→Nat→List UInt8
 |0,_=>[]
 |k+1,r=>padF k (r/10)++[UInt8.ofNat (48+r % 10)]
theorem dec_big {n:Nat} (h:10≤n):Lib.decDigits n=Lib.decDigits (n/10)++[UInt8.ofNat (48+n % 10)]:=by rw[Lib.decDigits,dif_neg (by omega)]
theorem dec_lt {n:Nat} (h:n<10):Lib.decDigits n=[UInt8.ofNat (48+n)]:=by rw[Lib.decDigits,dif_pos h]
theorem dec_split:∀k q r,0<q→r<10^k→Lib.decDigits (q*10^k+r)=Lib.decDigits q++padF k r
 |0,q,r,hq,hr=>by
  obtain rfl:r=0:=by simp at hr;exact hr
  simp[padF]
 |k+1,q,r,hq,hr=>by
  have hp:0<10^k:=Nat.pow_pos (by decide)
  have e:q*10^(k+1)=10*(q*10^k):=by rw[Nat.pow_succ,←Nat.mul_assoc,Nat.mul_comm]
  have hqp:0<q*10^k:=Nat.mul_pos hq hp
  rw[Nat.pow_succ]at hr
  rw[dec_big (by omega),show(q*10^(k+1)+r)/10=q*10^k+r/10 by omega,show(q*10^(k+1)+r) % 10=r % 10 by omega,dec_split k q (r/10) hq (by omega),padF,List.append_assoc]
theorem pad_zero:∀k,padF k 0=List.replicate k 48
 |0=>rfl
 |k+1=>by rw[padF,Nat.zero_div,pad_zero k,List.replicate_succ'];rfl
theorem pad_dec:∀k r,r<10^k→0<k→padF k r=List.replicate (k - (Lib.decDigits r).length) 48++Lib.decDigits r∧(Lib.decDigits r).length≤k
 |0,r,h,h0=>by omega
 |k+1,r,h,_=>by
  by_cases h1:r<10
  ·rw[padF,show r/10=0 by omega,pad_zero,dec_lt h1,show r % 10=r by omega]
   exact⟨rfl,by simp⟩
  ·have hk:0<k:=by rcases Nat.eq_zero_or_pos k with g|g
                   ·subst g;simp at h;omega
                   ·exact g
   rw[Nat.pow_succ]at h
   obtain⟨h2,h3⟩:=pad_dec k (r/10) (by omega) hk
   have e:=dec_big (n:=r) (by omega)
   rw[padF,h2,e,List.length_append,List.append_assoc,List.length_singleton]
   exact⟨by rw[show k+1 - ((Lib.decDigits (r/10)).length+1)=k - (Lib.decDigits (r/10)).length by omega],by omega⟩
theorem pow_tab {ρ:Rho} {w:World} (h:∀b o,ρ.imm b=some o→w.heap[b]? =some o):Lib.TabIs Tryz.prog w "internal/strconv.uint64pow10" .u64 Lib.pow10Tab:=by
 obtain⟨o,h1,_,ty,fz,rfl⟩:=ρ.glob 2 .u64 Lib.pow10Tab (by decide+kernel)
 exact tab_is (g:=2) (by kernel_rfl) (h _ _ h1)
theorem call_valsT {f:FuncId} {vs:List Value} {v:Value} (hf:FnOK Tryz.prog f) (hv:v.oneCell'=true) (h:∀w:World,Lib.TabIs Tryz.prog w "internal/strconv.uint64pow10" .u64 Lib.pow10Tab→Calls Tryz.prog f vs.toArray w fun e w'=>e= .returned v∧RowKit.Below w.heap.size w w'):CallOK Tryz.prog f (vs.map .val) [] (.val v) [] []:=by
 refine .inl ⟨hf,fun ρ w z hz hp=> ?_⟩
 rw[zip_vals hz]
 refine(h w (pow_tab hp.imm)).mono ?_
 rintro e w' ⟨rfl,hb⟩
 exact⟨v,ρ,rfl,.of_below hb (has_val hv)⟩
theorem t_iFmtB (n:Nat) (h1:100≤n) (h2:n<18446744073709551616):CallOK Tryz.prog 239 [.val (.int .u64 (n:Nat)),.val (.int .i64 10)] [] (.val (.string (tN n))) [] []:=
 call_valsT (vs:=[.int .u64 (n:Nat),.int .i64 10]) ⟨Tryz.f239,Tryz.func239,rfl,by kernel_rfl⟩ rfl fun w ht=>by
  rw[tN_eq]
  refine(fmt_big n h1 h2 w ht).mono ?_
  rintro e w' ⟨rfl,k,os,rfl⟩
  exact⟨rfl,Lib.below_grow w.heap.size w (Nat.le_refl _) k os⟩
theorem t_FormatG (n:Nat) (h:n<18446744073709551616):CallOK Tryz.prog 211 [.val (.int .u64 (n:Nat)),.val (.int .i64 10)] [] (.val (.string (tN n))) [] []:=by
 by_cases hs:n<100
 ·exact t_Format n hs
 ·have k1:=t_iFmtB n (by omega) h
  refine callV (Z:=[]) tabOK mixedOK Tryz.func211 rfl (by kernel_rfl) rfl rfl (by kernel_rfl) rfl ?_
  intro W0 w0 ρ0 hE
  conv=>whnf
  (repeat(first|(refine g_c (by assumption) ?_;conv=>whnf)));(first|exact Recast.refl _|exact Frz.recast (Recast.refl _) rfl|(refine Frz.one rfl rfl ?_;skip)|(refine Frz.tup ?_;skip))
theorem t_Itoa (n:Nat) (h:n<9223372036854775808):CallOK Tryz.prog 213 [.val (.int .i64 (n:Nat))] [] (.val (.string (tN n))) [] []:=
 call_valsT (vs:=[.int .i64 (n:Nat)]) ⟨Tryz.f213,Tryz.func213,rfl,by kernel_rfl⟩ rfl fun w ht=>by
  rw[tN_eq]
  refine(Tryz.strconv_Itoa n (by omega) (by omega) w ht).mono ?_
  rintro e w' ⟨rfl,k,os,rfl⟩
  refine⟨?_,Lib.below_grow w.heap.size w (Nat.le_refl _) k os⟩
  rw[Lib.itoa_nonneg]
theorem t_Repeat (c:Nat) (hc:c≤100):CallOK Tryz.prog 214 [.val (.string ⟨#[48]⟩),.val (.int .i64 (c:Nat))] [] (.val (.string ⟨(List.replicate c 48).toArray⟩)) [] []:=
 call_vals (vs:=[.string ⟨#[48]⟩,.int .i64 (c:Nat)]) ⟨Tryz.f214,Tryz.func214,rfl,by kernel_rfl⟩ rfl fun w=>by
  have e:∀c,Lib.repeatL [48] c=List.replicate c 48:=fun c=>by
   induction c with
   |zero=>rfl
   |succ c ih=>show[48]++Lib.repeatL [48] c=_;rw[ih,List.replicate_succ,List.singleton_append]
  refine(Tryz.strings_Repeat ⟨#[48]⟩ c w (by omega) (by show 1*c≤_;omega)).mono ?_
  rintro e' w' ⟨rfl,hb⟩
  exact⟨by rw[show(⟨#[48]⟩:ByteArray).data.toList=[48]from rfl,e],hb⟩
abbrev sblk (ss:List ByteArray):Blk:=⟨9,true,.seq 1 (ss.map sel)⟩
theorem str_ext {a b:List ByteArray} {n:Nat} (ha:a.length=n) (hb:b.length=n) (h:∀i,i<n→a.getD i .empty=b.getD i .empty):a=b:=by
 refine List.ext_getElem (ha.trans hb.symm) fun i h1 h2=> ?_
 have:=h i (by omega)
 rwa [List.getD_eq_getElem?_getD,List.getD_eq_getElem?_getD,List.getElem?_eq_getElem h1,List.getElem?_eq_getElem h2]at this
theorem str_set {l:List ByteArray} {i j:Nat} {v:ByteArray} (hi:i<l.length):(l.set i v).getD j .empty=if i=j then v else l.getD j .empty:=by
 simp only[List.getD_eq_getElem?_getD,List.getElem?_set]
 by_cases h:i=j
 ·subst h;simp[hi]
 ·simp[h]
theorem str_rev {l:List ByteArray} {n k:Nat} (hl:l.length=n) (hk:k<n):l.reverse.getD k .empty=l.getD (n - 1 - k) .empty:=by
 simp only[List.getD_eq_getElem?_getD]
 rw[List.getElem?_reverse (by omega),hl]
theorem t_Reverse (ss:List ByteArray) (n:Nat) (hn:ss.length=n) (hl:n<1099511627776) (K:Nat):CallOK Tryz.prog 215 [.slc K 1 0 n] [(K,sblk ss)] (.tup []) [] [(K,sblk ss.reverse)]:=by
 have e0:IntKind.i64.wrap ((n:Int) - 1)=(n:Int) - 1:=wrap_i64 (by omega) (by omega)
 refine callK (Z:=[]) tabOK mixedOK Tryz.func215 rfl (by kernel_rfl) (args:=[.slc 1001 1 0 n]) (fk:=[(1001,sblk ss)]) (c:=.tup []) (new:=[]) (upd:=[(1001,sblk ss.reverse)]) (ShapeOK.of rfl rfl rfl rfl rfl rfl rfl rfl rfl rfl rfl) rfl (fun _=>K) NamesOK.upd ?_
 intro W0 w0 ρ0 hE
 conv=>whnf
 (repeat(first|(rw[e0];conv=>whnf)))
 refine SW_loopN hE (fun k=>k) [0,2,3] [1001] (fun q fr hp=>∃(i:Nat) (ys:List ByteArray),q=n - i∧(2*i≤n)∧ys.length=n∧(∀k,k<n→ys.getD k .empty=if k<i∨n - i≤k then ss.getD (n - 1 - k) .empty else ss.getD k .empty)∧
  fr=[(0,.slc 1001 1 0 n),(2,.val (.int .i64 (i:Nat))),(3,.val (.int .i64 ((n:Int) - 1 - i)))]∧hp=[(1001,sblk ys)]) n ?_ ?_ ?_
 ·kernel_rfl
 ·exact⟨0,ss,rfl,by omega,hn,(fun k hk=>by rw[if_neg (by omega)]),by rw[show(n:Int) - 1 - ((0:Nat):Int)=(n:Int) - 1 by omega];rfl,rfl⟩
 rintro q _ _ ⟨i,ys,rfl,hi,hy,hv,rfl,rfl⟩
 conv=>whnf
 by_cases hgo:i+i+1<n
 ·obtain⟨j,hj⟩:∃j,j=n - 1 - i:=⟨_,rfl⟩
  have ej:(n:Int) - 1 - i=(j:Int):=by omega
  rw[ej]
  have t1:decide ((i:Int)<(j:Int))=true:=decide_eq_true (by omega)
  have e1:=winc (i:=i) (by omega)
  have e2:IntKind.i64.wrap ((j:Int) - 1)=(n:Int) - 1 - ((i+1:Nat):Int):=by rw[wrap_i64 (by omega) (by omega)];omega
  have g1:(ys.map sel).getD i .any= .val (.string (ys.getD i .empty)):=by rw[map_get (d:=ByteArray.empty) (by omega)];rfl
  have g2:(ys.map sel).getD j .any= .val (.string (ys.getD j .empty)):=by rw[map_get (d:=ByteArray.empty) (by omega)];rfl
  have g3:((ys.map sel).set i (.val (.string (ys.getD j .empty)))).getD j .any= .val (.string (ys.getD j .empty)):=by rw[←g2,List.getD_eq_getElem?_getD,List.getElem?_set_ne (by omega),←List.getD_eq_getElem?_getD]
  have hlm:(ys.map sel).length=n:=by rw[List.length_map];exact hy
  have hset:(((ys.set i (ys.getD j .empty)).set j (ys.getD i .empty)).map sel)=((ys.map sel).set i (.val (.string (ys.getD j .empty)))).set j (.val (.string (ys.getD i .empty))):=by rw[List.map_set,List.map_set];rfl
  have hnew:∀k,k<n→((ys.set i (ys.getD j .empty)).set j (ys.getD i .empty)).getD k .empty=if k<i+1∨n - (i+1)≤k then ss.getD (n - 1 - k) .empty else ss.getD k .empty:=by
   intro k hk
   rw[str_set (by rw[List.length_set];omega),str_set (by omega)]
   by_cases h1:j=k
   ·rw[if_pos h1,if_pos (by omega),hv i (by omega),if_neg (by omega),show n - 1 - k=i by omega]
   ·rw[if_neg h1]
    by_cases h2:i=k
    ·rw[if_pos h2,if_pos (by omega),hv j (by omega),if_neg (by omega),show n - 1 - k=j by omega]
    ·rw[if_neg h2,hv k hk]
     by_cases h3:k<i∨n - i≤k
     ·rw[if_pos h3,if_pos (by omega)]
     ·rw[if_neg h3,if_neg (by omega)]
  (repeat((first|refine step_w1 rfl rfl ?_|refine step_i (by kernel_rfl) ?_|refine And.intro (by first|decide|omega|(simp only[tl0,dlen,List.length_replicate,List.length_set,List.length_map,List.length_zipWith,List.length_take,List.length_append,List.length_cons,List.length_nil];omega)) ?_|rw[t1]|rw[show 0+(i:Int).toNat=i from by omega]|rw[show 0+(j:Int).toNat=j from by omega]|rw[g1]|rw[g2]|rw[g3]|rw[e1]|rw[e2]);conv=>whnf))
  refine⟨n - (i+1),fun k=>k,[0,2,3],[1001],by omega,by kernel_rfl,i+1,_,rfl,by omega, ?_,hnew,rfl, ?_⟩
  ·rw[List.length_set,List.length_set];exact hy
  ·rw[sblk,hset];rfl
 ·have t1:decide ((i:Int)<(n:Int) - 1 - i)=false:=decide_eq_false (by omega)
  have e:ys=ss.reverse:=str_ext hy (by rw[List.length_reverse];exact hn) fun k hk=>by
   rw[hv k hk,str_rev hn hk]
   split
   ·rfl
   ·rw[show n - 1 - k=k by omega]
  rw[e]
  (repeat(first|(refine step_w2 rfl rfl ?_;conv=>whnf)|(rw[t1];conv=>whnf)))
  exact⟨Recast.refl _,(fun _ _ h=>by cases h),fun k b hm=>by simp only[List.mem_singleton,Prod.mk.injEq]at hm;obtain⟨rfl,rfl⟩:=hm;rfl⟩
theorem call_strsM {P:Program} {f:FuncId} {ss:List ByteArray} {n:Nat} {sep:ByteArray} {v:Value} {ty:TypeId} (hn:ss.length=n) (hf:FnOK P f) (hv:v.oneCell'=true)
  (h0:ss=[]→∀(a:Option Addr) (w:World),Calls P f #[.slice a 0 0,.string sep] w fun e w'=>e= .returned v∧w'=w)
  (h:∀(bk o c:Nat) (w:World),(∀(j:Nat) x,ss[j]? =some x→w.cell? ⟨bk,o+j,none⟩=some (.string x))→bk<w.heap.size→ss.length≤c→Calls P f #[.slice (some ⟨bk,o,none⟩) ss.length c,.string sep] w fun e w'=>e= .returned v∧RowKit.Below w.heap.size w w') (K:Nat):
  CallOK P f [.slc K 1 0 n,.val (.string sep)] [(K,⟨ty,true,.seq 1 (ss.map sel)⟩)] (.val v) [] []:=by
 subst hn
 refine .inl ⟨hf,fun ρ w z hz hp=> ?_⟩
 simp only[HasZ]at hz
 obtain⟨x,_,rfl,hx,y,_,rfl,hy,rfl⟩:=hz
 simp only[HasC]at hy
 obtain⟨rfl,_⟩:=hy
 have fin:∀(a:Value),(Calls P f #[a,.string sep] w fun e w'=>e= .returned v∧RowKit.Below w.heap.size w w')→Calls P f (List.zipWith mkV [.slc K 1 0 ss.length,SV.val (.string sep)] [[a],[.string sep]]).toArray w fun e w'=>∃v' ρ',e= .returned v'∧Post ρ w (.val v) [] [] v' ρ' w':=fun a hc=>by
  have e:(List.zipWith mkV [.slc K 1 0 ss.length,SV.val (.string sep)] [[a],[.string sep]]).toArray= #[a,.string sep]:=by simp[mkV,SV.isOne]
  rw[e]
  refine hc.mono ?_
  rintro e w' ⟨rfl,hb⟩
  exact⟨v,ρ,rfl,.of_below hb (has_val hv)⟩
 obtain⟨z,hz,hcase⟩:=blk_rows (hp.hfk K _ (List.mem_cons_self ..)) rfl rfl
 simp only[HasC]at hx
 rcases hx with⟨b,t,cap,e1,e2,e3,rfl⟩|⟨hn,a,rfl⟩
 ·rcases hcase with⟨b',t',ex,h1,h2,h3,h4⟩|⟨h1,_⟩
  ·rw[e1]at h1
   cases h1
   have hzf:∀(l:List ByteArray) (z:List (List Value)),HasZ (bareR ρ.imm ρ.glob) (l.map sel) z→z.flatten=l.map .string:=by
    intro l
    induction l with
    |nil=>intro z hz;simp only[List.map_nil,HasZ]at hz;subst hz;rfl
    |cons s l ih=>
     intro z hz
     simp only[List.map_cons,HasZ,sel,HasC]at hz
     obtain⟨x,r,rfl,⟨rfl,_⟩,h⟩:=hz
     simp[ih r h]
   refine fin _ ((h b 0 cap w (fun j x hj=> ?_) ?_ e2))
   ·rw[cell_of_row w b _ _ _ _ h2,List.getElem?_toArray,hzf ss z hz.2.1,Nat.zero_add]
    rw[List.getElem?_append_left (by rw[List.length_map];exact(List.getElem?_eq_some_iff.1 hj).1),List.getElem?_map,hj];rfl
   ·rcases Nat.lt_or_ge b w.heap.size with h'|h'
    ·exact h'
    ·simp[Array.getElem?_eq_none h']at h2
  ·rw[e1]at h1;cases h1
 ·refine fin _ ?_
  have hn:ss=[]:=List.length_eq_zero_iff.1 hn
  subst hn
  exact(h0 rfl a w).mono fun _ _ ⟨he,hw⟩=>⟨he,hw▸RowKit.Below.refl _ _⟩
theorem t_JoinM (ss:List ByteArray) (n:Nat) (hn:ss.length=n) (sep:ByteArray) (hN:ss.length≤1099511627776) (hlen:(Lib.join (ss.map (·.data.toList)) sep.data.toList).length≤140737488355328) (K:Nat):
  CallOK Tryz.prog 92 [.slc K 1 0 n,.val (.string sep)] [(K,sblk ss)] (.val (.string ⟨(Lib.join (ss.map (·.data.toList)) sep.data.toList).toArray⟩)) [] []:=by
 refine call_strsM hn ⟨Tryz.f92,Tryz.func92,rfl,by kernel_rfl⟩ rfl ?_ ?_ K
 ·rintro rfl a w
  exact Tryz.strings_Join_none a 0 sep w
 ·intro bk o c w hc hb hcap
  exact Tryz.strings_Join bk o c ss sep w hc hb (by omega) hcap hlen
end Go.Proofs.YtjknedoaofjnbaaGreatDoor
namespace Go.Proofs.YtjknedoaofjnbaaGreatDoor
open Go.Sx
set_option linter.unusedSimpArgs false
set_option linter.unusedVariables false
set_option maxRecDepth 100000
set_option maxHeartbeats 4000000
theorem dec_len:∀k n,n<2^k→(Lib.decDigits n).length≤k+1
 |0,n,h=>by
  obtain rfl:n=0:=by simp at h;exact h
  rw[dec_lt (by decide)];simp
 |k+1,n,h=>by
  by_cases h1:n<10
  ·rw[dec_lt h1];simp
  ·rw[dec_big (by omega),List.length_append,List.length_singleton]
   have:=dec_len k (n/10) (by rw[Nat.pow_succ]at h;omega)
   omega
def cat (ss:List ByteArray):List UInt8:=(ss.map (·.data.toList)).flatten
theorem join_empty (l:List (List UInt8)):Lib.join l []=l.flatten:=by
 cases l with
 |nil=>rfl
 |cons x r=>rw[Lib.join_cons,Lib.joinTail];simp
theorem cut_digs {v m:Nat} (h:v<4294967296^m):cutN (digs v m) m=(wInts v).length∧(wInts v).length≤m:=by
 have hlen:=digs_len v m
 have hv:=valI_digs v m
 rw[Nat.mod_eq_of_lt h]at hv
 have hc:=valI_cut (digs v m) m
 have hle:=cutN_le (digs v m) m
 have htop:=cutN_top (digs v m) m
 have:=wInts_of (cutN (digs v m) m) (digs v m) (digs_w32 v m) (by omega) htop
 rw[hc,hv,Int.toNat_natCast]at this
 have e:(wInts v).length=cutN (digs v m) m:=by rw[this,List.length_take];omega
 exact⟨e.symm,by omega⟩
theorem sz_div9 {v:Nat} (h:1000000000≤v):sz (v/1000000000)+29≤sz v:=by
 have h1:v<2^sz v:=sz_le.1 (Nat.le_refl _)
 have h2:29≤sz v:=by
  rcases Nat.lt_or_ge (sz v) 29 with g|g
  ·have:2^sz v≤2^29:=Nat.pow_le_pow_right (by decide) (by omega)
   omega
  ·exact g
 have h3:sz (v/1000000000)≤sz v - 29:=sz_le.2 (by
  rw[Nat.div_lt_iff_lt_mul (by decide)]
  have e:2^sz v=2^(sz v - 29)*2^29:=by rw[←Nat.pow_add];congr 1;omega
  have:2^(sz v - 29)*2^29≤2^(sz v - 29)*1000000000:=Nat.mul_le_mul_left _ (by decide)
  omega)
 omega
theorem tN_size9 {r:Nat} (h:r<1000000000):(tN r).size≤9:=by
 rw[tN_eq]
 show(Lib.decDigits r).toArray.size≤9
 have:=(pad_dec 9 r h (by decide)).2
 simpa using this
theorem pad_tN {r:Nat} (h:r<1000000000):((⟨(List.replicate (9 - (tN r).size) 48).toArray⟩:ByteArray)++tN r).data.toList=padF 9 r:=by
 have hs:(tN r).size=(Lib.decDigits r).length:=by rw[tN_eq];show(Lib.decDigits r).toArray.size=_;simp
 rw[(pad_dec 9 r h (by decide)).1,hs,tN_eq,ByteArray.data_append]
 simp
theorem cat_snoc (ps:List ByteArray) (s:ByteArray):cat (ps++[s]).reverse=s.data.toList++cat ps.reverse:=by simp[cat]
theorem wl_of {n M:Nat} (h:sz n≤M):(wInts n).length≤M:=len_le_of (Nat.lt_of_lt_of_le (sz_le.1 h) (Nat.pow_le_pow_left (by decide) M))
theorem t_NatB (n:Nat) (h:¬n<18446744073709551616) (hs:sz n≤1073741824):CallOK Tryz.prog 164 [.nat n] [] (.val (.string (tN n))) [] []:=by
 have hwl:(wInts n).length<1099511627776:=Nat.lt_of_le_of_lt (wl_of hs) (by decide)
 have k1:=c_words n 3001 hwl
 have e2:((big n).toList==(ByteArray.mk #[]).toList)=false:=by rw[big_eq];exact decide_eq_false h
 have hwa:=wArr_len n
 refine callF (Z:=[]) tabOK mixedOK Tryz.func164 rfl (by kernel_rfl) (by first|rfl|(simp[keylessL,keyless,keylessL_map, *];done)) (by first|rfl|(simp[keylessL,keyless,keylessL_map, *];done)) (by kernel_rfl) rfl ?_
 intro w0 ρ0 hE
 conv=>whnf
 (repeat((first|refine step_w2 rfl rfl ?_|refine g_cn (by assumption) rfl ?_|rw[e2]|rw[Nat.zero_add]);conv=>whnf))
 refine SWx_adopt (t:=3) (k:=2002) (s:=1) (blk:=sblk []) rfl rfl rfl ?_
 have hwn:=wInts_val n
 refine SW_loopN hE (fun k=>k) [3,4] [2002,3001] (fun q fr hp=>∃(v:Nat) (L:List Int) (ps:List ByteArray),q=v∧(wInts v).length≤L.length∧L.length<1099511627776∧W32 L∧valI L (wInts v).length=(v:Int)∧((v≠0∧Lib.decDigits n=Lib.decDigits v++cat ps.reverse∧ps.length*29+sz v≤sz n)∨(v=0∧Lib.decDigits n=cat ps.reverse∧ps.length*29≤sz n+29))∧
  fr=[(3,.slc 2002 1 0 ps.length),(4,.slc 3001 1 0 (wInts v).length)]∧hp=[(2002,sblk ps),(3001,⟨87,true,.ints .u32 L⟩)]) n ?_ ?_ ?_
 ·kernel_rfl
 ·have hwA:(wArr n)=wInts n:=by rw[wArr,if_neg h]
  refine⟨n,wArr n,[],rfl,hwa,by rw[hwA];exact hwl,by rw[hwA];exact wInts_w32 n,by rw[hwA];exact hwn,.inl ⟨by omega, ?_,by simp⟩,rfl,rfl⟩
  simp[cat]
 rintro q _ _ ⟨v,L,ps,rfl,hL,hLl,hLw,hLv,hrel,rfl,rfl⟩
 conv=>whnf
 have hpl:ps.length<1099511627776:=by rcases hrel with⟨_,_,g⟩|⟨_,_,g⟩<;>omega
 by_cases h0:0<q
 ·obtain⟨_,hdec,hlen⟩:=hrel.resolve_right (by omega)
  clear hrel
  have hm:=wInts_top (n:=q) (by omega)
  have t1:decide (((wInts q).length:Int)>0)=true:=decide_eq_true (by omega)
  have hqm:q<4294967296^(wInts q).length:=lt_of_len q
  have k2:=c_short L (wInts q).length hL (by omega) hLw 1000000000 (by decide) (by decide) 3001 3002 (by decide) true q hLv
  obtain⟨hcut,hcle⟩:=cut_digs (v:=q/1000000000) (m:=(wInts q).length) (Nat.lt_of_le_of_lt (Nat.div_le_self _ _) hqm)
  have hdl:=digs_len (q/1000000000) (wInts q).length
  have k3:=c_cut (digs (q/1000000000) (wInts q).length) (wInts q).length (by omega) (by omega) 3002 true
  rw[hcut]at k3
  have hr:q % 1000000000<1000000000:=Nat.mod_lt _ (by decide)
  have k4:=t_Itoa (q % 1000000000) (by omega)
  have e1:IntKind.i64.wrap ((q % 1000000000:Nat):Int)=((q % 1000000000:Nat):Int):=wrap_i64 (by omega) (by omega)
  have hsz:=tN_size9 hr
  have hdw:W32 (digs (q/1000000000) (wInts q).length):=digs_w32 _ _
  have hdv:valI (digs (q/1000000000) (wInts q).length) (wInts (q/1000000000)).length=((q/1000000000:Nat):Int):=by
   have h1:=valI_cut (digs (q/1000000000) (wInts q).length) (wInts q).length
   rw[hcut,valI_digs,Nat.mod_eq_of_lt (Nat.lt_of_le_of_lt (Nat.div_le_self _ _) hqm)]at h1
   exact h1
  have hqv:q/1000000000*1000000000+q % 1000000000=q:=by have:=Nat.div_add_mod q 1000000000;omega
  by_cases hq:1000000000≤q
  ·have hv0:0<q/1000000000:=Nat.div_pos hq (by decide)
   have hs9:=sz_div9 hq
   have hsplit:=dec_split 9 (q/1000000000) (q % 1000000000) hv0 hr
   rw[show 10^9=1000000000 from rfl,hqv,←pad_tN hr]at hsplit
   have hm2:=wInts_top (n:=q/1000000000) (by omega)
   have t2:decide (((wInts (q/1000000000)).length:Int)>0)=true:=decide_eq_true (by omega)
   have e2:IntKind.i64.wrap (9 - ((tN (q % 1000000000)).size:Int))=((9 - (tN (q % 1000000000)).size:Nat):Int):=by rw[wrap_i64 (by omega) (by omega)];omega
   have k5:=t_Repeat (9 - (tN (q % 1000000000)).size) (by omega)
   have hrs:(⟨(List.replicate (9 - (tN (q % 1000000000)).size) 48).toArray⟩:ByteArray).size=9 - (tN (q % 1000000000)).size:=by show(List.replicate _ _).toArray.size=_;simp
   have hob:(⟨(List.replicate (9 - (tN (q % 1000000000)).size) 48).toArray⟩:ByteArray).size+(tN (q % 1000000000)).size≤9223372036854775807:=by omega
   have hd2:Lib.decDigits n=Lib.decDigits (q/1000000000)++cat (ps++[(⟨(List.replicate (9 - (tN (q % 1000000000)).size) 48).toArray⟩:ByteArray)++tN (q % 1000000000)]).reverse:=by
    rw[hdec,hsplit,cat_snoc,List.append_assoc]
   clear hdec hsplit
   generalize (⟨(List.replicate (9 - (tN (q % 1000000000)).size) 48).toArray⟩:ByteArray)=z9 at*
   have hpm:(ps.map sel).length=ps.length:=List.length_map ..
   (repeat((first|refine step_w1 rfl rfl ?_|refine And.intro (by first|decide|omega|(simp only[tl0,dlen,List.length_replicate,List.length_set,List.length_map,List.length_zipWith,List.length_take,List.length_append,List.length_cons,List.length_nil];omega)) ?_|refine g_c (by assumption) ?_|refine g_c1 (by assumption) rfl ?_|refine g_c1n (by assumption) rfl rfl ?_|rw[t1]|rw[e1]|rw[t2]|rw[e2]);conv=>whnf))
   refine⟨q/1000000000,renBy [(41,2002),(3002,3001)],[3,4],[41,3002],by omega,by kernel_rfl,q/1000000000,_,ps++[z9++tN (q % 1000000000)],rfl,by rw[hdl];exact hcle,by omega,hdw,hdv,.inl ⟨by omega,hd2,by rw[List.length_append,List.length_singleton];omega⟩,by rw[List.length_append];rfl, ?_⟩
   have e9:sblk (ps++[z9++tN (q % 1000000000)])=⟨9,true,.seq 1 (List.take ps.length (ps.map sel)++List.take 1 (List.drop 0 [SV.val (.string (z9++tN (q % 1000000000)))]))⟩:=by
    rw[sblk,List.take_of_length_le (by omega),List.map_append];rfl
   rw[e9];rfl
  ·have hv0:q/1000000000=0:=Nat.div_eq_of_lt (by omega)
   have t2:decide (((wInts (q/1000000000)).length:Int)>0)=false:=by rw[hv0];rfl
   have hmod:q % 1000000000=q:=Nat.mod_eq_of_lt (by omega)
   have hd2:Lib.decDigits n=cat (ps++[tN (q % 1000000000)]).reverse:=by
    rw[hdec,cat_snoc,hmod,tN_eq]
   clear hdec
   have hpm:(ps.map sel).length=ps.length:=List.length_map ..
   (repeat((first|refine step_w1 rfl rfl ?_|refine step_w2 rfl rfl ?_|refine And.intro (by first|decide|omega|(simp only[tl0,dlen,List.length_replicate,List.length_set,List.length_map,List.length_zipWith,List.length_take,List.length_append,List.length_cons,List.length_nil];omega)) ?_|refine g_c (by assumption) ?_|refine g_c1 (by assumption) rfl ?_|refine g_c1n (by assumption) rfl rfl ?_|rw[t1]|rw[e1]|rw[t2]);conv=>whnf))
   refine⟨q/1000000000,renBy [(41,2002),(3002,3001)],[3,4],[41,3002],by omega,by kernel_rfl,q/1000000000,_,ps++[tN (q % 1000000000)],rfl,by rw[hdl];exact hcle,by omega,hdw,hdv,.inr ⟨hv0,hd2,by rw[List.length_append,List.length_singleton];omega⟩,by rw[List.length_append];rfl, ?_⟩
   have e9:sblk (ps++[tN (q % 1000000000)])=⟨9,true,.seq 1 (List.take ps.length (ps.map sel)++List.take 1 (List.drop 0 [SV.val (.string (tN (q % 1000000000)))]))⟩:=by
    rw[sblk,List.take_of_length_le (by omega),List.map_append];rfl
   rw[e9];rfl
 ·obtain rfl:q=0:=by omega
  obtain⟨_,hdec,_⟩:=hrel.resolve_left (fun h=>h.1 rfl)
  have t1:decide (((wInts 0).length:Int)>0)=false:=rfl
  have k2:=t_Reverse ps ps.length rfl (by omega) 2002
  have hdl:(Lib.decDigits n).length≤140737488355328:=by
   exact Nat.le_trans (dec_len (sz n) n (sz_le.1 (Nat.le_refl _))) (by omega)
  have k3:=t_JoinM ps.reverse ps.length (by rw[List.length_reverse]) ⟨#[]⟩ (by rw[List.length_reverse];omega) (by
   rw[show(⟨#[]⟩:ByteArray).data.toList=[]from rfl,join_empty]
   show(cat ps.reverse).length≤_
   rw[←hdec];exact hdl) 2002
  have e:(⟨(Lib.join (ps.reverse.map (·.data.toList)) (⟨#[]⟩:ByteArray).data.toList).toArray⟩:ByteArray)=tN n:=by
   rw[show(⟨#[]⟩:ByteArray).data.toList=[]from rfl,join_empty,tN_eq,hdec];rfl
  rw[e]at k3
  (repeat(first|(refine step_w2 rfl rfl ?_;conv=>whnf)|(refine g_c1 (by assumption) rfl ?_;conv=>whnf)|(refine g_c1u (by assumption) rfl rfl ?_;conv=>whnf)));(first|exact Recast.refl _|exact Frz.recast (Recast.refl _) rfl|(refine Frz.one rfl rfl ?_;skip)|(refine Frz.tup ?_;skip))
theorem tN_sizeG (n:Nat):(tN n).size≤sz n+1:=by
 rw[tN_eq]
 show(Lib.decDigits n).toArray.size≤_
 simpa using dec_len (sz n) n (sz_le.1 (Nat.le_refl _))
theorem t_NatG (n:Nat) (hs:sz n≤1073741824):CallOK Tryz.prog 164 [.nat n] [] (.val (.string (tN n))) [] []:=by
 by_cases h:n<18446744073709551616
 ·have k1:=t_FormatG n h
  have e1:low n=(n:Int):=low_small h
  have e2:((big n).toList==(ByteArray.mk #[]).toList)=true:=by rw[big_eq];exact decide_eq_true h
  refine callV (Z:=[]) tabOK mixedOK Tryz.func164 rfl (by kernel_rfl) rfl rfl (by kernel_rfl) rfl ?_
  intro W0 w0 ρ0 hE
  conv=>whnf
  (repeat((first|refine step_w1 rfl rfl ?_|refine g_c (by assumption) ?_|rw[e2]|rw[e1]);conv=>whnf));(first|exact Recast.refl _|exact Frz.recast (Recast.refl _) rfl|(refine Frz.one rfl rfl ?_;skip)|(refine Frz.tup ?_;skip))
 ·exact t_NatB n h hs
theorem t_IntG (z:Int) (h:sz z.natAbs≤1073741824):CallOK Tryz.prog 163 [.int z] [] (.val (.string (tZ z))) [] []:=by
 have k1:=t_NatG z.natAbs h
 have hs:=tN_sizeG z.natAbs
 have h1:(ByteArray.mk #[45]).size=1:=rfl
 have h2:(ByteArray.mk #[45]).size+(tN z.natAbs).size≤9223372036854775807:=by omega
 unfold tZ
 refine callV (Z:=[]) tabOK mixedOK Tryz.func163 rfl (by kernel_rfl) rfl rfl (by kernel_rfl) rfl ?_
 intro W0 w0 ρ0 hE
 conv=>whnf
 by_cases hz:z<0
 ·have t1:decide (z<0)=true:=decide_eq_true hz
  rw[if_pos hz]
  (repeat((first|refine step_w1 rfl rfl ?_|refine And.intro (by first|decide|omega|(simp only[tl0,dlen,List.length_replicate,List.length_set,List.length_map,List.length_zipWith,List.length_take,List.length_append,List.length_cons,List.length_nil];omega)) ?_|refine g_c (by assumption) ?_|rw[t1]);conv=>whnf));(first|exact Recast.refl _|exact Frz.recast (Recast.refl _) rfl|(refine Frz.one rfl rfl ?_;skip)|(refine Frz.tup ?_;skip))
 ·have t1:decide (z<0)=false:=decide_eq_false hz
  rw[if_neg hz]
  (repeat(first|(refine step_w2 rfl rfl ?_;conv=>whnf)|(refine g_c (by assumption) ?_;conv=>whnf)|(rw[t1];conv=>whnf)));(first|exact Recast.refl _|exact Frz.recast (Recast.refl _) rfl|(refine Frz.one rfl rfl ?_;skip)|(refine Frz.tup ?_;skip))
theorem tZ_sizeG (z:Int):(tZ z).size≤sz z.natAbs+2:=by
 have hs:=tN_sizeG z.natAbs
 unfold tZ
 split
 ·rw[ByteArray.size_append];have:("-".toUTF8).size=1:=rfl;omega
 ·omega
theorem t_FracG (q:Rat) (h:fs q≤1073741824):CallOK Tryz.prog 94 [.frac q] [] (.val (.string (tQ q))) [] []:=by
 have n1:=fsz_num q
 have n2:=fsz_den q
 unfold fs at h
 have kw:=c_Whole q
 have k1:=t_IntG q.num (by omega)
 have k2:=t_NatG q.den (by omega)
 have k3:=c_den natBig q (by omega)
 have hs:=tZ_sizeG q.num
 have hs2:=tN_sizeG q.den
 have h1:(ByteArray.mk #[47]).size=1:=rfl
 have h2:(tZ q.num).size+(ByteArray.mk #[47]).size≤9223372036854775807:=by omega
 have h3:(tZ q.num++(ByteArray.mk #[47])).size+(tN q.den).size≤9223372036854775807:=by rw[ByteArray.size_append];omega
 unfold tQ
 refine callV (Z:=[]) tabOK mixedOK Tryz.func94 rfl (by kernel_rfl) rfl rfl (by kernel_rfl) rfl ?_
 intro W0 w0 ρ0 hE
 conv=>whnf
 by_cases hd:q.den=1
 ·rw[decide_eq_true hd]at kw
  rw[if_pos hd]
  (repeat(first|(refine step_w1 rfl rfl ?_;conv=>whnf)|(refine g_c (by assumption) ?_;conv=>whnf)));(first|exact Recast.refl _|exact Frz.recast (Recast.refl _) rfl|(refine Frz.one rfl rfl ?_;skip)|(refine Frz.tup ?_;skip))
 ·rw[decide_eq_false hd]at kw
  rw[if_neg hd]
  (repeat((first|refine step_w2 rfl rfl ?_|refine step_i (by kernel_rfl) ?_|refine And.intro (by first|decide|omega|(simp only[tl0,dlen,List.length_replicate,List.length_set,List.length_map,List.length_zipWith,List.length_take,List.length_append,List.length_cons,List.length_nil];omega)) ?_|refine g_c (by assumption) ?_);conv=>whnf));(first|exact Recast.refl _|exact Frz.recast (Recast.refl _) rfl|(refine Frz.one rfl rfl ?_;skip)|(refine Frz.tup ?_;skip))
theorem tQ_size (q:Rat):(tQ q).size≤fs q+fs q+4:=by
 have n1:=fsz_num q
 have n2:=fsz_den q
 have hs:=tZ_sizeG q.num
 have hs2:=tN_sizeG q.den
 unfold fs
 unfold tQ
 split
 ·omega
 ·rw[ByteArray.size_append,ByteArray.size_append];have:("/".toUTF8).size=1:=rfl;omega
theorem join_size:∀(l:List (List UInt8)) (B:Nat),(∀x∈l,x.length≤B)→(Lib.join l [32]).length≤l.length*(B+1)
 |[],B,_=>by simp[Lib.join_nil]
 |[x],B,h=>by rw[Lib.join_one];have:=h x (List.mem_cons_self ..);simp;omega
 |x::y::l,B,h=>by
  have ih:=join_size (y::l) B (fun z hz=>h z (List.mem_cons_of_mem _ hz))
  have hx:=h x (List.mem_cons_self ..)
  have e:Lib.join (x::y::l) [32]=x++[32]++Lib.join (y::l) [32]:=by rw[Lib.join_cons,Lib.join_cons];simp[Lib.joinTail]
  rw[e]
  simp only[List.length_append,List.length_cons,List.length_nil]at*
  rw[Nat.succ_mul (l.length+1)]
  omega
theorem tV_join {a:List Rat} {B:Nat} (hl:a.length≤2048) (h:∀i,i<a.length→fs (a.getD i 0)≤B) (hB:B≤1000000000):(Lib.join ((a.map tQ).map (·.data.toList)) [32]).length≤140737488355328:=by
 refine Nat.le_trans (join_size _ (2*B+4) ?_) ?_
 ·intro x hx
  obtain⟨s,hs,rfl⟩:=List.mem_map.1 hx
  obtain⟨q,hq,rfl⟩:=List.mem_map.1 hs
  obtain⟨i,hi,rfl⟩:=mem_getD hq 0
  have h1:=tQ_size (a.getD i 0)
  have h2:=h i hi
  show(tQ (a.getD i 0)).data.toList.length≤_
  have:(tQ (a.getD i 0)).data.toList.length=(tQ (a.getD i 0)).size:=Array.length_toList
  omega
 ·rw[List.length_map,List.length_map]
  have:a.length*(2*B+4+1)≤2048*(2*B+4+1):=Nat.mul_le_mul_right _ hl
  omega
theorem t_VecG (a:List Rat) (B:Nat) (hl:a.length≤2048) (h:∀i,i<a.length→fs (a.getD i 0)≤B) (hB:B≤1000000000):CallOK Tryz.prog 77 [fvec a] [] (.val (.string (tV a))) [] []:=by
 have hJ:=tV_join hl h hB
 have hz:((a.map tQ).map sel).length=a.length:=by simp
 have hget:∀i,i<a.length→((a.map tQ).map sel).getD i .any= .val (.string (tQ (a.getD i 0))):=fun i hi=>by rw[map_get (d:=ByteArray.empty) (by simpa using hi),map_get (d:=0) hi];rfl
 have kj:=t_Join (a.map tQ) (by simp;omega) hJ
 refine callF (Z:=[]) tabOK mixedOK Tryz.func77 rfl (by kernel_rfl) (by first|rfl|(simp[keylessL,keyless,keylessL_map, *];done)) (by first|rfl|(simp[keylessL,keyless,keylessL_map, *];done)) (by kernel_rfl) rfl ?_
 intro w0 ρ0 hE
 conv=>whnf
 (repeat(first|(refine And.intro (by first|decide|omega|(simp only[tl0,dlen,List.length_replicate,List.length_set,List.length_map,List.length_zipWith,List.length_take,List.length_append,List.length_cons,List.length_nil];omega)) ?_;conv=>whnf)|(refine g_o (op_lenM rfl rfl rfl (ev_ok rfl) (tgt rfl) rfl) ?_;conv=>whnf)|(rw[Int.toNat_natCast];conv=>whnf)))
 refine SW_loopS hE (fun k=>k) [0,2,3,9,10,11] [8] (fun m fr hp=>∃i,m=a.length - i∧i≤a.length∧fr=[(0,fvec a),(2,.val (.string ⟨#[]⟩)),(3,.slc 8 1 0 a.length),(9,fvec a),(10,.val (.int .i64 (a.length:Nat))),(11,.val (.int .i64 (i:Nat)))]∧
  hp=[(8,⟨9,true,.seq 1 (((a.map tQ).map sel).take i++List.replicate (a.length - i) (.val (.string .empty)))⟩)]) a.length ?_ ?_ ?_
 ·kernel_rfl
 ·exact⟨0,rfl,Nat.zero_le _,rfl,rfl⟩
 rintro m _ _ ⟨i,rfl,hi,rfl,rfl⟩
 have hlen:=fill_len (d:=SV.val (.string .empty)) hi hz
 by_cases hlt:i<a.length
 ·have t1:=dlt hlt
  have t2:=winc (i:=i) (by omega)
  have k1:=t_FracG (a.getD i 0) (Nat.le_trans (h i hlt) (by omega))
  refine SWx.of hE ?_
  conv=>whnf
  have e3:=fill_get (d:=SV.val (.string .empty)) (e:=SV.any) hlt hz
  (repeat((first|refine step_w1 rfl rfl ?_|refine And.intro (by first|decide|omega|(simp only[tl0,dlen,List.length_replicate,List.length_set,List.length_map,List.length_zipWith,List.length_take,List.length_append,List.length_cons,List.length_nil];omega)) ?_|refine g_c (by assumption) ?_|refine g_o (op_indexN (α:=Rat) (d:=0) rfl (ev_ok rfl) (ev_ok rfl) (tgt rfl) rfl (tgt rfl) rfl (by omega)) ?_|refine g_o (op_loadA rfl (ev_ok rfl) (tgt rfl) rfl (Nat.succ_ne_zero _) rfl) ?_|rw[t1]|rw[e3]|rw[t2]|rw[Int.toNat_natCast]|rw[Nat.zero_add]);conv=>whnf))
  refine⟨a.length - (i+1),fun k=>k,[0,2,3,9,10,11],[8],by omega,by kernel_rfl,i+1,rfl,hlt,rfl, ?_⟩
  rw[←fill_set (e:=.any) hlt hz,hget i hlt]
  rfl
 ·have t1:=dge hlt
  have hI:i=a.length:=by omega
  subst hI
  rw[fill_all hz]
  refine SWx_freezeM 3 8 (fun _ h=>h) (fun _=>rfl) rfl rfl (by simp) ?_
  refine SWx.of hE ?_
  conv=>whnf
  have h91:(ByteArray.mk #[91]).size=1:=rfl
  have h93:(ByteArray.mk #[93]).size=1:=rfl
  have hjs:(ByteArray.mk (Lib.join ((a.map tQ).map (·.data.toList)) [32]).toArray).size=(Lib.join ((a.map tQ).map (·.data.toList)) [32]).length:=by show(Lib.join ((a.map tQ).map (·.data.toList)) [32]).toArray.size=_;simp
  have o1:(ByteArray.mk #[91]).size+(ByteArray.mk (Lib.join ((a.map tQ).map (·.data.toList)) [32]).toArray).size≤9223372036854775807:=by omega
  have o2:(ByteArray.mk #[91]++ByteArray.mk (Lib.join ((a.map tQ).map (·.data.toList)) [32]).toArray).size+(ByteArray.mk #[93]).size≤9223372036854775807:=by rw[ByteArray.size_append];omega
  (repeat((first|refine step_w2 rfl rfl ?_|refine And.intro (by first|decide|omega|(simp only[tl0,dlen,List.length_replicate,List.length_set,List.length_map,List.length_zipWith,List.length_take,List.length_append,List.length_cons,List.length_nil];omega)) ?_|refine g_c (by assumption) ?_|rw[t1]);conv=>whnf));(first|exact Recast.refl _|exact Frz.recast (Recast.refl _) rfl|(refine Frz.one rfl rfl ?_;skip)|(refine Frz.tup ?_;skip))
end Go.Proofs.YtjknedoaofjnbaaGreatDoor
namespace Go.Proofs.YtjknedoaofjnbaaGreatDoor
open Go.Sx
set_option linter.unusedSimpArgs false
set_option linter.unusedVariables false
set_option maxRecDepth 100000
set_option maxHeartbeats 4000000
abbrev iv (n:Int):SV:=.val (.int .i64 n)
abbrev mA (r c:Int) (a:List Rat):SV:=.agg [iv r,iv c,fvec a]
abbrev mC (r c:Int) (a:List Rat):List SV:=[iv r,iv c,fvec a]
def sidesF (r c:Int):Int:=if r<0∨c<0 then 1 else if r>2048∨c>2048 then 3 else 0
theorem m_sides (r c:Int):CallOK Tryz.prog 74 [iv r,iv c] [] (iv (sidesF r c)) [] []:=by
 refine callV (Z:=[]) tabOK mixedOK Tryz.func74 rfl (by kernel_rfl) rfl rfl (by kernel_rfl) rfl ?_
 intro W0 w0 ρ0 hE
 conv=>whnf
 unfold sidesF
 by_cases h1:r<0
 ·have t1:decide (r<0)=true:=decide_eq_true h1
  rw[if_pos (.inl h1)]
  (repeat((first|refine step_w1 rfl rfl ?_|refine step_w2 rfl rfl ?_|refine g_o (op_pickT rfl (ev_ok rfl) (ev_ok rfl)) ?_|rw[t1]);conv=>whnf));(first|exact Recast.refl _|exact Frz.recast (Recast.refl _) rfl|(refine Frz.one rfl rfl ?_;skip)|(refine Frz.tup ?_;skip))
 have t1:decide (r<0)=false:=decide_eq_false h1
 by_cases h2:c<0
 ·have t2:decide (c<0)=true:=decide_eq_true h2
  rw[if_pos (.inr h2)]
  (repeat((first|refine step_w1 rfl rfl ?_|refine g_o (op_pickF rfl (ev_ok rfl) (ev_ok rfl)) ?_|rw[t1]|rw[t2]);conv=>whnf));(first|exact Recast.refl _|exact Frz.recast (Recast.refl _) rfl|(refine Frz.one rfl rfl ?_;skip)|(refine Frz.tup ?_;skip))
 have t2:decide (c<0)=false:=decide_eq_false h2
 rw[if_neg (by omega)]
 by_cases h3:r>2048
 ·have t3:decide (r>2048)=true:=decide_eq_true h3
  rw[if_pos (.inl h3)]
  (repeat((first|refine step_w1 rfl rfl ?_|refine step_w2 rfl rfl ?_|refine g_o (op_pickT rfl (ev_ok rfl) (ev_ok rfl)) ?_|refine g_o (op_pickF rfl (ev_ok rfl) (ev_ok rfl)) ?_|rw[t1]|rw[t2]|rw[t3]);conv=>whnf));(first|exact Recast.refl _|exact Frz.recast (Recast.refl _) rfl|(refine Frz.one rfl rfl ?_;skip)|(refine Frz.tup ?_;skip))
 have t3:decide (r>2048)=false:=decide_eq_false h3
 by_cases h4:c>2048
 ·have t4:decide (c>2048)=true:=decide_eq_true h4
  rw[if_pos (.inr h4)]
  (repeat((first|refine step_w1 rfl rfl ?_|refine step_w2 rfl rfl ?_|refine g_o (op_pickF rfl (ev_ok rfl) (ev_ok rfl)) ?_|rw[t1]|rw[t2]|rw[t3]|rw[t4]);conv=>whnf));(first|exact Recast.refl _|exact Frz.recast (Recast.refl _) rfl|(refine Frz.one rfl rfl ?_;skip)|(refine Frz.tup ?_;skip))
 have t4:decide (c>2048)=false:=decide_eq_false h4
 rw[if_neg (by omega)]
 (repeat((first|refine step_w1 rfl rfl ?_|refine step_w2 rfl rfl ?_|refine g_o (op_pickF rfl (ev_ok rfl) (ev_ok rfl)) ?_|rw[t1]|rw[t2]|rw[t3]|rw[t4]);conv=>whnf));(first|exact Recast.refl _|exact Frz.recast (Recast.refl _) rfl|(refine Frz.one rfl rfl ?_;skip)|(refine Frz.tup ?_;skip))
theorem sides_ok {r c:Int} (h:sidesF r c=0):(0≤r∧r≤2048)∧(0≤c∧c≤2048):=by
 unfold sidesF at h
 by_cases h1:r<0∨c<0
 ·rw[if_pos h1]at h;omega
 ·rw[if_neg h1]at h
  by_cases h2:r>2048∨c>2048
  ·rw[if_pos h2]at h;omega
  ·omega
theorem sides_of {r c:Int} (h:(0≤r∧r≤2048)∧(0≤c∧c≤2048)):sidesF r c=0:=by
 unfold sidesF;rw[if_neg (by omega),if_neg (by omega)]
theorem prod_le {r c:Int} (h:(0≤r∧r≤2048)∧(0≤c∧c≤2048)):0≤r*c∧r*c≤4194304:=by
 obtain⟨⟨a,b⟩,d,e⟩:=h
 refine⟨Int.mul_nonneg a d, ?_⟩
 exact Int.le_trans (Int.mul_le_mul b e d (by decide)) (by decide)
def checkF (r c:Int) (n:Nat):Int:=if sidesF r c≠0 then sidesF r c else if (n:Int)≠r*c then 1 else 0
theorem m_Check (r c:Int) (a:List Rat) (hn:a.length<1099511627776):CallOK Tryz.prog 14 [mA r c a] [] (iv (checkF r c a.length)) [] []:=by
 have k1:=m_sides r c
 refine callV (Z:=[]) tabOK mixedOK Tryz.func14 rfl (by kernel_rfl) rfl rfl (by kernel_rfl) rfl ?_
 intro W0 w0 ρ0 hE
 conv=>whnf
 unfold checkF
 by_cases h1:sidesF r c=0
 ·rw[if_neg (by omega)]
  rw[h1]at k1
  have hp:=prod_le (sides_ok h1)
  have t2:IntKind.i64.wrap (r*c)=r*c:=wrap_i64 (by omega) (by omega)
  by_cases h2:(a.length:Int)=r*c
  ·have t3:((a.length:Int) != r*c)=false:=by rw[h2];exact bne_self_eq_false _
   rw[if_neg (by omega)]
   clear hp
   (repeat((first|refine step_w2 rfl rfl ?_|refine g_c (by assumption) ?_|rw[bne_self_eq_false]|refine g_o (op_lenM rfl rfl rfl (ev_ok rfl) (tgt rfl) rfl) ?_|rw[t2]|rw[t3]);conv=>whnf));(first|exact Recast.refl _|exact Frz.recast (Recast.refl _) rfl|(refine Frz.one rfl rfl ?_;skip)|(refine Frz.tup ?_;skip))
  ·have t3:((a.length:Int) != r*c)=true:=bne_iff_ne.2 h2
   rw[if_pos h2]
   clear hp
   (repeat((first|refine step_w1 rfl rfl ?_|refine step_w2 rfl rfl ?_|refine g_c (by assumption) ?_|rw[bne_self_eq_false]|refine g_o (op_lenM rfl rfl rfl (ev_ok rfl) (tgt rfl) rfl) ?_|rw[t2]|rw[t3]);conv=>whnf));(first|exact Recast.refl _|exact Frz.recast (Recast.refl _) rfl|(refine Frz.one rfl rfl ?_;skip)|(refine Frz.tup ?_;skip))
 ·have t1:(sidesF r c != 0)=true:=bne_iff_ne.2 h1
  rw[if_pos h1]
  (repeat(first|(refine step_w1 rfl rfl ?_;conv=>whnf)|(refine g_c (by assumption) ?_;conv=>whnf)|(rw[t1];conv=>whnf)));(first|exact Recast.refl _|exact Frz.recast (Recast.refl _) rfl|(refine Frz.one rfl rfl ?_;skip)|(refine Frz.tup ?_;skip))
theorem check_ok {r c:Nat} {n:Nat} (hr:r≤2048) (hc:c≤2048) (hn:n=r*c):checkF r c n=0:=by
 unfold checkF
 rw[sides_of (by omega),if_neg (by omega),if_neg (by rw[hn];push_cast;omega)]
structure OKM (R C:Nat) (a:List Rat):Prop where
 r:R≤2048
 c:C≤2048
 n:a.length=R*C
theorem OKM.small {r c:Nat} {a:List Rat} (h:OKM r c a):a.length≤4194304:=by rw[h.n];exact Nat.mul_le_mul h.r h.c
theorem m_Check0 {r c:Nat} {a:List Rat} (h:OKM r c a):CallOK Tryz.prog 14 [mA r c a] [] (iv 0) [] []:=by
 have:=m_Check r c a (by have:=h.small;omega)
 rwa [check_ok h.r h.c h.n]at this
theorem m_has (i:Int) (n:Int):CallOK Tryz.prog 113 [iv i,iv n] [] (.val (.bool (decide (0≤i∧i<n)))) [] []:=by
 refine callV (Z:=[]) tabOK mixedOK Tryz.func113 rfl (by kernel_rfl) rfl rfl (by kernel_rfl) rfl ?_
 intro W0 w0 ρ0 hE
 conv=>whnf
 by_cases h1:i<0
 ·have t1:decide (i≥0)=false:=decide_eq_false (by omega)
  rw[decide_eq_false (show ¬(0≤i∧i<n) by omega)]
  (repeat(first|(refine step_w2 rfl rfl ?_;conv=>whnf)|(refine g_o (op_pickF rfl (ev_ok rfl) (ev_ok rfl)) ?_;conv=>whnf)|(rw[t1];conv=>whnf)));(first|exact Recast.refl _|exact Frz.recast (Recast.refl _) rfl|(refine Frz.one rfl rfl ?_;skip)|(refine Frz.tup ?_;skip))
 ·have t1:decide (i≥0)=true:=decide_eq_true (by omega)
  by_cases h2:i<n
  ·have t2:decide (i<n)=true:=decide_eq_true h2
   rw[decide_eq_true (show 0≤i∧i<n by omega)]
   (repeat((first|refine step_w1 rfl rfl ?_|refine g_o (op_pickT rfl (ev_ok rfl) (ev_ok rfl)) ?_|rw[t1]|rw[t2]);conv=>whnf));(first|exact Recast.refl _|exact Frz.recast (Recast.refl _) rfl|(refine Frz.one rfl rfl ?_;skip)|(refine Frz.tup ?_;skip))
  ·have t2:decide (i<n)=false:=decide_eq_false h2
   rw[decide_eq_false (show ¬(0≤i∧i<n) by omega)]
   (repeat((first|refine step_w1 rfl rfl ?_|refine g_o (op_pickT rfl (ev_ok rfl) (ev_ok rfl)) ?_|rw[t1]|rw[t2]);conv=>whnf));(first|exact Recast.refl _|exact Frz.recast (Recast.refl _) rfl|(refine Frz.one rfl rfl ?_;skip)|(refine Frz.tup ?_;skip))
theorem idx_w {i k c:Nat} (hi:i≤2048) (hc:c≤2048) (hk:k≤2048):IntKind.i64.wrap ((i:Int)*(c:Int))=((i*c:Nat):Int)∧IntKind.i64.wrap (((i*c:Nat):Int)+(k:Int))=((i*c+k:Nat):Int):=by
 have h1:i*c≤2048*2048:=Nat.mul_le_mul hi hc
 constructor
 ·rw[←Int.natCast_mul,wrap_i64 (by omega) (by omega)]
 ·rw[wrap_i64 (by omega) (by omega)];omega
theorem m_at {r c:Nat} {a:List Rat} (h:OKM r c a) {i k:Nat} (hi:i<r) (hk:k<c):CallOK Tryz.prog 103 [mA r c a,iv i,iv k] [] (.frac (el a c i k)) [] []:=by
 obtain⟨t1,t2⟩:=idx_w (i:=i) (k:=k) (c:=c) (by have:=h.r;omega) h.c (by have:=h.c;omega)
 have hlt:=idx_lt hi hk
 rw[←h.n]at hlt
 refine callV (Z:=[]) tabOK mixedOK Tryz.func103 rfl (by kernel_rfl) rfl rfl (by kernel_rfl) rfl ?_
 intro W0 w0 ρ0 hE
 conv=>whnf
 (repeat((first|refine g_o (op_loadA rfl (ev_ok rfl) (tgt rfl) rfl (Nat.succ_ne_zero _) rfl) ?_|refine g_o (op_indexM (α:=Rat) (d:=0) rfl (ev_ok rfl) (ev_ok rfl) (tgt rfl) rfl (tgt rfl) rfl (by omega)) ?_|rw[t1]|rw[t2]|rw[Int.toNat_natCast]);conv=>whnf));(first|exact Recast.refl _|exact Frz.recast (Recast.refl _) rfl|(refine Frz.one rfl rfl ?_;skip)|(refine Frz.tup ?_;skip))
abbrev rowL (a:List Rat) (c i:Nat):List Rat:=(a.drop (i*c)).take c
theorem rowL_len {r c i:Nat} {a:List Rat} (hi:i<r) (h:a.length=r*c):(rowL a c i).length=c:=by
 have:=Nat.mul_le_mul_right c (show i+1≤r from hi)
 rw[Nat.succ_mul]at this
 rw[List.length_take,List.length_drop];omega
theorem rowL_get {a:List Rat} {c i k:Nat} (hk:k<c):(rowL a c i).getD k 0=el a c i k:=by
 simp[List.getD_eq_getElem?_getD,hk]
theorem row_w {i c:Nat} (hi:i≤2047) (hc:c≤2048):IntKind.i64.wrap ((i:Int)*(c:Int))=((i*c:Nat):Int)∧IntKind.i64.wrap (((i+1:Nat):Int)*(c:Int))=(((i+1)*c:Nat):Int)∧IntKind.i64.wrap ((i:Int)+1)=((i+1:Nat):Int):=
 ⟨(idx_w (i:=i) (k:=0) (by omega) hc (by omega)).1,(idx_w (i:=i+1) (k:=0) (by omega) hc (by omega)).1,winc (by omega)⟩
theorem m_rowV {r c:Nat} {a:List Rat} (h:OKM r c a) {i:Nat} (hi:i<r):CallOK Tryz.prog 91 [mA r c a,iv i] [] (fvec (rowL a c i)) [] []:=by
 obtain⟨t1,t2,t3⟩:=row_w (i:=i) (c:=c) (by have:=h.r;omega) h.c
 have hlt:=Nat.mul_le_mul_right c (show i+1≤r from hi)
 have hle:i*c≤(i+1)*c:=Nat.mul_le_mul_right c (by omega)
 rw[←h.n]at hlt
 have e1:(i+1)*c - i*c=c:=by rw[Nat.succ_mul];omega
 refine callV (Z:=[]) tabOK mixedOK Tryz.func91 rfl (by kernel_rfl) rfl rfl (by kernel_rfl) rfl ?_
 intro W0 w0 ρ0 hE
 conv=>whnf
 (repeat((first|refine step_i (by kernel_rfl) ?_|refine g_o (op_sliceM rfl (ev_ok rfl) (bound_spec rfl) (bound_spec rfl) (.inr ⟨Option.some_ne_none _,_,_,rfl,ev_ok rfl⟩) (tgt rfl) rfl (tgt rfl) rfl (by omega)) ?_|rw[t1]|rw[t3]|rw[t2]|rw[e1]|rw[Int.toNat_natCast]);conv=>whnf))
 (first|exact Recast.refl _|exact Frz.recast (Recast.refl _) rfl|(refine Frz.one rfl rfl ?_;skip)|(refine Frz.tup ?_;skip))
end Go.Proofs.YtjknedoaofjnbaaGreatDoor
namespace Go.Sx
set_option linter.unusedSimpArgs false
set_option linter.unusedVariables false
section
variable {P:Program} {o:Oper} {ft:List (Nat×SV)} {fk:List (Nat×Blk)}
theorem op_slice3 {t e:TypeId} {x lo hi mx:Operand} {ti te:TI} {k s i n:Nat} {l h:Int} {kl kh km:IntKind} (ho:o.op= .slice t x (some lo) (some hi) (some mx)) (hx:EvOK ft x (.slc k s i n))
  (hlo:EvOK ft lo (.val (.int kl l))) (hhi:EvOK ft hi (.val (.int kh h))) (hmx:EvOK ft mx (.val (.int km h)))
  (ht:TOK P t ti) (hk:ti.kind= .slc e) (he:TOK P e te) (hs:te.size=s) (hh:0≤l∧l≤h∧h≤n):OpOK P o ft fk (.slc k s (i+l.toNat) (h - l).toNat) [] []:=
 ok_pure fun ρ a w hp=>by
  obtain⟨h0,hlh,hh⟩:=hh
  have hu:=ht.kind;rw[hk]at hu
  have key:∀(ad:Option Addr) (m cap:Nat),n=m→m≤cap→a.eval x= .slice ad m cap→
    (execOp a.eval o).run P w= .ok (.value (.slice (if h.toNat=l.toNat then ad else ad.map (·.add (l.toNat*s))) (h.toNat - l.toNat) (h.toNat - l.toNat))) w:=by
   intro ad m cap hnm hmc hv
   have hr:∀(z:Operand) (kd:IntKind) (bd:Nat),EvOK ft z (.val (.int kd h))→h.toNat≤bd→∀q,(Instr.sliceBound (a.eval z) bd q).run P w= .ok h.toNat w:=by
    intro z kd bd hz hbd q
    have:=of_has_val (hz ρ a hp.hft)
    have hb:0≤h∧h≤(bd:Int):=by omega
    simp[Instr.sliceBound,this,asIntOf,hb]
   have hl:∀q,(Instr.sliceBound (a.eval lo) h.toNat q).run P w= .ok l.toNat w:=by
    intro q
    have:=of_has_val (hlo ρ a hp.hft)
    have hb:0≤l∧l≤(h.toNat:Int):=by omega
    simp only[Instr.sliceBound,this,asIntOf,Sem.run_bind,Sem.run_pure,Result.andThen_ok,hb,and_self,if_true]
   have hbnds:(Instr.sliceBounds true m cap (some (a.eval lo)) (some (a.eval hi)) (some (a.eval mx))).run P w= .ok (l.toNat,h.toNat,h.toNat) w:=by
    unfold Instr.sliceBounds
    simp[hr mx km cap hmx (by omega),hr hi kh h.toNat hhi (Nat.le_refl _),hl]
   simp only[execOp,ho,Option.map_some,Instr.sliceAt,Sem.run_bind,run_underlying hu,Result.andThen_ok,Instr.slice,hv,hbnds,he.sizeOf,hs,Sem.run_pure]
  rcases has_slc (hx ρ a hp.hft)with⟨b,t',cap,h1,h2,h3,h4⟩|⟨rfl,ad,h4⟩
  ·refine⟨_,key _ n cap rfl h2 h4,slc_has ?_⟩
   by_cases hc:h.toNat=l.toNat
   ·right
    have:h.toNat - l.toNat=0:=by omega
    refine⟨by omega,some ⟨b,i*s,none⟩, ?_⟩
    rw[if_pos hc,this]
   ·left
    refine⟨b,t',h.toNat - l.toNat,h1,by omega, ?_, ?_⟩
    ·exact Nat.le_trans (Nat.mul_le_mul_right s (show i+l.toNat+(h.toNat - l.toNat)≤i+cap by omega)) h3
    ·rw[if_neg hc]
     have hadd:(⟨b,i*s,none⟩:Addr).add (l.toNat*s)=⟨b,(i+l.toNat)*s,none⟩:=by
      unfold Addr.add
      rw[Nat.add_mul]
      split
      ·rename_i h0;simp[h0]
      ·rfl
     rw[Option.map_some,hadd,show(h - l).toNat=h.toNat - l.toNat from by omega]
  ·refine⟨_,key ad 0 0 rfl (Nat.le_refl _) h4,slc_has (.inr ⟨by omega,ad, ?_⟩)⟩
   have h1:l.toNat=0:=by omega
   have h2:h.toNat=0:=by omega
   simp[h1,h2]
theorem op_eqNilF {f:FuncId} {a b:List SV} {t t2:TypeId} {x y:Operand} {p r:Array TypeId} {v:Bool} (ho:o.op= .binOp .eql t x y t2) (hx:EvOK ft x (.clo f a b)) (hy:EvOK ft y (.val .nilFunc)) (hu:P.underlying t=some (.func p r v)):OpOK P o ft fk (.val (.bool false)) [] []:=
 ok_pure fun ρ ac w hp=>by
  have h1:=hx ρ ac hp.hft
  simp only[Has,HasC]at h1
  obtain⟨_,⟨fz,cz,_,_,rfl⟩,e1⟩:=h1
  have e2:=of_has_val (hy ρ ac hp.hft)
  simp only[mkV,SV.isOne,if_true,List.headD_cons]at e1
  have hq:∀d vs ws,(Op.equalIn (d+1) t (.func (.func f) vs ws) .nilFunc).run P w= .ok false w:=fun d vs ws=>by simp[Op.equalIn,run_underlying hu]
  have hq':∀vs ws,(Op.equal t (.func (.func f) vs ws) .nilFunc).run P w= .ok false w:=fun vs ws=>hq 9999 vs ws
  refine⟨_, ?_,has_val rfl⟩
  simp[execOp,ho,e1,e2,eqGuard,binOp,hq']
end
end Go.Sx
namespace Go.Proofs.YtjknedoaofjnbaaGreatDoor
open Go.Sx
set_option linter.unusedSimpArgs false
set_option linter.unusedVariables false
set_option maxRecDepth 100000
set_option maxHeartbeats 4000000
abbrev zM:Blk:=⟨24,true,.one [iv 0,iv 0,.val (.slice none 0 0)]⟩
abbrev bM (r c K:Nat):Blk:=⟨24,true,.one [iv r,iv c,.slc K 5 0 (r*c)]⟩
abbrev fblk (l:List Rat):Blk:=⟨53,true,.fracs l⟩
theorem m_rowM {r c:Nat} {a:List Rat} (h:OKM r c a) {i:Nat} (hi:i<r) (K:Nat):CallOK Tryz.prog 91 [.agg [iv r,iv c,.slc K 5 0 (r*c)],iv i] [(K,fblk a)] (.slc K 5 (i*c) c) [] []:=by
 obtain⟨t1,t2,t3⟩:=row_w (i:=i) (c:=c) (by have:=h.r;omega) h.c
 have hlt:=Nat.mul_le_mul_right c (show i+1≤r from hi)
 have hle:i*c≤(i+1)*c:=Nat.mul_le_mul_right c (by omega)
 have e1:(((i+1)*c:Nat) - (i*c:Nat):Int).toNat=c:=by rw[Nat.succ_mul];omega
 refine CallOK.anyWr ?_
 refine callK (Z:=[]) tabOK mixedOK Tryz.func91 rfl (by kernel_rfl) (args:=[.agg [iv r,iv c,.slc 1001 5 0 (r*c)],iv i]) (fk:=[(1001,⟨53,false,.fracs a⟩)]) (c:=.slc 1001 5 (i*c) c) (new:=[]) (upd:=[]) (ShapeOK.of rfl rfl rfl rfl rfl rfl rfl rfl rfl rfl rfl) rfl (fun _=>K) (NamesOK.ro rfl) ?_
 intro W0 w0 ρ0 hE
 conv=>whnf
 (repeat((first|refine step_i (by kernel_rfl) ?_|refine g_o (op_slice3 rfl (ev_ok rfl) (ev_ok rfl) (ev_ok rfl) (ev_ok rfl) (tgt rfl) rfl (tgt rfl) rfl (by omega)) ?_|rw[t1]|rw[t3]|rw[t2]|rw[e1]|rw[Int.toNat_natCast]|rw[Nat.zero_add]);conv=>whnf))
 exact⟨Recast.refl _,(fun _ _ h=>by cases h),(fun _ _ h=>by cases h)⟩
theorem m_Make3 {r c:Nat} (hr:r≤2048) (hc:c≤2048) (F:Nat→Nat→Rat) (g:FuncId) (p q s:Pred)
  (hf:∀i k,i<r→k<c→CallOK Tryz.prog g ([]++([iv (i:Nat),iv (k:Nat)]++[.atom p,.atom q,.atom s])) [] (.frac (F i k)) [] []):
  CallOK Tryz.prog 101 [iv r,iv c,.clo g [] [.atom p,.atom q,.atom s]] [] (.tup [mA r c (mk r c F),iv 0]) [] []:=by
 have k1:=m_sides r c
 rw[sides_of (by omega)]at k1
 have hz:(mk r c F).length=r*c:=mk_len ..
 have hrc:r*c≤2048*2048:=Nat.mul_le_mul hr hc
 have t1:IntKind.i64.wrap ((r:Int)*(c:Int))=((r*c:Nat):Int):=by rw[←Int.natCast_mul,wrap_i64 (by omega) (by omega)]
 refine callF (Z:=[]) tabOK mixedOK Tryz.func101 rfl (by kernel_rfl) (by first|rfl|(simp[keylessL,keyless,keylessL_map, *];done)) (by first|rfl|(simp[keylessL,keyless,keylessL_map, *];done)) (by kernel_rfl) rfl ?_
 intro w0 ρ0 hE
 conv=>whnf
 (repeat((first|refine step_w2 rfl rfl ?_|refine step_oA (by first|omega|decide|(simp only[tl0,dlen,List.length_replicate,List.length_set,List.length_map,List.length_zipWith,List.length_take,List.length_append,List.length_cons,List.length_nil];omega)) ?_|refine g_c (by assumption) ?_|rw[bne_self_eq_false]|refine⟨_,op_eqNilF rfl (ev_ok rfl) (ev_ok rfl) Tryz.underlying148, ?_⟩|rw[t1]|rw[Int.toNat_natCast]);conv=>whnf))
 refine SW_loopN hE (fun k=>k) [0,1,2,6,9,30,31] [6,9,25] (fun m fr hp=>∃i:Nat,m=r - i∧i≤r∧fr=[(0,iv r),(1,iv c),(2,.clo g [] [.atom p,.atom q,.atom s]),(6,.ptr 6 0 0 0),(9,.ptr 9 0 0 0),(30,iv r),(31,iv (i:Nat))]∧
  hp=[(6,zM),(9,bM r c 25),(25,fblk ((mk r c F).take (i*c)++List.replicate (r*c - i*c) 0))]) r ?_ ?_ ?_
 ·kernel_rfl
 ·exact⟨0,rfl,Nat.zero_le _,rfl,by rw[Nat.zero_mul,List.take_zero];rfl⟩
 rintro m _ _ ⟨i,rfl,hi,rfl,rfl⟩
 conv=>whnf
 by_cases hlt:i<r
 ·have t2:=dlt hlt
  have t3:=winc (i:=i) (by omega)
  have hic:(i+1)*c≤r*c:=Nat.mul_le_mul_right c hlt
  rw[Nat.succ_mul]at hic
  have hlen:=fill_len (d:=(0:Rat)) (show i*c≤r*c by omega) hz
  have o1:=m_rowM (a:=(mk r c F).take (i*c)++List.replicate (r*c - i*c) 0) ⟨hr,hc,hlen⟩ hlt 25
  (repeat(first|(refine step_w1 rfl rfl ?_;conv=>whnf)|(refine g_c1 (by assumption) rfl ?_;conv=>whnf)|(rw[t2];conv=>whnf)))
  refine SW_loopN hE (fun k=>k) [0,1,2,6,9,10,11,30,31,37,38] [6,9,25] (fun m fr hp=>∃k:Nat,m=c - k∧k≤c∧fr=[(0,iv r),(1,iv c),(2,.clo g [] [.atom p,.atom q,.atom s]),(6,.ptr 6 0 0 0),(9,.ptr 9 0 0 0),(10,iv (i:Nat)),(11,.slc 25 5 (i*c) c),(30,iv r),(31,iv (i:Nat)),(37,iv c),(38,iv (k:Nat))]∧
   hp=[(6,zM),(9,bM r c 25),(25,fblk ((mk r c F).take (i*c+k)++List.replicate (r*c - (i*c+k)) 0))]) c ?_ ?_ ?_
  ·kernel_rfl
  ·exact⟨0,rfl,Nat.zero_le _,rfl,rfl⟩
  rintro m _ _ ⟨k,rfl,hk,rfl,rfl⟩
  conv=>whnf
  by_cases hlk:k<c
  ·have t4:=dlt hlk
   have t5:=winc (i:=k) (by omega)
   have hlen:=fill_len (d:=(0:Rat)) (show i*c+k≤r*c by omega) hz
   have o2:=hf i k hlt hlk
   rw[←mk_el (f:=F) hlt hlk]at o2
   (repeat((first|refine step_w1 rfl rfl ?_|refine step_oL (by first|omega|decide|(simp only[tl0,dlen,List.length_replicate,List.length_set,List.length_map,List.length_zipWith,List.length_take,List.length_append,List.length_cons,List.length_nil];omega)) ?_|refine step_oA (by first|omega|decide|(simp only[tl0,dlen,List.length_replicate,List.length_set,List.length_map,List.length_zipWith,List.length_take,List.length_append,List.length_cons,List.length_nil];omega)) ?_|refine g_c (by assumption) ?_|rw[t4]|rw[t5]|rw[Int.toNat_natCast]);conv=>whnf))
   refine⟨c - (k+1),fun k=>k,[0,1,2,6,9,10,11,30,31,37,38],[6,9,25],by omega,by kernel_rfl,k+1,rfl,hlk,rfl, ?_⟩
   rw[show i*c+(k+1)=i*c+k+1 from rfl,fblk,←fill_set (e:=0) (show i*c+k<r*c by omega) hz]
   rfl
  ·have t4:=dge hlk
   obtain rfl:k=c:=by omega
   (repeat(first|(refine step_w2 rfl rfl ?_;conv=>whnf)|(rw[t4];conv=>whnf)|(rw[t3];conv=>whnf)))
   refine⟨r - (i+1),fun k=>k,[0,1,2,6,9,30,31],[6,9,25],by omega,by kernel_rfl,i+1,rfl,hlt,rfl, ?_⟩
   rw[Nat.succ_mul]
   rfl
 ·have t2:=dge hlt
  obtain rfl:i=r:=by omega
  rw[fill_all hz]
  (repeat(first|(refine step_w2 rfl rfl ?_;conv=>whnf)|(rw[t2];conv=>whnf)))
  (first|exact Recast.refl _|exact Frz.recast (Recast.refl _) rfl|(refine Frz.one rfl rfl ?_;skip)|(refine Frz.tup ?_;(repeat(first|exact FrzC.keyless rfl|exact FrzL.nil|refine FrzL.cons ?_ ?_|(refine FrzC.fracs rfl ?_;(first|rfl|omega|(simp<;>fail)|(simp<;>omega)))|refine FrzC.agg ?_))))
end Go.Proofs.YtjknedoaofjnbaaGreatDoor
namespace Go.Proofs.YtjknedoaofjnbaaGreatDoor
open Go.Sx
set_option linter.unusedSimpArgs false
set_option linter.unusedVariables false
set_option maxRecDepth 100000
set_option maxHeartbeats 4000000
end Go.Proofs.YtjknedoaofjnbaaGreatDoor
namespace Go.Proofs.YtjknedoaofjnbaaGreatDoor
open Go.Sx
set_option linter.unusedSimpArgs false
set_option linter.unusedVariables false
set_option maxRecDepth 100000
set_option maxHeartbeats 4000000
theorem Sm_row {a:List Rat} {r c i A:Nat} (sa:Sm A a) (ha:a.length=r*c) (hi:i<r):Sm A (rowL a c i):=by
 intro k hk
 rw[rowL_len hi ha]at hk
 rw[rowL_get hk];exact el_sm sa ha hi hk
end Go.Proofs.YtjknedoaofjnbaaGreatDoor
namespace Go.Proofs.YtjknedoaofjnbaaGreatDoor
open Go.Sx
set_option linter.unusedSimpArgs false
set_option linter.unusedVariables false
set_option maxRecDepth 100000
set_option maxHeartbeats 4000000
end Go.Proofs.YtjknedoaofjnbaaGreatDoor
namespace Go.Proofs.YtjknedoaofjnbaaGreatDoor
open Go.Sx
set_option linter.unusedSimpArgs false
set_option linter.unusedVariables false
set_option maxRecDepth 100000
set_option maxHeartbeats 4000000
theorem c_IndexFunc (l:List Int) (g:FuncId) (p:Pred) (P:Int→Bool) (hl:l.length<1099511627776) (hf:∀x∈l,CallOK Tryz.prog g ([]++([iv x]++[.atom p])) [] (.val (.bool (P x))) [] []):
  CallOK Tryz.prog 178 [ivec .i64 l,.clo g [] [.atom p]] [] (iv (if l.any P then(l.findIdx P:Nat)else -1)) [] []:=by
 refine callV (Z:=[]) tabOK mixedOK Tryz.func178 rfl (by kernel_rfl) rfl rfl (by kernel_rfl) rfl ?_
 intro W0 w0 ρ0 hE
 conv=>whnf
 (repeat(first|(refine g_o (op_lenM rfl rfl rfl (ev_ok rfl) (tgt rfl) rfl) ?_;conv=>whnf)))
 refine SW_loopN hE (fun k=>k) [0,1,7,8] [] (fun m fr hp=>∃i:Nat,m=l.length - i∧i≤l.length∧(∀j,j<i→P (l.getD j 0)=false)∧fr=[(0,ivec .i64 l),(1,.clo g [] [.atom p]),(7,iv (l.length:Nat)),(8,iv (i:Nat))]∧hp=[]) l.length ?_ ?_ ?_
 ·kernel_rfl
 ·exact⟨0,rfl,Nat.zero_le _,(fun j hj=>by omega),rfl,rfl⟩
 rintro m _ _ ⟨i,rfl,hi,hs,rfl,rfl⟩
 conv=>whnf
 by_cases hlt:i<l.length
 ·have t1:=dlt hlt
  have t2:=winc (i:=i) (by omega)
  have o1:=hf _ (getD_mem (d:=0) hlt)
  cases hP:P (l.getD i 0)
  ·rw[hP]at o1
   (repeat((first|refine step_w1 rfl rfl ?_|refine step_w2 rfl rfl ?_|refine g_c (by assumption) ?_|refine g_o (op_loadA rfl (ev_ok rfl) (tgt rfl) rfl (Nat.succ_ne_zero _) rfl) ?_|refine g_o (op_indexN (α:=Int) (d:=0) rfl (ev_ok rfl) (ev_ok rfl) (tgt rfl) rfl (tgt rfl) rfl (by omega)) ?_|rw[t1]|rw[t2]);conv=>whnf))
   refine⟨l.length - (i+1),fun k=>k,[0,1,7,8],[],by omega,by kernel_rfl,i+1,rfl,hlt, ?_,rfl,rfl⟩
   intro j hj
   by_cases hji:j=i
   ·rw[hji];exact hP
   ·exact hs j (by omega)
  ·rw[hP]at o1
   have e1:l.any P=true:=any_at (d:=0) hlt hP
   have e2:l.findIdx P=i:=by
    rw[List.findIdx_eq hlt]
    refine⟨by rw[List.getD_eq_getElem?_getD,List.getElem?_eq_getElem hlt]at hP;exact hP,fun j hj=> ?_⟩
    have:=hs j hj
    rw[List.getD_eq_getElem?_getD,List.getElem?_eq_getElem (by omega)]at this
    exact this
   rw[if_pos e1,e2]
   (repeat((first|refine step_w1 rfl rfl ?_|refine g_c (by assumption) ?_|refine g_o (op_loadA rfl (ev_ok rfl) (tgt rfl) rfl (Nat.succ_ne_zero _) rfl) ?_|refine g_o (op_indexN (α:=Int) (d:=0) rfl (ev_ok rfl) (ev_ok rfl) (tgt rfl) rfl (tgt rfl) rfl (by omega)) ?_|rw[t1]);conv=>whnf));(first|exact Recast.refl _|exact Frz.recast (Recast.refl _) rfl|(refine Frz.one rfl rfl ?_;skip)|(refine Frz.tup ?_;skip))
 ·have t1:=dge hlt
  have hI:i=l.length:=by omega
  subst hI
  have e1:l.any P=false:=any_no 0 hs
  rw[if_neg (by rw[e1];exact Bool.false_ne_true)]
  (repeat(first|(refine step_w2 rfl rfl ?_;conv=>whnf)|(rw[t1];conv=>whnf)));(first|exact Recast.refl _|exact Frz.recast (Recast.refl _) rfl|(refine Frz.one rfl rfl ?_;skip)|(refine Frz.tup ?_;skip))
theorem c_ContainsFunc (l:List Int) (g:FuncId) (p:Pred) (P:Int→Bool) (hl:l.length<1099511627776) (hf:∀x∈l,CallOK Tryz.prog g ([]++([iv x]++[.atom p])) [] (.val (.bool (P x))) [] []):
  CallOK Tryz.prog 111 [ivec .i64 l,.clo g [] [.atom p]] [] (.val (.bool (l.any P))) [] []:=by
 have k1:=c_IndexFunc l g p P hl hf
 refine callV (Z:=[]) tabOK mixedOK Tryz.func111 rfl (by kernel_rfl) rfl rfl (by kernel_rfl) rfl ?_
 intro W0 w0 ρ0 hE
 conv=>whnf
 cases h:l.any P
 ·rw[if_neg (by rw[h];exact Bool.false_ne_true)]at k1
  (repeat(first|(refine g_c (by assumption) ?_;conv=>whnf)));(first|exact Recast.refl _|exact Frz.recast (Recast.refl _) rfl|(refine Frz.one rfl rfl ?_;skip)|(refine Frz.tup ?_;skip))
 ·rw[if_pos h]at k1
  have t1:decide (((l.findIdx P:Nat):Int)≥0)=true:=decide_eq_true (by omega)
  (repeat(first|(refine g_c (by assumption) ?_;conv=>whnf)|(rw[t1];conv=>whnf)));(first|exact Recast.refl _|exact Frz.recast (Recast.refl _) rfl|(refine Frz.one rfl rfl ?_;skip)|(refine Frz.tup ?_;skip))
abbrev outF (n:Nat) (i:Int):Bool:= !decide (0≤i∧i<(n:Int))
abbrev mpart (c:Nat) (a:List Rat) (rows cols:List Int):List Rat:=mk rows.length cols.length fun i k=>el a c (rows.getD i 0).toNat (cols.getD k 0).toNat
theorem m_Part {r c:Nat} {a:List Rat} (ha:OKM r c a) (rows cols:List Int) (hr:rows.length≤2048) (hc:cols.length≤2048) (h1:∀x∈rows,0≤x∧x<r) (h2:∀x∈cols,0≤x∧x<c):
  CallOK Tryz.prog 45 [mA r c a,ivec .i64 rows,ivec .i64 cols] [] (.tup [mA rows.length cols.length (mpart c a rows cols),iv 0]) [] []:=by
 have k0:=m_Check0 ha
 have k1:=m_sides rows.length cols.length
 rw[sides_of (by omega)]at k1
 have ka:=c_ContainsFunc rows 112 (ptrP (mC r c a)) (outF r) (by omega) (fun x _=>by
  have k1:=m_has x r
  refine callV (Z:=[]) tabOK mixedOK Tryz.func112 rfl (by kernel_rfl) rfl rfl (by kernel_rfl) rfl ?_
  intro W0 w0 ρ0 hE
  conv=>whnf
  (repeat(first|(refine g_c (by assumption) ?_;conv=>whnf)|(refine g_o (op_loadA rfl (ev_ok rfl) (tgt rfl) rfl (Nat.succ_ne_zero _) rfl) ?_;conv=>whnf)|(refine g_o (op_fieldA rfl (ev_ok rfl) (tgt rfl) rfl rfl (Nat.succ_ne_zero _) rfl) ?_;conv=>whnf)));(first|exact Recast.refl _|exact Frz.recast (Recast.refl _) rfl|(refine Frz.one rfl rfl ?_;skip)|(refine Frz.tup ?_;skip)))
 have kb:=c_ContainsFunc cols 114 (ptrP (mC r c a)) (outF c) (by omega) (fun x _=>by
  have k1:=m_has x c
  refine callV (Z:=[]) tabOK mixedOK Tryz.func114 rfl (by kernel_rfl) rfl rfl (by kernel_rfl) rfl ?_
  intro W0 w0 ρ0 hE
  conv=>whnf
  (repeat(first|(refine g_c (by assumption) ?_;conv=>whnf)|(refine g_o (op_loadA rfl (ev_ok rfl) (tgt rfl) rfl (Nat.succ_ne_zero _) rfl) ?_;conv=>whnf)|(refine g_o (op_fieldA rfl (ev_ok rfl) (tgt rfl) rfl rfl (Nat.succ_ne_zero _) rfl) ?_;conv=>whnf)));(first|exact Recast.refl _|exact Frz.recast (Recast.refl _) rfl|(refine Frz.one rfl rfl ?_;skip)|(refine Frz.tup ?_;skip)))
 have e1:rows.any (outF r)=false:=any_no 0 fun i hi=>by rw[outF,decide_eq_true (h1 _ (getD_mem hi))];rfl
 have e2:cols.any (outF c)=false:=any_no 0 fun i hi=>by rw[outF,decide_eq_true (h2 _ (getD_mem hi))];rfl
 rw[e1]at ka
 rw[e2]at kb
 have k2:=m_Make3 hr hc (fun i k=>el a c (rows.getD i 0).toNat (cols.getD k 0).toNat) 115 (ptrP (mC r c a)) (ptrP [ivec .i64 rows]) (ptrP [ivec .i64 cols]) (fun i k hi hk=>by
  have g1:=h1 _ (getD_mem (d:=0) hi)
  have g2:=h2 _ (getD_mem (d:=0) hk)
  have o1:=m_at ha (i:=(rows.getD i 0).toNat) (k:=(cols.getD k 0).toNat) (by omega) (by omega)
  rw[Int.toNat_of_nonneg g1.1,Int.toNat_of_nonneg g2.1]at o1
  refine callV (Z:=[]) tabOK mixedOK Tryz.func115 rfl (by kernel_rfl) rfl rfl (by kernel_rfl) rfl ?_
  intro W0 w0 ρ0 hE
  conv=>whnf
  (repeat((first|refine step_i (by kernel_rfl) ?_|refine g_c (by assumption) ?_|refine g_o (op_loadA rfl (ev_ok rfl) (tgt rfl) rfl (Nat.succ_ne_zero _) rfl) ?_|refine g_o (op_indexN (α:=Int) (d:=0) rfl (ev_ok rfl) (ev_ok rfl) (tgt rfl) rfl (tgt rfl) rfl (by omega)) ?_);conv=>whnf));(first|exact Recast.refl _|exact Frz.recast (Recast.refl _) rfl|(refine Frz.one rfl rfl ?_;skip)|(refine Frz.tup ?_;skip)))
 refine callV (Z:=[3,4,5]) tabOK mixedOK Tryz.func45 rfl (by kernel_rfl) rfl rfl (by kernel_rfl) rfl ?_
 intro W0 w0 ρ0 hE
 conv=>whnf
 (repeat((first|refine step_w1 rfl rfl ?_|refine step_w2 rfl rfl ?_|refine g_c (by assumption) ?_|refine g_o (op_pickF rfl (ev_ok rfl) (ev_ok rfl)) ?_|rw[bne_self_eq_false]|refine g_o (op_lenM rfl rfl rfl (ev_ok rfl) (tgt rfl) rfl) ?_|refine g_o (op_loadA rfl (ev_ok rfl) (tgt rfl) rfl (Nat.succ_ne_zero _) rfl) ?_|refine g_o (op_makeFunc rfl rfl rfl) ?_);conv=>whnf));(first|exact Recast.refl _|exact Frz.recast (Recast.refl _) rfl|(refine Frz.one rfl rfl ?_;skip)|(refine Frz.tup ?_;skip))
def rowsL (r c:Nat) (a:List Rat):List (List Rat):=(List.range r).map (rowL a c)
def tM (r c:Nat) (a:List Rat):ByteArray:=⟨(Lib.join (((rowsL r c a).map tV).map (·.data.toList)) [32]).toArray⟩
theorem rowsL_get {r c i:Nat} {a:List Rat} (hi:i<r):(rowsL r c a).getD i []=rowL a c i:=by simp[rowsL,List.getD_eq_getElem?_getD,hi]
theorem rowsL_len (r c:Nat) (a:List Rat):(rowsL r c a).length=r:=by simp[rowsL]
theorem tV_size {a:List Rat} {B:Nat} (h:∀i,i<a.length→fs (a.getD i 0)≤B):(tV a).data.toList.length≤2+a.length*(2*B+5):=by
 have h1:=join_size ((a.map tQ).map (·.data.toList)) (2*B+4) (by
  intro x hx
  obtain⟨s,hs,rfl⟩:=List.mem_map.1 hx
  obtain⟨q,hq,rfl⟩:=List.mem_map.1 hs
  obtain⟨i,hi,rfl⟩:=mem_getD hq 0
  have h1:=tQ_size (a.getD i 0)
  have h2:=h i hi
  have:(tQ (a.getD i 0)).data.toList.length=(tQ (a.getD i 0)).size:=Array.length_toList
  show(tQ (a.getD i 0)).data.toList.length≤_
  omega)
 rw[List.length_map,List.length_map]at h1
 have e1: "[".toByteArray.data.toList.length=1:=by decide+kernel
 have e2: "]".toByteArray.data.toList.length=1:=by decide+kernel
 unfold tV
 rw[ByteArray.data_append,ByteArray.data_append,Array.toList_append,Array.toList_append,List.length_append,List.length_append]
 show "[".toByteArray.data.toList.length+(Lib.join ((a.map tQ).map (·.data.toList)) [32]).length+ "]".toByteArray.data.toList.length≤_
 rw[e1,e2]
 rw[show 2*B+4+1=2*B+5 from rfl]at h1
 omega
theorem rows_sm {r c B:Nat} {a:List Rat} (ha:a.length=r*c) (sa:Sm B a) {l:List Rat} (h:l∈rowsL r c a):l.length=c∧Sm B l:=by
 obtain⟨i,hi,rfl⟩:=List.mem_map.1 h
 have hi':=List.mem_range.1 hi
 exact⟨rowL_len hi' ha,Sm_row sa ha hi'⟩
theorem tM_join {r c B:Nat} {a:List Rat} (ha:OKM r c a) (sa:Sm B a) (hB:B≤1000000):(Lib.join (((rowsL r c a).map tV).map (·.data.toList)) [32]).length≤140737488355328:=by
 refine Nat.le_trans (join_size _ (2+2048*(2*B+5)) ?_) ?_
 ·intro x hx
  obtain⟨s,hs,rfl⟩:=List.mem_map.1 hx
  obtain⟨l,hl,rfl⟩:=List.mem_map.1 hs
  obtain⟨h1,h2⟩:=rows_sm ha.n sa hl
  refine Nat.le_trans (tV_size h2) ?_
  have:=Nat.mul_le_mul_right (2*B+5) (show l.length≤2048 by rw[h1];exact ha.c)
  omega
 ·rw[List.length_map,List.length_map,rowsL_len]
  have:=Nat.mul_le_mul_right (2+2048*(2*B+5)+1) ha.r
  omega
theorem app_snocS {l:List ByteArray} {i:Nat} {d:ByteArray} (h:i<l.length):(⟨9,true,.seq 1 ((l.take (i+1)).map sel)⟩:Blk)=⟨9,true,.seq 1 (List.take i ((l.take i).map sel)++List.take 1 (List.drop 0 [sel (l.getD i d)]))⟩:=by
 have hl:((l.take i).map sel).length=i:=by rw[List.length_map,List.length_take];omega
 have e:l.take (i+1)=l.take i++[l.getD i d]:=by rw[List.take_add_one,List.getD_eq_getElem?_getD,List.getElem?_eq_getElem h];rfl
 rw[e,List.map_append,List.take_of_length_le (l:=(l.take i).map sel) (by omega)];rfl
abbrev sblkM (l:List ByteArray):Blk:=⟨9,true,.seq 1 (l.map sel)⟩
theorem m_Text {r c B:Nat} {a:List Rat} (ha:OKM r c a) (sa:Sm B a) (hB:B≤1000000):CallOK Tryz.prog 29 [mA r c a] [] (.val (.string (tM r c a))) [] []:=by
 have k0:=m_Check0 ha
 have hr:=ha.r
 have la:=rowsL_len r c a
 have hz:((rowsL r c a).map tV).length=r:=by rw[List.length_map,rowsL_len]
 have kj:=t_Join ((rowsL r c a).map tV) (by omega) (tM_join ha sa hB)
 refine callF (Z:=[1]) tabOK mixedOK Tryz.func29 rfl (by kernel_rfl) (by first|rfl|(simp[keylessL,keyless,keylessL_map, *];done)) (by first|rfl|(simp[keylessL,keyless,keylessL_map, *];done)) (by kernel_rfl) rfl ?_
 intro w0 ρ0 hE
 conv=>whnf
 (repeat((first|refine step_w2 rfl rfl ?_|refine g_c (by assumption) ?_|rw[bne_self_eq_false]|refine g_o (op_loadA rfl (ev_ok rfl) (tgt rfl) rfl (Nat.succ_ne_zero _) rfl) ?_|refine g_o (op_fieldA rfl (ev_ok rfl) (tgt rfl) rfl rfl (Nat.succ_ne_zero _) rfl) ?_);conv=>whnf))
 refine SWx_adopt (t:=3) (k:=2001) (s:=1) (blk:=sblkM []) rfl rfl rfl ?_
 refine SW_loopS hE (fun k=>k) [1,3,9,10] [2001] (fun m fr hp=>∃i:Nat,m=r - i∧i≤r∧fr=[(1,ptrA (mC r c a)),(3,.slc 2001 1 0 i),(9,iv r),(10,iv (i:Nat))]∧hp=[(2001,sblkM (((rowsL r c a).map tV).take i))]) r ?_ ?_ ?_
 ·kernel_rfl
 ·exact⟨0,rfl,Nat.zero_le _,rfl,rfl⟩
 rintro m _ _ ⟨i,rfl,hi,rfl,rfl⟩
 have hlt0:((((rowsL r c a).map tV).take i).map sel).length=i:=by rw[List.length_map,List.length_take];omega
 by_cases hlt:i<r
 ·have t1:=dlt hlt
  have t2:=winc (i:=i) (by omega)
  have o1:=m_rowV ha hlt
  have l1:=rowL_len hlt ha.n
  have o2:=t_VecG (rowL a c i) B (by have:=ha.c;omega) (Sm_row sa ha.n hlt) (by omega)
  have hget:((rowsL r c a).map tV).getD i ByteArray.empty=tV (rowL a c i):=by rw[map_get (d:=[]) (by rw[rowsL_len];exact hlt),rowsL_get hlt]
  have e1:=app_snocS (l:=(rowsL r c a).map tV) (d:=ByteArray.empty) (i:=i) (by omega)
  rw[hget]at e1
  refine SWx.of hE ?_
  conv=>whnf
  (repeat((first|refine step_w1 rfl rfl ?_|refine step_oA (by first|omega|decide|(simp only[tl0,dlen,List.length_replicate,List.length_set,List.length_map,List.length_zipWith,List.length_take,List.length_append,List.length_cons,List.length_nil];omega)) ?_|refine g_c (by assumption) ?_|refine g_o (op_loadA rfl (ev_ok rfl) (tgt rfl) rfl (Nat.succ_ne_zero _) rfl) ?_|rw[t1]|rw[t2]);conv=>whnf))
  refine⟨r - (i+1),renBy [(19,2001)],[1,3,9,10],[19],by omega,by kernel_rfl,i+1,rfl,hlt,rfl, ?_⟩
  rw[sblkM,e1];rfl
 ·have t1:=dge hlt
  obtain rfl:i=r:=by omega
  rw[List.take_of_length_le (by omega)]
  refine SWx_freezeM 3 2001 (fun _ h=>h) (fun _=>rfl) rfl rfl hz.symm ?_
  refine SWx.of hE ?_
  conv=>whnf
  (repeat(first|(refine step_w2 rfl rfl ?_;conv=>whnf)|(refine g_c (by assumption) ?_;conv=>whnf)|(rw[t1];conv=>whnf)));(first|exact Recast.refl _|exact Frz.recast (Recast.refl _) rfl|(refine Frz.one rfl rfl ?_;skip)|(refine Frz.tup ?_;skip))
end Go.Proofs.YtjknedoaofjnbaaGreatDoor
namespace Go.Sx
set_option linter.unusedSimpArgs false
set_option linter.unusedVariables false
theorem addKey_RR {E:Env} {k:Nat} {blk:Blk} {fr:List (Nat×SV)} {hp:List (Nat×Blk)} (hk:find hp k=none) (he:blk.data.empty) {a:Act} {w:World} (hR:RR E (fn fr hp) a w):
  RR E (fn fr ((k,blk)::hp)) a w:=by
 obtain⟨ρ,hext,hfx,hR⟩:=hR
 have hkn:ρ.key k=none:=by
  cases hx:ρ.key k with
  |none=>rfl
  |some x=>
   obtain⟨b,hb⟩:=hR.hp.dom k x hx
   simp only[fn,LV.blk,hk]at hb
   cases hb
 have hblk:∀j b,(fn fr ((k,blk)::hp) (.k j)).blk=some b→(j=k∧b=blk)∨(j≠k∧(fn fr hp (.k j)).blk=some b):=by
  intro j b hb
  simp only[fn,LV.blk,find]at hb ⊢
  cases hj:Nat.beq k j with
  |true=>rw[hj]at hb;simp only[Option.some.injEq]at hb;exact .inl ⟨(Nat.eq_of_beq_eq_true hj).symm,hb.symm⟩
  |false=>rw[hj]at hb;exact .inr ⟨by rintro rfl;simp[Nat.beq_refl]at hj,hb⟩
 have hne:∀j x,ρ.key j=some x→j≠k:=fun j x hx h=>by rw[h,hkn]at hx;cases hx
 refine⟨ρ,hext,fun j hj=> ?_,{defers:=hR.defers,size:=hR.size,fr:=fun u sv hu=>hR.fr u sv hu,pres:=hR.pres,hp:= ?_}⟩
 ·have:=hfx j hj
  simp only[fn,LV.blk,find]at this ⊢
  cases hb:Nat.beq k j with
  |true=>simp
  |false=>exact this
 ·constructor
  ·intro j b hb
   rcases hblk j b hb with⟨rfl,rfl⟩|⟨_,h1⟩
   ·exact .inr (.inr ⟨hkn,he⟩)
   ·exact hR.hp.blk j b h1
  ·intro j j' x x' b b' hx hx' hn hxe hb hb'
   rcases hblk j b hb with⟨h1,_⟩|⟨_,h1⟩
   ·exact absurd h1 (hne j x hx)
   ·rcases hblk j' b' hb' with⟨h2,_⟩|⟨_,h2⟩
    ·exact absurd h2 (hne j' x' hx')
    ·exact hR.hp.sep j j' x x' b b' hx hx' hn hxe h1 h2
  ·intro j b x hb hw hl hx
   rcases hblk j b hb with⟨h1,_⟩|⟨_,h1⟩
   ·exact absurd h1 (hne j x hx)
   ·exact hR.hp.own j b x h1 hw hl hx
  ·intro j x hx
   obtain⟨b,hb⟩:=hR.hp.dom j x hx
   have:=hne j x hx
   refine⟨b, ?_⟩
   simp only[fn,LV.blk,find]at hb ⊢
   cases hj:Nat.beq k j with
   |true=>exact absurd (Nat.eq_of_beq_eq_true hj).symm this
   |false=>exact hb
  ·exact hR.hp.imm
  ·intro j b x hb hw hl hx
   rcases hblk j b hb with⟨h1,_⟩|⟨_,h1⟩
   ·exact absurd h1 (hne j x hx)
   ·exact hR.hp.immw j b x h1 hw hl hx
theorem retell_RR {E:Env} {j:Nat} {ty:TypeId} {wr:Bool} {cs cs':List SV} {fr:List (Nat×SV)} {hp:List (Nat×Blk)} (hj:find hp j=some ⟨ty,wr,.one cs⟩) (hd:∀ρ z,HasZ ρ cs z→HasZ ρ cs' z) {a:Act} {w:World} (hR:RR E (fn fr hp) a w):
  RR E (fn fr ((j,⟨ty,wr,.one cs'⟩)::hp)) a w:=by
 obtain⟨ρ,hext,hfx,hR⟩:=hR
 have hblk:∀i b,(fn fr ((j,⟨ty,wr,.one cs'⟩)::hp) (.k i)).blk=some b→∃b0,(fn fr hp (.k i)).blk=some b0∧b0.wr=b.wr∧b0.data.live=b.data.live∧(b0=b∨(i=j∧b0=⟨ty,wr,.one cs⟩∧b=⟨ty,wr,.one cs'⟩)):=by
  intro i b hb
  simp only[fn,LV.blk,find]at hb ⊢
  cases hi:Nat.beq j i with
  |true=>
   rw[hi]at hb
   simp only[Option.some.injEq]at hb
   obtain rfl:=Nat.eq_of_beq_eq_true hi
   subst hb
   exact⟨_,hj,rfl,rfl,.inr ⟨rfl,rfl,rfl⟩⟩
  |false=>rw[hi]at hb;exact⟨b,hb,rfl,rfl,.inl rfl⟩
 refine⟨ρ,hext,fun i hi=> ?_,{defers:=hR.defers,size:=hR.size,fr:=fun u sv hu=>hR.fr u sv hu,pres:=hR.pres,hp:= ?_}⟩
 ·have:=hfx i hi
  simp only[fn,LV.blk,find]at this ⊢
  cases hb:Nat.beq j i with
  |true=>simp
  |false=>exact this
 ·constructor
  ·intro i b hb
   obtain⟨b0,h1,h2,h3,rfl|⟨rfl,rfl,rfl⟩⟩:=hblk i b hb
   ·exact hR.hp.blk i b0 h1
   ·rcases hR.hp.blk i _ h1 with h4|⟨b',t,vs,ex,g1,g2,g3,g4,g5⟩|⟨_,h4⟩
    ·cases h4
    ·refine .inr (.inl ⟨b',t,vs,ex,g1,g2, ?_,g4,g5⟩)
     simp only[DataC]at g3 ⊢
     obtain⟨z,g6,g7⟩:=g3
     exact⟨z,hd ρ z g6,g7⟩
    ·exact h4.elim
  ·intro i i' x x' b b' hx hx' hn hxe hb hb' hl hl'
   obtain⟨b0,h1,h2,h3,_⟩:=hblk i b hb
   obtain⟨b0',h1',h2',h3',_⟩:=hblk i' b' hb'
   rw[←h2]
   exact hR.hp.sep i i' x x' b0 b0' hx hx' hn hxe h1 h1' (h3.trans hl) (h3'.trans hl')
  ·intro i b x hb hw hl hx
   obtain⟨b0,h1,h2,h3,_⟩:=hblk i b hb
   exact hR.hp.own i b0 x h1 (h2.trans hw) (h3.trans hl) hx
  ·intro i x hx
   obtain⟨b,hb⟩:=hR.hp.dom i x hx
   simp only[fn,LV.blk,find]at hb ⊢
   cases hi:Nat.beq j i with
   |true=>exact⟨_,rfl⟩
   |false=>exact⟨b,hb⟩
  ·exact hR.hp.imm
  ·intro i b x hb hw hl hx
   obtain⟨b0,h1,h2,h3,_⟩:=hblk i b hb
   exact hR.hp.immw i b0 x h1 (h2.trans hw) (h3.trans hl) hx
theorem HasZ_adopt {ρ:Rho} {k s:Nat}:∀{cs:List SV} {p:Nat} {z:List (List Value)},cs[p]? =some (.val (.slice none 0 0))→HasZ ρ cs z→HasZ ρ (cs.set p (.slc k s 0 0)) z
 |[],p,z,h,_=>by simp at h
 |c::cs,0,z,h,hz=>by
  simp only[List.getElem?_cons_zero,Option.some.injEq]at h
  subst h
  simp only[HasZ,List.set_cons_zero]at hz ⊢
  obtain⟨x,r,rfl,h1,h2⟩:=hz
  refine⟨x,r,rfl, ?_,h2⟩
  simp only[HasC]at h1 ⊢
  exact .inr ⟨trivial,none,h1.1⟩
 |c::cs,p+1,z,h,hz=>by
  simp only[List.getElem?_cons_succ]at h
  simp only[HasZ,List.set_cons_succ]at hz ⊢
  obtain⟨x,r,rfl,h1,h2⟩:=hz
  exact⟨x,r,rfl,h1,HasZ_adopt h h2⟩
theorem SWx_adoptB {E:Env} {j k s p:Nat} {ty:TypeId} {wr:Bool} {cs cs':List SV} {c:Code} {K:Post'} {blk:Blk} {fr:List (Nat×SV)} {hp:List (Nat×Blk)} (hj:find hp j=some ⟨ty,wr,.one cs⟩) (hp':cs[p]? =some (.val (.slice none 0 0))) (hk:find hp k=none) (he:blk.data.empty)
  (hcs:cs.set p (.slc k s 0 0)=cs') (hs:SWx E c K fr ((k,blk)::(j,⟨ty,wr,.one cs'⟩)::hp)):SWx E c K fr hp:=⟨fun a w hR=>hs.run a w (by
  subst hcs
  refine addKey_RR ?_ he (retell_RR hj (fun ρ z hz=>HasZ_adopt hp' hz) hR)
  simp only[find]
  cases hb:Nat.beq j k with
  |false=>exact hk
  |true=>rw[Nat.eq_of_beq_eq_true hb,hk]at hj;cases hj)⟩
theorem tst_tt {t:Bool} {A B:Prop} (h:t=true) (k:A):(t=true→A)∧(t=false→B):=⟨fun _=>k,fun h'=>(by rw[h]at h';cases h')⟩
theorem tst_ff {t:Bool} {A B:Prop} (h:t=false) (k:B):(t=true→A)∧(t=false→B):=⟨fun h'=>(by rw[h]at h';cases h'),fun _=>k⟩
def Wk (c d:SV):Prop:=c.isOne=d.isOne∧∀ρ x,HasC ρ c x→HasC ρ d x
def WkL (l m:List SV):Prop:=(∀z,List.zipWith mkV l z=List.zipWith mkV m z)∧∀ρ z,HasZ ρ l z→HasZ ρ m z
theorem Wk.refl {c:SV}:Wk c c:=⟨rfl,fun _ _ h=>h⟩
theorem Wk.nil {w:Nat} {a:Option Addr}:Wk (.val (.slice a 0 0)) (vecA w []):=⟨rfl,fun _ _ h=>nil_vec h⟩
theorem WkL.nil:WkL [] []:=⟨fun _=>rfl,fun _ _ h=>h⟩
theorem WkL.cons {c d:SV} {l m:List SV} (h:Wk c d) (k:WkL l m):WkL (c::l) (d::m):=
 ⟨fun z=>by cases z with
  |nil=>rfl
  |cons x r=>rw[List.zipWith_cons_cons,List.zipWith_cons_cons,k.1 r,mkV_eq h.1],fun ρ z hz=>by
  simp only[HasZ]at hz ⊢
  obtain⟨x,r,rfl,h1,h2⟩:=hz
  exact⟨x,r,rfl,h.2 ρ x h1,k.2 ρ r h2⟩⟩
theorem Wk.agg {l m:List SV} (h:WkL l m):Wk (.agg l) (.agg m):=⟨rfl,fun ρ x hx=>by
 simp only[HasC]at hx ⊢
 obtain⟨z,h1,h2⟩:=hx
 exact⟨z,h.2 ρ z h1,h2⟩⟩
theorem CallOK.wk {P:Program} {f:FuncId} {args args':List SV} {fk:List (Nat×Blk)} {c:SV} {new upd:List (Nat×Blk)} (h:CallOK P f args' fk c new upd) (hw:WkL args args'):CallOK P f args fk c new upd:=CallOK.args h hw.2 hw.1
def ag3 {α β γ:Type} (f:α→SV) (g:β→SV) (h:γ→SV) (p:α×β×γ):SV:=.agg [f p.1,g p.2.1,h p.2.2]
theorem Opens.struct3 {H:Type} {enc:TypeId×Value→H} {P:Program} {W:World} {hg:TabsW W} {t:TypeId} {f0 f1 f2:Field} {α β γ:Type} {a:α→SV} {b:β→SV} {c:γ→SV} {ga:α→Prop} {gb:β→Prop} {gc:γ→Prop} (ht:P.underlying t=some (.struct #[f0,f1,f2])) (o0:f0.offset=0) (o1:f1.offset=P.cellsOf f0.type)
  (o2:f2.offset=P.cellsOf f0.type+P.cellsOf f1.type) (hc:P.cellsOf t=P.cellsOf f0.type+P.cellsOf f1.type+P.cellsOf f2.type)
  (h0:Opens enc P hg f0.type a ga) (h1:Opens enc P hg f1.type b gb) (h2:Opens enc P hg f2.type c gc):Opens enc P hg t (ag3 a b c) (fun p=>ga p.1∧gb p.2.1∧gc p.2.2):=fun fuel cs x h=>by
 obtain⟨xs,n,rfl,_,hlen,hxl,hf⟩:=DataW.trod_struct ht h
 have hx0:xs.length=3:=hxl
 obtain⟨y0,y1,y2,rfl⟩:∃y0 y1 y2,xs=[y0,y1,y2]:=by
  match xs,hx0 with
  |[y0,y1,y2],_=>exact⟨y0,y1,y2,rfl⟩
 have g0:=hf 0 f0 rfl
 have g1:=hf 1 f1 rfl
 have g2:=hf 2 f2 rfl
 obtain⟨p,p1,p2⟩:=h0 _ _ _ g0
 obtain⟨q,q1,q2⟩:=h1 _ _ _ g1
 obtain⟨r,r1,r2⟩:=h2 _ _ _ g2
 refine⟨(p,q,r),⟨p1,q1,r1⟩, ?_⟩
 simp only[ag3,HasC]
 refine⟨[_,_,_],by simp only[HasZ];exact⟨_,_,rfl,p2,_,_,rfl,q2,_,_,rfl,r2,rfl⟩, ?_⟩
 simp only[List.flatten_cons,List.flatten_nil,List.append_nil,o0,o1,o2,List.drop_zero]
 rw[List.take_of_length_le (l:=cs.drop (P.cellsOf f0.type+P.cellsOf f1.type)) (by rw[List.length_drop];omega),←List.drop_drop,List.take_append_drop,List.take_append_drop]
end Go.Sx
namespace Go.Proofs.YtjknedoaofjnbaaGreatDoor
open Go.Sx
set_option linter.unusedSimpArgs false
set_option linter.unusedVariables false
set_option maxRecDepth 100000
set_option maxHeartbeats 4000000
theorem wrap_u8 {n:Int} (h0:0≤n) (h:n<256):IntKind.u8.wrap n=n:=by
 simp[IntKind.wrap,IntKind.bits,IntKind.signed];omega
theorem app_one {α:Type} {l:List α} {i:Nat} {d:α} (h:i<l.length):l.take (i+1)=(l.take i).take i++(([l.getD i d]:List α).drop 0).take 1:=(app_snoc h).symm
end Go.Proofs.YtjknedoaofjnbaaGreatDoor
namespace Go.Proofs.YtjknedoaofjnbaaGreatDoor
open Go.Sx
set_option linter.unusedSimpArgs false
set_option linter.unusedVariables false
set_option maxRecDepth 100000
set_option maxHeartbeats 4000000
def tdF:Nat→Nat→List Nat
 |0,_=>[]
 |f+1,n=>if n=0 then[]else n % 10000::tdF f (n/10000)
def tdW (n:Nat):List Nat:=tdF n n
def W4 (xs:List Int):Prop:=∀i,0≤xs.getD i 0∧xs.getD i 0<10000
theorem W4.set {xs:List Int} (h:W4 xs) {i:Nat} {v:Int} (h0:0≤v) (h1:v<10000):W4 (xs.set i v):=by
 intro j
 rw[getD_set]
 split
 ·exact⟨h0,h1⟩
 ·exact h j
theorem W4.mem {xs:List Int} (h:W4 xs):∀x∈xs,0≤x∧x<10000:=by
 intro x hx
 obtain⟨i,hi⟩:=List.getElem?_of_mem hx
 have:=h i
 rw[List.getD_eq_getElem?_getD,hi]at this
 exact this
def td (n:Nat):List Int:=(tdW n).map Int.ofNat
end Go.Proofs.YtjknedoaofjnbaaGreatDoor
namespace Go.Proofs.YtjknedoaofjnbaaGreatDoor
open Go.Sx
set_option linter.unusedSimpArgs false
set_option linter.unusedVariables false
set_option maxRecDepth 100000
set_option maxHeartbeats 4000000
end Go.Proofs.YtjknedoaofjnbaaGreatDoor
namespace Go.Proofs.YtjknedoaofjnbaaGreatDoor
open Go.Sx
set_option linter.unusedSimpArgs false
set_option linter.unusedVariables false
set_option maxRecDepth 100000
set_option maxHeartbeats 4000000
end Go.Proofs.YtjknedoaofjnbaaGreatDoor
namespace Go.Proofs.YtjknedoaofjnbaaGreatDoor
open Go.Sx
set_option linter.unusedSimpArgs false
set_option linter.unusedVariables false
set_option maxRecDepth 100000
set_option maxHeartbeats 4000000
end Go.Proofs.YtjknedoaofjnbaaGreatDoor
namespace Go.Proofs.YtjknedoaofjnbaaGreatDoor
open Go.Sx
set_option linter.unusedSimpArgs false
set_option linter.unusedVariables false
set_option maxRecDepth 100000
set_option maxHeartbeats 4000000
theorem run_firstV {P:Program} {ρ:Rho} {w:World} {s n:Nat} {vs:List SV} {d:Sx.Data} {v:Value} (hv:Has ρ (vecA s vs) v) (himm:∀b o,ρ.imm b=some o→w.heap[b]? =some o)
  (hr:∀z,HasZ (bareR ρ.imm ρ.glob) vs z→(∀x∈vs,x.width=s)→Go.Sx.Rows ρ s d z) (hn:n=vs.length):
  ∃z,Go.Sx.Rows ρ s d z∧(∀w',(∀b,b<w.heap.size→w'.heap[b]? =w.heap[b]?)→(Builtin.firstCells s n v).run P w'= .ok (((z.drop 0).take n).flatten).toArray w')∧Builtin.lenOf v=Pure.pure n:=by
 subst hn
 rcases has_vec hv with⟨rfl,a,rfl⟩|⟨b,cap,z,pre,ex,ty,fz,h1,h2,h3,h4,h5,h6⟩
 ·refine⟨[],hr [] (by simp only[HasZ]) (fun x hx=>by cases hx),fun w' _=> ?_,rfl⟩
  cases a with
  |none=>simp[Builtin.firstCells]
  |some a=>simp[Builtin.firstCells,loadCells,loadCellsFrom]
 ·have hzr:=hr z h2 h3
  obtain⟨zl,zw⟩:=hzr.len
  have hzl:z.length=vs.length:=HasZ_length h2
  subst h6
  refine⟨z,hzr,fun w' hw'=> ?_,rfl⟩
  have hh0:=himm _ _ h1
  have hblt:b<w.heap.size:=by
   rcases Nat.lt_or_ge b w.heap.size with h'|h'
   ·exact h'
   ·simp[Array.getElem?_eq_none h']at hh0
  have hh:w'.heap[b]? =some (.cells (pre++(z.flatten++ex)).toArray ty fz):=by rw[hw' b hblt];exact hh0
  have e0:(z.drop 0).take vs.length=z:=by rw[List.drop_zero,List.take_of_length_le (by omega)]
  rw[e0]
  have hlen:z.flatten.length=vs.length*s:=by rw[flatten_len (s:=s) _ zw,hzl]
  refine run_firstCells_some (P:=P) w' s vs.length _ vs.length cap _ hlen ?_
  intro j u hj
  have hadd:(⟨b,pre.length,none⟩:Addr).add j=⟨b,pre.length+j,none⟩:=by unfold Addr.add;split<;>simp_all
  rw[hadd,cell_of_row w' b (pre.length+j) _ ty fz hh]
  have hlt:j<z.flatten.length:=(List.getElem?_eq_some_iff.1 hj).1
  simp only[List.getElem?_toArray]
  rw[List.getElem?_append_right (by omega),Nat.add_sub_cancel_left,List.getElem?_append_left hlt]
  exact hj
theorem HasZ_intsU {ρ:Rho} {kd:IntKind}:∀(xs:List Int) (z:List (List Value)),HasZ ρ (xs.map (iel kd)) z→z=xs.map fun x=>[.int kd x]
 |[],z,h=>by simpa only[List.map_nil,HasZ]using h
 |x::xs,z,h=>by
  simp only[List.map_cons,HasZ]at h
  obtain⟨y,r,rfl,h1,h2⟩:=h
  rw[HasZ_intsU xs r h2]
  simp only[iel,HasC]at h1
  rw[h1.1,List.map_cons]
theorem rows_ints {kd:IntKind} (xs:List Int):∀(ρ:Rho) z,HasZ (bareR ρ.imm ρ.glob) (xs.map (iel kd)) z→(∀x∈xs.map (iel kd),x.width=1)→Go.Sx.Rows ρ 1 (.ints kd xs) z:=
 fun ρ z h _=>⟨rfl,HasZ_intsU xs z h⟩
theorem op_appendV {P:Program} {o:Oper} {fr:List (Nat×SV)} {fk:List (Nat×Blk)} {t t2 e:TypeId} {x y:Operand} {xs:Array Operand} {ts:Array TypeId} {ti t0 te:TI} {k kn n m:Nat} {d d' d2:Sx.Data} {vs:List SV} (ho:o.op= .call ⟨.builtin .append,xs,ts⟩) (hxs:xs= #[x,y]) (hts:ts= #[t,t2])
  (hx:EvOK fr x (.slc k te.size 0 n)) (hy:EvOK fr y (vecA te.size vs)) (hr2:∀(ρ:Rho) z,HasZ (bareR ρ.imm ρ.glob) vs z→(∀x∈vs,x.width=te.size)→Go.Sx.Rows ρ te.size d2 z) (ht:TOK P t ti) (hk:ti.kind= .slc e) (ht2:TOK P t2 t0) (hk2:t0.kind= .slc e) (he:TOK P e te)
  (hf:(k,⟨e,true,d⟩)∈fk) (hl:d.live=true) (hw:dwidth d=some te.size)
  (hn:n≤dlen d) (hmv:m=vs.length) (hm:0+m≤dlen d2) (hd:dapp d n d2 0 m=some d') (hbytes:(n+m)*te.bytes≤140737488355328) (h63:n+m≤9223372036854775807):
  OpOK P o fr fk (.slc kn te.size 0 (n+m)) [(kn,⟨e,true,d'⟩)] [(k,⟨e,true,.dead⟩)]:=
 ok_value fun ρ a w hp=>by
  have hvx:=hx ρ a hp.hft
  have hvy:=hy ρ a hp.hft
  obtain⟨i,zv,i1,i2',i3,i4,i5,i6,i7,_⟩:=he.info
  have hu:=ht.kind;rw[hk]at hu
  have hu2:=ht2.kind;rw[hk2]at hu2
  obtain⟨z,hz,hzc⟩:=blk_rows (hp.hfk k _ hf) hl hw
  obtain⟨z2,hz2,hrun2,hlen2⟩:=run_firstV (P:=P) (d:=d2) hvy hp.imm (hr2 ρ) hmv
  obtain⟨zl,zw⟩:=hz.len
  obtain⟨zl2,zw2⟩:=hz2.len
  have hrows:=(dapp_rows hd hz hz2).1
  have hfresh:=hp.fresh kn _ (List.mem_cons_self ..)
  simp only at zl
  have hsegw:∀u∈(z2.drop 0).take m,u.length=te.size:=fun u hu=>zw2 u (List.mem_of_mem_drop (List.mem_of_mem_take hu))
  have hsegl:((z2.drop 0).take m).length=m:=by rw[List.length_take,List.length_drop];omega
  have hnews:(((z2.drop 0).take m).flatten).length=m*te.size:=by rw[flatten_len _ hsegw,hsegl]
  have hnone:∀u∈(((z2.drop 0).take m).flatten),u.oneCell'=true:=fun u hu=>by
   obtain⟨q,hq,hu⟩:=List.mem_flatten.1 hu
   exact hz2.one' q (List.mem_of_mem_drop (List.mem_of_mem_take hq)) u hu
  have hcall:∀v w',(Builtin.append_ ts o.type #[a.eval x,a.eval y]).run P w= .ok v w'→(execOp a.eval o).run P w= .ok (.value v) w':=by
   intro v w' h
   simp only[execOp,ho,resolve,invoke,builtin,hxs,Sem.run_bind,Sem.run_pure,Result.andThen_ok,List.map_toArray,List.map_cons,List.map_nil]
   rw[h]
   rfl
  have zone:∀v∈zv.cells.toList,v.oneCell'=true:=by
   have h1:=(HasZ.len (ρ:=ρ) te.zero _ (zero_has i6)).2
   rw[i5,List.flatMap_def];exact h1
  have h63':¬((n+m:Nat):Int)>IntKind.i64.max:=by
   have:IntKind.i64.max=9223372036854775807:=by decide
   omega
  have grow:∀(base:Option Addr) (cap:Nat),a.eval x= .slice base n cap→cap<n+m→(∀w',(∀b,b<w.heap.size→w'.heap[b]? =w.heap[b]?)→(Builtin.firstCells te.size n (.slice base n cap)).run P w'= .ok ((z.take n).flatten).toArray w')→
    ∃v w' ρ',(execOp a.eval o).run P w= .ok (.value v) w'∧Post ρ w (.slc kn te.size 0 (n+m)) [(kn,⟨e,true,d'⟩)] [(k,⟨e,true,.dead⟩)] v ρ' w':=by
   intro base cap hbx hcap hfirst
   have hfit:¬Builtin.nextslicecap (n+m) cap*i.bytes>2^48:=by
    have:=growslice_fits (bytes:=te.bytes) hcap hbytes
    rw[i3];simpa using this
   have hgc:n+m≤grownCap w (n+m) cap e:=by
    simp only[grownCap,Question.cut]
    omega
   have hpost:=post_row (hL:=hrows.notLoop) (ρ:=ρ) (w:=w.drew) (k:=kn) (s:=te.size) (n:=n+m) (cap:=grownCap w (n+m) cap e) (ty:=e) (d:=d') (vs:=(z.take n++(z2.drop 0).take m).flatten) (ex:=(Builtin.zeroCells zv.cells (grownCap w (n+m) cap e - (n+m))).toList) hfresh hrows.data hgc
    (by
     have h1:((z.take n++(z2.drop 0).take m).flatten).length=(n+m)*te.size:=by
      rw[flatten_len (s:=te.size) _ (fun u hu=>(List.mem_append.1 hu).elim (fun h=>zw u (List.mem_of_mem_take h)) (hsegw u)),List.length_append,hsegl,List.length_take]
      congr 1
      omega
     rw[List.length_append,h1,Array.length_toList]
     have h2:(Builtin.zeroCells zv.cells (grownCap w (n+m) cap e - (n+m))).size=(grownCap w (n+m) cap e - (n+m))*te.size:=by simp[Builtin.zeroCells,i7]
     rw[h2,←Nat.add_mul,show n+m+(grownCap w (n+m) cap e - (n+m))=grownCap w (n+m) cap e from by omega]
     exact Nat.le_refl _) (zeroCells_one zone _)
   refine⟨_,_,_,hcall _ _ ?_,{hpost with
    pres:=⟨hpost.pres.os,hpost.pres.tape,hpost.pres.output,hpost.pres.size,fun b hb hn=>hpost.pres.block b hb (fun hh=>by obtain⟨_,_,_,hh,_⟩:=hh;cases hh)⟩
    blk:=fun j b hj=>by
     rcases hj with hj|hj
     ·simp only[List.mem_singleton,Prod.mk.injEq]at hj
      obtain⟨rfl,rfl⟩:=hj
      exact .inl rfl
     ·exact hpost.blk j b (.inr hj)
    once:=fun j b b' h1 h2 h3 h4=>by
     simp only[List.mem_singleton,Prod.mk.injEq]at h1 h2
     rw[h2.2]at h4
     cases h4
    newb:=fun j b q hj hq=>.inl ((hpost.newb j b q hj hq).elim id (fun hh=>by obtain⟨_,_,_,hh,_⟩:=hh;cases hh))}⟩
   have hz0:(if false=true then(Pure.pure 0:Sem Nat)else Builtin.lenOf (a.eval y)).run P w= .ok m w:=by rw[hlen2];rfl
   have hcap':¬n+m≤cap:=by omega
   have hnb:(w.drew).heap=w.heap:=rfl
   have hr1:=hfirst w.drew (fun b _=>rfl)
   have hr2:=hrun2 w.drew (fun b _=>rfl)
   simp only[Builtin.append_,hts,hbx,List.getElem?_toArray,List.getElem?_cons_zero,List.getElem?_cons_succ,Sem.run_bind,run_underlying hu,run_underlying hu2,Result.andThen_ok,he.sizeOf,Sem.run_pure,Bool.false_eq_true,if_false,hlen2]
   have hti:∀w',(typeInfo e).run P w'= .ok i w':=fun w'=>by simp[typeInfo,i1]
   have hzv:∀w',(Go.zeroValue e).run P w'= .ok zv w':=fun w'=>by simp[Go.zeroValue,typeInfo,i1,i4]
   have hcond:¬(((n+m:Nat):Int)>IntKind.i64.max∧(False∨i.bytes=0)):=fun h=>h63' h.1
   have hforced:(Question.appendCap (n+m) cap e).forced=false:=rfl
   simp only[hcap',if_false,Sem.run_bind,hti,Result.andThen_ok,hcond,hfit,run_choose,hforced,Bool.false_eq_true,World.drew_eq,run_askRoom,hr1,Bool.not_false,if_true,hr2,hzv,newRow,run_newObj,Sem.run_pure,World.alloc_eq]
   have harr:((z.take n).flatten.toArray++((z2.drop 0).take m).flatten.toArray++Builtin.zeroCells zv.cells (grownCap w (n+m) cap e - (n+m)))=((z.take n++(z2.drop 0).take m).flatten++(Builtin.zeroCells zv.cells (grownCap w (n+m) cap e - (n+m))).toList).toArray:=by
    apply Array.ext'
    simp
   show Result.ok (Value.slice (some ⟨w.drew.heap.size,0,none⟩) (n+m) (grownCap w (n+m) cap e)) (w.drew.alloc (.cells ((z.take n).flatten.toArray++((z2.drop 0).take m).flatten.toArray++Builtin.zeroCells zv.cells (grownCap w (n+m) cap e - (n+m))) e))=_
   rw[harr]
  rcases has_slc hvx with⟨b,tt,cap,e1,e2,e3,e4⟩|⟨rfl,ad,e4⟩
  ·rcases hzc with⟨b',tt',ex,c1,c2,c3,c4⟩|⟨c1,_⟩
   ·rw[e1]at c1
    cases c1
    simp only at c2
    rcases Nat.lt_or_ge cap (n+m)with hlt|hge
    ·refine grow _ cap e4 hlt ?_
     obtain⟨z3,hz3,hrun3,_⟩:=run_first (P:=P) hvx (hp.hfk k _ hf) hl hw (by simpa using hn)
     intro w' hw'
     have h0:=run_firstCells_some (P:=P) w' te.size n ⟨b,0*te.size,none⟩ n cap ((z.take n).flatten) (by
      rw[flatten_len (s:=te.size) _ (fun u hu=>zw u (List.mem_of_mem_take hu)),List.length_take];congr 1;omega) (by
      intro j u hj
      have hblt:b<w.heap.size:=by
       rcases Nat.lt_or_ge b w.heap.size with h'|h'
       ·exact h'
       ·simp[Array.getElem?_eq_none h']at c2
      have hh:w'.heap[b]? =some (.cells (z.flatten++ex).toArray e (0,0)):=by rw[hw' b hblt];exact c2
      have hadd:(⟨b,0*te.size,none⟩:Addr).add j=⟨b,j,none⟩:=addr_add0 b te.size j
      rw[hadd,cell_of_row w' b j _ e (0,0) hh]
      rw[flatten_take (s:=te.size) _ _ zw]at hj
      have h6:z.flatten[j]? =some u:=by
       rw[List.getElem?_take]at hj
       split at hj
       ·exact hj
       ·cases hj
      have hlt2:j<z.flatten.length:=(List.getElem?_eq_some_iff.1 h6).1
      simp only[List.getElem?_toArray]
      rw[List.getElem?_append_left hlt2]
      exact h6)
     exact h0
    ·-- in place
     have hblt:b<w.heap.size:=by
      rcases Nat.lt_or_ge b w.heap.size with h'|h'
      ·exact h'
      ·simp[Array.getElem?_eq_none h']at c2
     have hr2:=hrun2 w (fun b _=>rfl)
     have hfitc:0*te.size+n*te.size+(((z2.drop 0).take m).flatten).length≤(z.flatten++ex).length:=by
      rw[hnews,c3,Nat.zero_mul,Nat.zero_add,←Nat.add_mul]
      exact Nat.le_trans (Nat.mul_le_mul_right _ hge) (by simpa using e3)
     have hsc:=run_storeCells_at (P:=P) b (n*te.size) e (((z2.drop 0).take m).flatten) 0 (z.flatten++ex).toArray w c2 (by simp only[List.size_toArray];simpa using hfitc) hnone
     have hadd:(⟨b,0*te.size,none⟩:Addr).add (n*te.size)=⟨b,n*te.size,none⟩:=addr_add0 b te.size _
     have hcells:((z.flatten++ex).take (n*te.size+0)++(((z2.drop 0).take m).flatten)++(z.flatten++ex).drop (n*te.size+0+(((z2.drop 0).take m).flatten).length))=
       (z.take n++(z2.drop 0).take m).flatten++(z.flatten++ex).drop (n*te.size+m*te.size):=by
      rw[Nat.add_zero,hnews,List.flatten_append,flatten_take (s:=te.size) _ _ zw,List.take_append_of_le_length (by rw[flatten_len (s:=te.size) _ zw];exact Nat.mul_le_mul_right _ (by omega))]
     rw[hcells]at hsc
     let ρ':Rho:=⟨fun j=>if j=kn then some (b,tt)else ρ.key j,ρ.imm,ρ.glob⟩
     have hle:ρ.Le ρ':=⟨fun j q hq=>by
      show(if j=kn then _ else _)=_
      by_cases hj:j=kn
      ·subst hj;rw[hfresh]at hq;cases hq
      ·rw[if_neg hj];exact hq,fun b o hb=>hb⟩
     refine⟨.slice (some ⟨b,0*te.size,none⟩) (n+m) cap,w.setRow b ((z.take n++(z2.drop 0).take m).flatten++(z.flatten++ex).drop (n*te.size+m*te.size)).toArray,ρ',hcall _ _ ?_, ?_⟩
     ·simp only[Builtin.append_,hts,e4,List.getElem?_toArray,List.getElem?_cons_zero,List.getElem?_cons_succ,Sem.run_bind,run_underlying hu,run_underlying hu2,Result.andThen_ok,he.sizeOf,Sem.run_pure,Bool.false_eq_true,if_false,hlen2,hge,if_true,Bool.not_false,hr2,hadd,hsc]
     ·refine⟨hle,slc_has (.inl ⟨b,tt,cap, ?_,hge,e3,rfl⟩), ?_,⟨rfl,rfl,rfl,by simp[World.setRow], ?_⟩, ?_, ?_, ?_, ?_,fun b o hb=>.inl hb⟩
      ·show(if kn=kn then _ else _)=_
       rw[if_pos rfl]
      ·intro j hj
       show(if j=kn then _ else _)=_
       rw[if_neg]
       rintro rfl
       exact hj _ (List.mem_cons_self ..)
      ·intro q hq hnq
       refine heap_setRow_other fun hqb=>hnq ⟨k,_,tt,List.mem_cons_self .., ?_⟩
       rw[hqb];exact e1
      ·intro j bj hj
       rcases hj with hj|hj
       ·simp only[List.mem_singleton,Prod.mk.injEq]at hj
        obtain⟨rfl,rfl⟩:=hj
        exact .inl rfl
       ·simp only[List.mem_singleton,Prod.mk.injEq]at hj
        obtain⟨rfl,rfl⟩:=hj
        refine .inr (.inl ⟨b,tt,_,(z.flatten++ex).drop (n*te.size+m*te.size), ?_,by rw[Data.obj_cells hrows.notLoop];exact heap_setRow_same c2,hrows.data.mono hle, ?_, ?_⟩)
        ·show(if j=j then _ else _)=_
         rw[if_pos rfl]
        ·have h1:((z.take n++(z2.drop 0).take m).flatten).length=(n+m)*te.size:=by
          rw[flatten_len (s:=te.size) _ (fun u hu=>(List.mem_append.1 hu).elim (fun h=>zw u (List.mem_of_mem_take h)) (hsegw u)),List.length_append,hsegl,List.length_take]
          congr 1
          omega
         rw[List.length_append,h1,List.length_drop,c3,Nat.add_mul]
         rw[hnews,c3]at hfitc
         omega
        ·intro u hu
         have:=List.mem_of_mem_drop hu
         rcases List.mem_append.1 this with h|h
         ·obtain⟨q,hq,hu'⟩:=List.mem_flatten.1 h
          exact hz.one' q hq u hu'
         ·exact c4 u h
      ·intro j c c' h1 h2 h3 h4
       simp only[List.mem_singleton,Prod.mk.injEq]at h1 h2
       rw[h2.2]at h4
       cases h4
      ·intro j bj q hj hq
       simp only[List.mem_singleton,Prod.mk.injEq]at hj
       obtain⟨rfl,rfl⟩:=hj
       have hq':(if j=j then some (b,tt)else ρ.key j)=some q:=hq
       rw[if_pos rfl]at hq'
       cases hq'
       exact .inr ⟨k,_,tt,List.mem_cons_self ..,rfl,e1⟩
      ·intro j bj j' bj' q q' hj hj' hne
       simp only[List.mem_singleton,Prod.mk.injEq]at hj hj'
       exact absurd (hj.1.trans hj'.1.symm) hne
   ·rw[e1]at c1;cases c1
  ·rcases Nat.eq_zero_or_pos m with rfl|hm0
   ·-- nothing onto nothing
    have hr2:=hrun2 w (fun b _=>rfl)
    refine⟨.slice ad 0 0,w,ρ,hcall _ _ ?_, ?_⟩
    ·have hst:∀q:Addr,(storeCells q ([]:List Value)).run P w= .ok () w:=fun q=>rfl
     have hseg0:((z2.drop 0).take 0).flatten=[]:=by simp
     rw[hseg0]at hr2
     cases ad<;>simp only[Builtin.append_,hts,e4,List.getElem?_toArray,List.getElem?_cons_zero,List.getElem?_cons_succ,Sem.run_bind,run_underlying hu,run_underlying hu2,Result.andThen_ok,he.sizeOf,Sem.run_pure,Bool.false_eq_true,if_false,hlen2,Nat.add_zero,Nat.le_refl,if_true,Bool.not_false,hr2,hst]
    ·have hemp:d'.empty∨True:=.inr trivial
     have hd0:d'.empty:=by
      unfold dapp at hd
      split at hd
      ·split at hd
       ·simp only[Option.some.injEq]at hd;subst hd;simp[Data.empty]
       ·simp at hd
      ·simp only[Option.some.injEq]at hd;subst hd;simp[Data.empty]
      ·split at hd
       ·simp only[Option.some.injEq]at hd;subst hd;simp[Data.empty]
       ·simp at hd
      ·simp at hd
     refine⟨.refl ρ,slc_has (.inr ⟨rfl,ad,rfl⟩),fun _ _=>rfl,.refl _ _, ?_, ?_, ?_, ?_,fun b o hb=>.inl hb⟩
     ·intro j bj hj
      rcases hj with hj|hj
      ·simp only[List.mem_singleton,Prod.mk.injEq]at hj
       obtain⟨rfl,rfl⟩:=hj
       exact .inl rfl
      ·simp only[List.mem_singleton,Prod.mk.injEq]at hj
       obtain⟨rfl,rfl⟩:=hj
       exact .inr (.inr ⟨hfresh,hd0⟩)
     ·intro j c c' h1 h2 h3 h4
      simp only[List.mem_singleton,Prod.mk.injEq]at h1 h2
      rw[h2.2]at h4
      cases h4
     ·intro j bj q hj hq
      simp only[List.mem_singleton,Prod.mk.injEq]at hj
      obtain⟨rfl,rfl⟩:=hj
      rw[hfresh]at hq;cases hq
     ·intro j bj j' bj' q q' hj hj' hne
      simp only[List.mem_singleton,Prod.mk.injEq]at hj hj'
      exact absurd (hj.1.trans hj'.1.symm) hne
   ·refine grow ad 0 e4 (by omega) ?_
    intro w' _
    cases ad with
    |none=>simp[Builtin.firstCells]
    |some q=>simp[Builtin.firstCells,loadCells,loadCellsFrom]
end Go.Proofs.YtjknedoaofjnbaaGreatDoor
namespace Go.Proofs.YtjknedoaofjnbaaGreatDoor
open Go.Sx
set_option linter.unusedSimpArgs false
set_option linter.unusedVariables false
set_option maxRecDepth 100000
set_option maxHeartbeats 4000000
section
variable {a b R d P F T lb:Nat}
end
end Go.Proofs.YtjknedoaofjnbaaGreatDoor
namespace Go.Proofs.YtjknedoaofjnbaaGreatDoor
open Go.Sx
set_option linter.unusedSimpArgs false
set_option linter.unusedVariables false
set_option maxRecDepth 100000
set_option maxHeartbeats 4000000
end Go.Proofs.YtjknedoaofjnbaaGreatDoor
namespace Go.Proofs.YtjknedoaofjnbaaGreatDoor
open Go.Sx
set_option linter.unusedSimpArgs false
set_option linter.unusedVariables false
set_option maxRecDepth 100000
set_option maxHeartbeats 4000000
end Go.Proofs.YtjknedoaofjnbaaGreatDoor
namespace Go.Proofs.YtjknedoaofjnbaaGreatDoor
open Go.Sx
set_option linter.unusedSimpArgs false
set_option linter.unusedVariables false
set_option maxRecDepth 100000
set_option maxHeartbeats 4000000
end Go.Proofs.YtjknedoaofjnbaaGreatDoor
namespace Go.Proofs.YtjknedoaofjnbaaGreatDoor
open Go.Sx
set_option linter.unusedSimpArgs false
set_option linter.unusedVariables false
set_option maxRecDepth 100000
set_option maxHeartbeats 4000000
end Go.Proofs.YtjknedoaofjnbaaGreatDoor
namespace Go.Proofs.YtjknedoaofjnbaaGreatDoor
open Go.Sx
set_option linter.unusedSimpArgs false
set_option linter.unusedVariables false
set_option maxRecDepth 100000
set_option maxHeartbeats 4000000
end Go.Proofs.YtjknedoaofjnbaaGreatDoor
namespace Go.Proofs.YtjknedoaofjnbaaGreatDoor
open Go.Sx
set_option linter.unusedSimpArgs false
set_option linter.unusedVariables false
set_option maxRecDepth 100000
set_option maxHeartbeats 4000000
end Go.Proofs.YtjknedoaofjnbaaGreatDoor
namespace Go.Proofs.YtjknedoaofjnbaaGreatDoor
open Go.Sx
set_option linter.unusedSimpArgs false
set_option linter.unusedVariables false
set_option maxRecDepth 100000
set_option maxHeartbeats 4000000
end Go.Proofs.YtjknedoaofjnbaaGreatDoor
namespace Go.Proofs.YtjknedoaofjnbaaGreatDoor
open Go.Sx
set_option linter.unusedSimpArgs false
set_option linter.unusedVariables false
set_option maxRecDepth 100000
set_option maxHeartbeats 4000000
end Go.Proofs.YtjknedoaofjnbaaGreatDoor
namespace Go.Proofs.YtjknedoaofjnbaaGreatDoor
open Go.Sx
set_option linter.unusedSimpArgs false
set_option linter.unusedVariables false
set_option maxRecDepth 100000
set_option maxHeartbeats 8000000
end Go.Proofs.YtjknedoaofjnbaaGreatDoor
namespace Go.Proofs.YtjknedoaofjnbaaGreatDoor
open Go.Sx
set_option linter.unusedSimpArgs false
set_option linter.unusedVariables false
set_option maxRecDepth 100000
set_option maxHeartbeats 8000000
end Go.Proofs.YtjknedoaofjnbaaGreatDoor
namespace Go.Proofs.YtjknedoaofjnbaaGreatDoor
open Go.Sx
set_option linter.unusedSimpArgs false
set_option linter.unusedVariables false
set_option maxRecDepth 100000
set_option maxHeartbeats 8000000
end Go.Proofs.YtjknedoaofjnbaaGreatDoor
namespace Go.Proofs.YtjknedoaofjnbaaGreatDoor
open Go.Sx
set_option linter.unusedSimpArgs false
set_option linter.unusedVariables false
set_option maxRecDepth 100000
set_option maxHeartbeats 8000000
end Go.Proofs.YtjknedoaofjnbaaGreatDoor
namespace Go.Proofs.YtjknedoaofjnbaaGreatDoor
open Go.Sx
set_option linter.unusedSimpArgs false
set_option linter.unusedVariables false
set_option maxRecDepth 100000
set_option maxHeartbeats 40000000
end Go.Proofs.YtjknedoaofjnbaaGreatDoor
namespace Go.Sx
set_option linter.unusedSimpArgs false
set_option linter.unusedVariables false
section
variable {P:Program} {o:Oper} {ft:List (Nat×SV)} {fk:List (Nat×Blk)}
end
end Go.Sx
namespace Go.Proofs.YtjknedoaofjnbaaGreatDoor
open Go.Sx
set_option linter.unusedSimpArgs false
set_option linter.unusedVariables false
set_option maxRecDepth 100000
set_option maxHeartbeats 8000000
end Go.Proofs.YtjknedoaofjnbaaGreatDoor
namespace Go.Proofs.YtjknedoaofjnbaaGreatDoor
open Go.Sx
set_option linter.unusedSimpArgs false
set_option linter.unusedVariables false
set_option maxRecDepth 100000
set_option maxHeartbeats 40000000
def plF (n:Nat) (p:Int):Int:=p % (n:Int)
def places (l:List Int) (n:Nat) (b:Bool):List Int:=(if b then(List.range n).map (fun i=>((i:Nat):Int))else[])++(if n=0 then[]else l.map (plF n))
abbrev iblkM (l:List Int):Blk:=⟨3,true,.ints .i64 l⟩
theorem app_int {l:List Int} {x:Int}:iblkM (l++[x])=⟨3,true,.ints .i64 (List.take l.length l++List.take 1 (List.drop 0 [x]))⟩:=by
 rw[iblkM,List.take_of_length_le (Nat.le_refl _)];rfl
end Go.Proofs.YtjknedoaofjnbaaGreatDoor
namespace Go.Proofs.YtjknedoaofjnbaaGreatDoor
open Go.Sx
set_option linter.unusedSimpArgs false
set_option linter.unusedVariables false
set_option maxRecDepth 100000
set_option maxHeartbeats 4000000
theorem SWx_freezeI {E:Env} (t k:Nat) {c:Code} {K:Post'} {fr:List (Nat×SV)} {hp:List (Nat×Blk)} {ty:TypeId} {n:Nat} {kd:IntKind} {xs:List Int} (hW:∀b,¬E.W0 b) (ht:lk fr t=some (.slc k 1 0 n)) (hk:find hp k=some ⟨ty,true,.ints kd xs⟩)
  (hn:n=xs.length) (hs:SWx E c K ((t,ivec kd xs)::fr) (setB hp k ⟨ty,true,.dead⟩)):SWx E c K fr hp:=by
 refine SWx_freeze t k (xs:=xs.map (iel kd)) hW ht hk rfl rfl (keylessL_map (fun _=>rfl) xs) (by simp;omega) ?_
 rw[cutL_all (by simp;omega)]
 exact hs
end Go.Proofs.YtjknedoaofjnbaaGreatDoor
namespace Go.Proofs.YtjknedoaofjnbaaGreatDoor
open Go.Sx
set_option linter.unusedSimpArgs false
set_option linter.unusedVariables false
set_option maxRecDepth 100000
set_option maxHeartbeats 40000000
def pS (n B:Nat):Nat→Nat
 |0=>2
 |m+1=>2+n*(B+pS n B m)
theorem fs_sg (t:Nat) (x:Rat):fs (sg t*x)=fs x:=by
 induction t with
 |zero=>rw[sg];congr 1;grind
 |succ t ih=>rw[sg,show -sg t*x= -(sg t*x) by grind,fs_neg,ih]
theorem term_fs {n B S i:Nat} {a:List Rat} (ha:a.length=n*n) (sa:Sm B a) (hi:i<n) (k:Nat) (l:List Nat) (hk:k<n) {D:Rat} (hD:fs D≤S):fs (if k∈l then 0 else sg (turns l k)*el a n i k*D)≤B+S:=by
 split
 ·rw[fs_zero]
  have:=fs_two D
  omega
 ·have h1:=el_sm sa ha hi hk
  have h3:=fs_mul (el a n i k) D
  rw[Rat.mul_assoc,fs_sg];omega
theorem picks_fs {n B:Nat} {a:List Rat} (ha:a.length=n*n) (sa:Sm B a):∀(m i:Nat) (l:List Nat),i+m=n→fs (picksR n (el a n) m i l)≤pS n B m
 |0,_,_,_=>Nat.le_of_eq fs_one
 |m+1,i,l,h=>by
  rw[picksR,pS]
  exact sum_fs (B:=B+pS n B m) n fun k hk=>term_fs ha sa (by omega) k l hk (picks_fs ha sa m (i+1) (l++[k]) (by omega))
end Go.Proofs.YtjknedoaofjnbaaGreatDoor
namespace Go.Proofs.YtjknedoaofjnbaaGreatDoor
open Go.Sx
set_option linter.unusedSimpArgs false
set_option linter.unusedVariables false
set_option maxRecDepth 100000
set_option maxHeartbeats 4000000
variable {M:Nat}
theorem c_fFrom (ok:NatOK M) (n:Int) (d:Nat) (h1:sz n.natAbs≤M) (h2:sz d≤M) (hd:d≠0):CallOK Tryz.prog 129 [.int n,.nat d] [] (.tup [.frac (mkRat n d),.val (.int .i64 0)]) [] []:=by
 have k1:=c_lowest ok n d h1 h2 hd
 refine callV (Z:=[]) tabOK mixedOK Tryz.func129 rfl (by kernel_rfl) rfl rfl (by kernel_rfl) rfl ?_
 intro W0 w0 ρ0 hE
 conv=>whnf
 skip
 refine⟨_,op_eqAgg tabOK goodOK rfl (ev_ok rfl) (ev_ok rfl) rfl rfl rfl rfl (eqTy_nat d 0) guard_nat, ?_⟩
 rw[decide_eq_false hd]
 conv=>whnf
 (repeat(first|(refine step_w2 rfl rfl ?_;conv=>whnf)|(refine g_c (by assumption) ?_;conv=>whnf)));exact Recast.refl _
structure Words (M:Nat) (xs:List Int):Prop where
 w32:W32 xs
 len:xs.length<1099511627776
 fit:32*xs.length+33≤M
end Go.Proofs.YtjknedoaofjnbaaGreatDoor
namespace Go.Proofs.YtjknedoaofjnbaaGreatDoor
open Go.Sx
set_option linter.unusedSimpArgs false
set_option linter.unusedVariables false
set_option maxRecDepth 100000
set_option maxHeartbeats 4000000
def zs (z:Int):Nat:=sz z.natAbs+1
theorem zs_add (a b:Int):zs (a+b)≤zs a+zs b:=by
 have:=sz_add (a:=a.natAbs) (b:=b.natAbs) (k:=max (sz a.natAbs) (sz b.natAbs)) (by omega) (by omega)
 have:=sz_mono (Int.natAbs_add_le a b)
 unfold zs;omega
theorem zs_neg (a:Int):zs (-a)=zs a:=by unfold zs;rw[Int.natAbs_neg]
theorem zs_sub (a b:Int):zs (a - b)≤zs a+zs b:=by rw[Int.sub_eq_add_neg,←zs_neg b];exact zs_add _ _
theorem zs_mul (a b:Int):zs (a*b)≤zs a+zs b:=by
 have:=sz_mul a.natAbs b.natAbs
 unfold zs;rw[Int.natAbs_mul];omega
theorem zs_div (a b:Int):zs (a/b)≤zs a:=by
 have:=sz_mono (Int.natAbs_ediv_le_natAbs a b)
 unfold zs;omega
theorem zs_zero:zs 0=1:=rfl
theorem zs_1:zs 1=2:=by decide+kernel
theorem zs_i64 {n:Int} (h0: -9223372036854775808≤n) (h1:n<9223372036854775808):zs n≤65:=by
 have:=sz_i64 h0 h1;unfold zs;omega
theorem zs_abs (z:Int):zs (z.natAbs:Int)=zs z:=by unfold zs;rw[Int.natAbs_natCast]
theorem fs_zs (z:Int):fs (z:Rat)≤zs z+1:=by
 have:=fsz_int (n:=z) (k:=sz z.natAbs+1) (by omega) (by omega)
 unfold fs zs;omega
theorem zz_Add (a b:Int) (h:zs a+zs b≤1073741824):CallOK Tryz.prog 171 [.int a,.int b] [] (.int (a+b)) [] []:=c_iAdd natBig a b (by unfold zs at h;omega) (by unfold zs at h;omega)
theorem zz_Sub (a b:Int) (h:zs a+zs b≤1073741824):CallOK Tryz.prog 146 [.int a,.int b] [] (.int (a - b)) [] []:=c_iSub natBig a b (by unfold zs at h;omega) (by unfold zs at h;omega)
theorem zz_Mul (a b:Int) (h:zs a+zs b≤1073741824):CallOK Tryz.prog 68 [.int a,.int b] [] (.int (a*b)) [] []:=c_iMul natBig a b (by unfold zs at h;omega)
theorem zz_Div (a b:Int) (h:zs a+zs b≤1073741824):∃r ok,CallOK Tryz.prog 196 [.int a,.int b] [] (.tup [.int (a/b),.int r,.val (.bool ok)]) [] []:=by
 by_cases h0:b=0
 ·subst h0;rw[Int.ediv_zero];exact⟨_,_,c_iDivZ natBig a⟩
 ·exact⟨_,_,c_iDiv natBig a b (by unfold zs at h;omega) (by unfold zs at h;omega) h0⟩
abbrev zvec (l:List Int):SV:=mvec 3 .int l
abbrev wA (r c:Int) (a:List Int):SV:=.agg [iv r,iv c,zvec a]
abbrev wC (r c:Int) (a:List Int):List SV:=[iv r,iv c,zvec a]
def mkz (r c:Nat) (f:Mz):List Int:=(List.range (r*c)).map fun p=>f (p/c) (p % c)
abbrev elz (a:List Int) (c i k:Nat):Int:=a.getD (i*c+k) 0
theorem mkz_len (r c:Nat) (f:Mz):(mkz r c f).length=r*c:=by simp[mkz]
theorem mkz_at {r c:Nat} {f:Mz} {p:Nat} (hp:p<r*c):(mkz r c f).getD p 0=f (p/c) (p % c):=by
 simp[mkz,List.getD_eq_getElem?_getD,hp]
theorem mkz_el {r c i k:Nat} {f:Mz} (hi:i<r) (hk:k<c):elz (mkz r c f) c i k=f i k:=by
 rw[elz,mkz_at (idx_lt hi hk),idx_div hk,idx_mod hk]
theorem zec_ext {a b:List Int} {n:Nat} (ha:a.length=n) (hb:b.length=n) (h:∀p,p<n→a.getD p 0=b.getD p 0):a=b:=by
 refine List.ext_getElem (by omega) fun p h1 h2=> ?_
 have:=h p (by omega)
 rwa [List.getD_eq_getElem?_getD,List.getD_eq_getElem?_getD,List.getElem?_eq_getElem h1,List.getElem?_eq_getElem h2]at this
theorem maz_ext {a b:List Int} {r c:Nat} (ha:a.length=r*c) (hb:b.length=r*c) (h:∀i k,i<r→k<c→elz a c i k=elz b c i k):a=b:=by
 refine zec_ext ha hb fun p hp=> ?_
 obtain⟨h1,h2,h3⟩:=idx_split hp
 have:=h _ _ h1 h2
 rwa [elz,elz,h3]at this
theorem mkz_ext {a:List Int} {r c:Nat} {f:Mz} (ha:a.length=r*c) (h:∀i k,i<r→k<c→f i k=elz a c i k):mkz r c f=a:=
 maz_ext (mkz_len ..) ha fun i k hi hk=>by rw[mkz_el hi hk,h i k hi hk]
theorem mkz_congr {r c:Nat} {f g:Mz} (h:∀i k,i<r→k<c→f i k=g i k):mkz r c f=mkz r c g:=
 mkz_ext (mkz_len ..) fun i k hi hk=>by rw[mkz_el hi hk,h i k hi hk]
theorem mkz_self {a:List Int} {r c:Nat} (ha:a.length=r*c):mkz r c (elz a c)=a:=mkz_ext ha fun _ _ _ _=>rfl
def Zm (B:Nat) (l:List Int):Prop:=∀p,p<l.length→zs (l.getD p 0)≤B
theorem Zm_mk {r c B:Nat} {f:Mz} (h:∀i k,i<r→k<c→zs (f i k)≤B):Zm B (mkz r c f):=by
 intro p hp
 rw[mkz_len]at hp
 obtain⟨h1,h2,_⟩:=idx_split hp
 rw[mkz_at hp];exact h _ _ h1 h2
theorem elz_zm {a:List Int} {r c B i k:Nat} (h:Zm B a) (ha:a.length=r*c) (hi:i<r) (hk:k<c):zs (elz a c i k)≤B:=h _ (by rw[ha];exact idx_lt hi hk)
theorem Zm.mono {B C:Nat} {a:List Int} (h:Zm B a) (hBC:B≤C):Zm C a:=fun p hp=>Nat.le_trans (h p hp) hBC
structure OKZ (R C:Nat) (a:List Int):Prop where
 r:R≤2048
 c:C≤2048
 n:a.length=R*C
theorem OKZ.mk' {r c:Nat} (hr:r≤2048) (hc:c≤2048) (f:Mz):OKZ r c (mkz r c f):=⟨hr,hc,mkz_len ..⟩
theorem b_frac (n:Int) (h:zs n≤536870912):CallOK Tryz.prog 128 [.int n] [] (.frac n) [] []:=by
 have k1:=c_nOf 1 (by decide)
 have k2:=c_fFrom natBig n 1 (by unfold zs at h;omega) (by rw[sz_one];decide) (by decide)
 rw[Rat.mkRat_one]at k2
 refine callV (Z:=[]) tabOK mixedOK Tryz.func128 rfl (by kernel_rfl) rfl rfl (by kernel_rfl) rfl ?_
 intro W0 w0 ρ0 hE
 conv=>whnf
 (repeat(first|(refine step_i (by kernel_rfl) ?_;conv=>whnf)|(refine g_c (by assumption) ?_;conv=>whnf)));(first|exact Recast.refl _|exact Frz.recast (Recast.refl _) rfl|(refine Frz.one rfl rfl ?_;skip)|(refine Frz.tup ?_;skip))
abbrev zB3 (xs:List Int):Blk:=⟨51,true,.seq 3 (xs.map .int)⟩
abbrev zfil (l:List Int) (n i:Nat):Blk:=⟨51,true,.seq 3 ((l.map SV.int).take i++List.replicate (n - i) (SV.int 0))⟩
theorem zfil_all {l:List Int} {n:Nat} (h:l.length=n):zfil l n n=zB3 l:=by
 rw[zfil,fill_all (by rw[List.length_map,h])]
theorem map_getD {α β:Type} {f:α→β} {l:List α} {i:Nat} {d:α} {e:β} (h:i<l.length):(l.map f).getD i e=f (l.getD i d):=by
 simp[List.getD_eq_getElem?_getD,List.getElem?_eq_getElem h]
theorem zfil_set {l:List Int} {n i:Nat} (hi:i<n) (hn:l.length=n):((l.map SV.int).take i++List.replicate (n - i) (SV.int 0)).set i (.int (l.getD i 0))=(l.map SV.int).take (i+1)++List.replicate (n - (i+1)) (SV.int 0):=by
 rw[←fill_set (e:=SV.int 0) hi (by rw[List.length_map,hn]),map_getD (d:=0) (by omega)]
theorem zfil_len {l:List Int} {n i:Nat} (hi:i≤n) (hn:l.length=n):((l.map SV.int).take i++List.replicate (n - i) (SV.int 0)).length=n:=fill_len hi (by rw[List.length_map,hn])
theorem zfil_get {l:List Int} {n i:Nat} (hi:i<n) (hn:l.length=n):((l.map SV.int).take i++List.replicate (n - i) (SV.int 0)).getD i SV.any= .int 0:=fill_get hi (by rw[List.length_map,hn])
theorem b_overF (l:List Int) (hl:l.length<1099511627776) (h:∀i,i<l.length→zs (l.getD i 0)≤536870912):CallOK Tryz.prog 198 [zvec l,.clo 128 [] []] [] (fvec (ofInts l)) [] []:=by
 refine callF (Z:=[]) tabOK mixedOK Tryz.func198 rfl (by kernel_rfl) (by first|rfl|(simp[keylessL,keyless,keylessL_map, *];done)) (by first|rfl|(simp[keylessL,keyless,keylessL_map, *];done)) (by kernel_rfl) rfl ?_
 intro w0 ρ0 hE
 conv=>whnf
 (repeat(first|(refine step_oA (by first|omega|decide|(simp only[tl0,dlen,List.length_replicate,List.length_set,List.length_map,List.length_zipWith,List.length_take,List.length_append,List.length_cons,List.length_nil];omega)) ?_;conv=>whnf)|(refine g_o (op_lenM rfl rfl rfl (ev_ok rfl) (tgt rfl) rfl) ?_;conv=>whnf)|(rw[Int.toNat_natCast];conv=>whnf)))
 have hz:(ofInts l).length=l.length:=by simp[ofInts]
 refine SW_loopN hE (fun k=>k) [1,4,5,11,12,13] [10] (fun m fr hp=>∃i,m=l.length - i∧i≤l.length∧fr=[(1,.clo 128 [] []),(4,.val (.slice none 0 0)),(5,.slc 10 5 0 l.length),(11,zvec l),(12,iv (l.length:Nat)),(13,iv (i:Nat))]∧
  hp=[(10,⟨53,true,.fracs ((ofInts l).take i++List.replicate (l.length - i) 0)⟩)]) l.length ?_ ?_ ?_
 ·kernel_rfl
 ·exact⟨0,rfl,Nat.zero_le _,rfl,rfl⟩
 rintro m _ _ ⟨i,rfl,hi,rfl,rfl⟩
 conv=>whnf
 have hlen:=fill_len (d:=(0:Rat)) hi hz
 by_cases hlt:i<l.length
 ·have t1:=dlt hlt
  have t2:=winc (i:=i) (by omega)
  have k1:=b_frac (l.getD i 0) (h i hlt)
  rw[←map_get (f:=fun(n:Int)=>((n:Int):Rat)) (e:=0) hlt]at k1
  (repeat((first|refine step_w1 rfl rfl ?_|refine step_oL (by first|omega|decide|(simp only[tl0,dlen,List.length_replicate,List.length_set,List.length_map,List.length_zipWith,List.length_take,List.length_append,List.length_cons,List.length_nil];omega)) ?_|refine step_oA (by first|omega|decide|(simp only[tl0,dlen,List.length_replicate,List.length_set,List.length_map,List.length_zipWith,List.length_take,List.length_append,List.length_cons,List.length_nil];omega)) ?_|refine g_c (by assumption) ?_|refine g_o (op_loadA rfl (ev_ok rfl) (tgt rfl) rfl (Nat.succ_ne_zero _) rfl) ?_|refine g_o (op_indexN (α:=Int) (d:=0) rfl (ev_ok rfl) (ev_ok rfl) (tgt rfl) rfl (tgt rfl) rfl (by omega)) ?_|rw[t1]|rw[t2]|rw[Int.toNat_natCast]|rw[Nat.zero_add]);conv=>whnf))
  refine⟨l.length - (i+1),fun k=>k,[1,4,5,11,12,13],[10],by omega,by kernel_rfl,i+1,rfl,hlt,rfl, ?_⟩
  rw[←fill_set (e:=0) hlt hz]
  rfl
 ·have t1:=dge hlt
  have hI:i=l.length:=by omega
  subst hI
  rw[fill_all hz]
  (repeat(first|(refine step_w2 rfl rfl ?_;conv=>whnf)|(rw[t1];conv=>whnf)));(first|exact Recast.refl _|exact Frz.recast (Recast.refl _) rfl|(refine Frz.one rfl rfl ?_;(repeat(first|(refine FrzC.fracs rfl ?_;(first|rfl|omega|(simp<;>fail)|(simp<;>omega))))))|(refine Frz.tup ?_;skip))
theorem b_mat (r c:Int) (l:List Int) (hl:l.length<1099511627776) (h:∀i,i<l.length→zs (l.getD i 0)≤536870912):CallOK Tryz.prog 143 [wA r c l] [] (mA r c (ofInts l)) [] []:=by
 have k1:=b_overF l hl h
 refine callV (Z:=[]) tabOK mixedOK Tryz.func143 rfl (by kernel_rfl) rfl rfl (by kernel_rfl) rfl ?_
 intro W0 w0 ρ0 hE
 conv=>whnf
 (repeat(first|(refine step_i (by kernel_rfl) ?_;conv=>whnf)|(refine g_c (by assumption) ?_;conv=>whnf)));(first|exact Recast.refl _|exact Frz.recast (Recast.refl _) rfl|(refine Frz.one rfl rfl ?_;skip)|(refine Frz.tup ?_;skip))
theorem b_Check (r c:Int) (l:List Int) (hl:l.length<1099511627776) (h:∀i,i<l.length→zs (l.getD i 0)≤536870912):CallOK Tryz.prog 135 [wA r c l] [] (iv (checkF r c l.length)) [] []:=by
 have k1:=b_mat r c l hl h
 have k2:=m_Check r c (ofInts l) (by simp[ofInts];exact hl)
 rw[show(ofInts l).length=l.length from by simp[ofInts]]at k2
 refine callV (Z:=[]) tabOK mixedOK Tryz.func135 rfl (by kernel_rfl) rfl rfl (by kernel_rfl) rfl ?_
 intro W0 w0 ρ0 hE
 conv=>whnf
 (repeat(first|(refine g_c (by assumption) ?_;conv=>whnf)));(first|exact Recast.refl _|exact Frz.recast (Recast.refl _) rfl|(refine Frz.one rfl rfl ?_;skip)|(refine Frz.tup ?_;skip))
theorem b_Frac (r c:Int) (l:List Int) (hl:l.length<1099511627776) (h:∀i,i<l.length→zs (l.getD i 0)≤536870912):CallOK Tryz.prog 67 [wA r c l] [] (if checkF r c l.length=0 then .tup [mA r c (ofInts l),iv 0]else .tup [mA 0 0 [],iv (checkF r c l.length)]) [] []:=by
 have k1:=b_Check r c l hl h
 have k2:=b_mat r c l hl h
 by_cases hc:checkF r c l.length=0
 ·rw[if_pos hc]
  rw[hc]at k1
  refine callV (Z:=[]) tabOK mixedOK Tryz.func67 rfl (by kernel_rfl) rfl rfl (by kernel_rfl) rfl ?_
  intro W0 w0 ρ0 hE
  conv=>whnf
  (repeat(first|(refine step_w2 rfl rfl ?_;conv=>whnf)|(refine g_c (by assumption) ?_;conv=>whnf)));(first|exact Recast.refl _|exact Frz.recast (Recast.refl _) rfl|(refine Frz.one rfl rfl ?_;skip)|(refine Frz.tup ?_;skip))
 ·rw[if_neg hc]
  have t1:(checkF r c l.length != 0)=true:=bne_iff_ne.2 hc
  refine callF (Z:=[]) tabOK mixedOK Tryz.func67 rfl (by kernel_rfl) (by first|rfl|(simp[keylessL,keyless,keylessL_map, *];done)) (by first|rfl|(simp[keylessL,keyless,keylessL_map, *];done)) (by kernel_rfl) rfl ?_
  intro w0 ρ0 hE
  conv=>whnf
  (repeat(first|(refine step_w1 rfl rfl ?_;conv=>whnf)|(refine g_c (by assumption) ?_;conv=>whnf)|(rw[t1];conv=>whnf)));(first|exact Recast.refl _|exact Frz.recast (Recast.refl _) rfl|(refine Frz.one rfl rfl ?_;skip)|(refine Frz.tup ?_;(repeat(first|exact FrzC.keyless rfl|exact FrzL.nil|refine FrzL.cons ?_ ?_|exact FrzC.nilS|refine FrzC.agg ?_))))
theorem b_square (r c:Int) (l:List Int) (hl:l.length<1099511627776) (h:∀i,i<l.length→zs (l.getD i 0)≤536870912):CallOK Tryz.prog 133 [wA r c l] [] (iv (if checkF r c l.length=0 then(if r=c then 0 else 1)else checkF r c l.length)) [] []:=by
 have k1:=b_Check r c l hl h
 by_cases hc:checkF r c l.length=0
 ·rw[if_pos hc]
  rw[hc]at k1
  by_cases hrc:r=c
  ·have t2:(r != c)=false:=by rw[hrc];exact bne_self_eq_false _
   rw[if_pos hrc]
   refine callV (Z:=[]) tabOK mixedOK Tryz.func133 rfl (by kernel_rfl) rfl rfl (by kernel_rfl) rfl ?_
   intro W0 w0 ρ0 hE
   conv=>whnf
   (repeat((first|refine step_w2 rfl rfl ?_|refine g_c (by assumption) ?_|rw[bne_self_eq_false]|rw[t2]);conv=>whnf));(first|exact Recast.refl _|exact Frz.recast (Recast.refl _) rfl|(refine Frz.one rfl rfl ?_;skip)|(refine Frz.tup ?_;skip))
  ·have t2:(r != c)=true:=bne_iff_ne.2 hrc
   rw[if_neg hrc]
   refine callV (Z:=[]) tabOK mixedOK Tryz.func133 rfl (by kernel_rfl) rfl rfl (by kernel_rfl) rfl ?_
   intro W0 w0 ρ0 hE
   conv=>whnf
   (repeat((first|refine step_w1 rfl rfl ?_|refine step_w2 rfl rfl ?_|refine g_c (by assumption) ?_|rw[bne_self_eq_false]|rw[t2]);conv=>whnf));(first|exact Recast.refl _|exact Frz.recast (Recast.refl _) rfl|(refine Frz.one rfl rfl ?_;skip)|(refine Frz.tup ?_;skip))
 ·rw[if_neg hc]
  have t1:(checkF r c l.length != 0)=true:=bne_iff_ne.2 hc
  refine callV (Z:=[]) tabOK mixedOK Tryz.func133 rfl (by kernel_rfl) rfl rfl (by kernel_rfl) rfl ?_
  intro W0 w0 ρ0 hE
  conv=>whnf
  (repeat(first|(refine step_w1 rfl rfl ?_;conv=>whnf)|(refine g_c (by assumption) ?_;conv=>whnf)|(rw[t1];conv=>whnf)));(first|exact Recast.refl _|exact Frz.recast (Recast.refl _) rfl|(refine Frz.one rfl rfl ?_;skip)|(refine Frz.tup ?_;skip))
end Go.Proofs.YtjknedoaofjnbaaGreatDoor
namespace Go.Proofs.YtjknedoaofjnbaaGreatDoor
open Go.Sx
set_option linter.unusedSimpArgs false
set_option linter.unusedVariables false
set_option maxRecDepth 100000
set_option maxHeartbeats 4000000
theorem b_at {r c:Nat} {a:List Int} (h:OKZ r c a) {i k:Nat} (hi:i<r) (hk:k<c):CallOK Tryz.prog 137 [wA r c a,iv i,iv k] [] (.int (elz a c i k)) [] []:=by
 obtain⟨t1,t2⟩:=idx_w (i:=i) (k:=k) (c:=c) (by have:=h.r;omega) h.c (by have:=h.c;omega)
 have hlt:=idx_lt hi hk
 rw[←h.n]at hlt
 refine callV (Z:=[]) tabOK mixedOK Tryz.func137 rfl (by kernel_rfl) rfl rfl (by kernel_rfl) rfl ?_
 intro W0 w0 ρ0 hE
 conv=>whnf
 (repeat((first|refine g_o (op_loadA rfl (ev_ok rfl) (tgt rfl) rfl (Nat.succ_ne_zero _) rfl) ?_|refine g_o (op_indexM (α:=Int) (d:=0) rfl (ev_ok rfl) (ev_ok rfl) (tgt rfl) rfl (tgt rfl) rfl (by omega)) ?_|rw[t1]|rw[t2]|rw[Int.toNat_natCast]);conv=>whnf));(first|exact Recast.refl _|exact Frz.recast (Recast.refl _) rfl|(refine Frz.one rfl rfl ?_;skip)|(refine Frz.tup ?_;skip))
abbrev zW:Blk:=⟨112,true,.one [iv 0,iv 0,.val (.slice none 0 0)]⟩
abbrev bW (r c K:Nat):Blk:=⟨112,true,.one [iv r,iv c,.slc K 3 0 (r*c)]⟩
theorem b_madeF {r c:Nat} (hr:r≤2048) (hc:c≤2048) (F:Mz) (g:FuncId) (R C:Int) (l:List Int)
  (hf:∀i k,i<r→k<c→CallOK Tryz.prog g ([wA R C l]++([iv (i:Nat),iv (k:Nat)]++[])) [] (.int (F i k)) [] []):
  CallOK Tryz.prog 138 [iv r,iv c,.clo g [wA R C l] []] [] (wA r c (mkz r c F)) [] []:=by
 have hz:(mkz r c F).length=r*c:=mkz_len ..
 have hrc:r*c≤2048*2048:=Nat.mul_le_mul hr hc
 have t1:IntKind.i64.wrap ((r:Int)*(c:Int))=((r*c:Nat):Int):=by rw[←Int.natCast_mul,wrap_i64 (by omega) (by omega)]
 refine callF (Z:=[]) tabOK mixedOK Tryz.func138 rfl (by kernel_rfl) (by first|rfl|(simp[keylessL,keyless,keylessL_map, *];done)) (by first|rfl|(simp[keylessL,keyless,keylessL_map, *];done)) (by kernel_rfl) rfl ?_
 intro w0 ρ0 hE
 conv=>whnf
 (repeat(first|(refine step_oA (by first|omega|decide|(simp only[tl0,dlen,List.length_replicate,List.length_set,List.length_map,List.length_zipWith,List.length_take,List.length_append,List.length_cons,List.length_nil];omega)) ?_;conv=>whnf)|(rw[t1];conv=>whnf)|(rw[Int.toNat_natCast];conv=>whnf)))
 refine SW_loopN hE (fun k=>k) [0,1,2,6,7,17,18] [6,7,15] (fun m fr hp=>∃i:Nat,m=r - i∧i≤r∧fr=[(0,iv r),(1,iv c),(2,.clo g [wA R C l] []),(6,.ptr 6 0 0 0),(7,.ptr 7 0 0 0),(17,iv r),(18,iv (i:Nat))]∧
  hp=[(6,zW),(7,bW r c 15),(15,zfil (mkz r c F) (r*c) (i*c))]) r ?_ ?_ ?_
 ·kernel_rfl
 ·exact⟨0,rfl,Nat.zero_le _,rfl,by rw[Nat.zero_mul,zfil,List.take_zero];rfl⟩
 rintro m _ _ ⟨i,rfl,hi,rfl,rfl⟩
 conv=>whnf
 by_cases hlt:i<r
 ·have t2:=dlt hlt
  have t3:=winc (i:=i) (by omega)
  have hic:(i+1)*c≤r*c:=Nat.mul_le_mul_right c hlt
  rw[Nat.succ_mul]at hic
  (repeat(first|(refine step_w1 rfl rfl ?_;conv=>whnf)|(rw[t2];conv=>whnf)))
  refine SW_loopN hE (fun k=>k) [0,1,2,6,7,8,17,18,21,22] [6,7,15] (fun m fr hp=>∃k:Nat,m=c - k∧k≤c∧fr=[(0,iv r),(1,iv c),(2,.clo g [wA R C l] []),(6,.ptr 6 0 0 0),(7,.ptr 7 0 0 0),(8,iv (i:Nat)),(17,iv r),(18,iv (i:Nat)),(21,iv c),(22,iv (k:Nat))]∧
   hp=[(6,zW),(7,bW r c 15),(15,zfil (mkz r c F) (r*c) (i*c+k))]) c ?_ ?_ ?_
  ·kernel_rfl
  ·exact⟨0,rfl,Nat.zero_le _,rfl,rfl⟩
  rintro m _ _ ⟨k,rfl,hk,rfl,rfl⟩
  conv=>whnf
  by_cases hlk:k<c
  ·have t4:=dlt hlk
   have t5:=winc (i:=k) (by omega)
   obtain⟨w1,w2⟩:=idx_w (i:=i) (k:=k) (c:=c) (by omega) (by omega) (by omega)
   have hlen:=zfil_len (l:=mkz r c F) (show i*c+k≤r*c by omega) hz
   have t6:=zfil_get (l:=mkz r c F) (show i*c+k<r*c by omega) hz
   have o2:=hf i k hlt hlk
   rw[←mkz_el (f:=F) hlt hlk]at o2
   (repeat((first|refine step_w1 rfl rfl ?_|refine step_i (by kernel_rfl) ?_|refine step_oL (by first|omega|decide|(simp only[tl0,dlen,List.length_replicate,List.length_set,List.length_map,List.length_zipWith,List.length_take,List.length_append,List.length_cons,List.length_nil];omega)) ?_|refine step_oA (by first|omega|decide|(simp only[tl0,dlen,List.length_replicate,List.length_set,List.length_map,List.length_zipWith,List.length_take,List.length_append,List.length_cons,List.length_nil];omega)) ?_|refine g_c (by assumption) ?_|rw[t4]|rw[t5]|rw[w1]|rw[w2]|rw[t6]|rw[Int.toNat_natCast]|rw[Nat.zero_add]);conv=>whnf))
   refine⟨c - (k+1),fun k=>k,[0,1,2,6,7,8,17,18,21,22],[6,7,15],by omega,by kernel_rfl,k+1,rfl,hlk,rfl, ?_⟩
   rw[show i*c+(k+1)=i*c+k+1 from rfl,zfil,←zfil_set (show i*c+k<r*c by omega) hz]
   rfl
  ·have t4:=dge hlk
   obtain rfl:k=c:=by omega
   (repeat(first|(refine step_w2 rfl rfl ?_;conv=>whnf)|(rw[t4];conv=>whnf)|(rw[t3];conv=>whnf)))
   refine⟨r - (i+1),fun k=>k,[0,1,2,6,7,17,18],[6,7,15],by omega,by kernel_rfl,i+1,rfl,hlt,rfl, ?_⟩
   rw[Nat.succ_mul]
   rfl
 ·have t2:=dge hlt
  obtain rfl:i=r:=by omega
  rw[zfil_all hz]
  (repeat(first|(refine step_w2 rfl rfl ?_;conv=>whnf)|(rw[t2];conv=>whnf)))
  (first|exact Recast.refl _|exact Frz.recast (Recast.refl _) rfl|(refine Frz.one rfl rfl ?_;(repeat(first|exact FrzC.keyless rfl|exact FrzL.nil|refine FrzL.cons ?_ ?_|refine FrzC.agg ?_|(refine FrzC.seq rfl (by first|rfl|(apply keylessL_map;intro _;rfl)) ?_;(first|rfl|omega|(simp<;>fail)|(simp<;>omega))))))|(refine Frz.tup ?_;skip))
theorem b_made1 {r c:Nat} (hr:r≤2048) (hc:c≤2048) (F:Mz) (g:FuncId) (p:Pred)
  (hf:∀i k,i<r→k<c→CallOK Tryz.prog g ([]++([iv (i:Nat),iv (k:Nat)]++[.atom p])) [] (.int (F i k)) [] []):
  CallOK Tryz.prog 138 [iv r,iv c,.clo g [] [.atom p]] [] (wA r c (mkz r c F)) [] []:=by
 have hz:(mkz r c F).length=r*c:=mkz_len ..
 have hrc:r*c≤2048*2048:=Nat.mul_le_mul hr hc
 have t1:IntKind.i64.wrap ((r:Int)*(c:Int))=((r*c:Nat):Int):=by rw[←Int.natCast_mul,wrap_i64 (by omega) (by omega)]
 refine callF (Z:=[]) tabOK mixedOK Tryz.func138 rfl (by kernel_rfl) (by first|rfl|(simp[keylessL,keyless,keylessL_map, *];done)) (by first|rfl|(simp[keylessL,keyless,keylessL_map, *];done)) (by kernel_rfl) rfl ?_
 intro w0 ρ0 hE
 conv=>whnf
 (repeat(first|(refine step_oA (by first|omega|decide|(simp only[tl0,dlen,List.length_replicate,List.length_set,List.length_map,List.length_zipWith,List.length_take,List.length_append,List.length_cons,List.length_nil];omega)) ?_;conv=>whnf)|(rw[t1];conv=>whnf)|(rw[Int.toNat_natCast];conv=>whnf)))
 refine SW_loopN hE (fun k=>k) [0,1,2,6,7,17,18] [6,7,15] (fun m fr hp=>∃i:Nat,m=r - i∧i≤r∧fr=[(0,iv r),(1,iv c),(2,.clo g [] [.atom p]),(6,.ptr 6 0 0 0),(7,.ptr 7 0 0 0),(17,iv r),(18,iv (i:Nat))]∧
  hp=[(6,zW),(7,bW r c 15),(15,zfil (mkz r c F) (r*c) (i*c))]) r ?_ ?_ ?_
 ·kernel_rfl
 ·exact⟨0,rfl,Nat.zero_le _,rfl,by rw[Nat.zero_mul,zfil,List.take_zero];rfl⟩
 rintro m _ _ ⟨i,rfl,hi,rfl,rfl⟩
 conv=>whnf
 by_cases hlt:i<r
 ·have t2:=dlt hlt
  have t3:=winc (i:=i) (by omega)
  have hic:(i+1)*c≤r*c:=Nat.mul_le_mul_right c hlt
  rw[Nat.succ_mul]at hic
  (repeat(first|(refine step_w1 rfl rfl ?_;conv=>whnf)|(rw[t2];conv=>whnf)))
  refine SW_loopN hE (fun k=>k) [0,1,2,6,7,8,17,18,21,22] [6,7,15] (fun m fr hp=>∃k:Nat,m=c - k∧k≤c∧fr=[(0,iv r),(1,iv c),(2,.clo g [] [.atom p]),(6,.ptr 6 0 0 0),(7,.ptr 7 0 0 0),(8,iv (i:Nat)),(17,iv r),(18,iv (i:Nat)),(21,iv c),(22,iv (k:Nat))]∧
   hp=[(6,zW),(7,bW r c 15),(15,zfil (mkz r c F) (r*c) (i*c+k))]) c ?_ ?_ ?_
  ·kernel_rfl
  ·exact⟨0,rfl,Nat.zero_le _,rfl,rfl⟩
  rintro m _ _ ⟨k,rfl,hk,rfl,rfl⟩
  conv=>whnf
  by_cases hlk:k<c
  ·have t4:=dlt hlk
   have t5:=winc (i:=k) (by omega)
   obtain⟨w1,w2⟩:=idx_w (i:=i) (k:=k) (c:=c) (by omega) (by omega) (by omega)
   have hlen:=zfil_len (l:=mkz r c F) (show i*c+k≤r*c by omega) hz
   have t6:=zfil_get (l:=mkz r c F) (show i*c+k<r*c by omega) hz
   have o2:=hf i k hlt hlk
   rw[←mkz_el (f:=F) hlt hlk]at o2
   (repeat((first|refine step_w1 rfl rfl ?_|refine step_i (by kernel_rfl) ?_|refine step_oL (by first|omega|decide|(simp only[tl0,dlen,List.length_replicate,List.length_set,List.length_map,List.length_zipWith,List.length_take,List.length_append,List.length_cons,List.length_nil];omega)) ?_|refine step_oA (by first|omega|decide|(simp only[tl0,dlen,List.length_replicate,List.length_set,List.length_map,List.length_zipWith,List.length_take,List.length_append,List.length_cons,List.length_nil];omega)) ?_|refine g_c (by assumption) ?_|rw[t4]|rw[t5]|rw[w1]|rw[w2]|rw[t6]|rw[Int.toNat_natCast]|rw[Nat.zero_add]);conv=>whnf))
   refine⟨c - (k+1),fun k=>k,[0,1,2,6,7,8,17,18,21,22],[6,7,15],by omega,by kernel_rfl,k+1,rfl,hlk,rfl, ?_⟩
   rw[show i*c+(k+1)=i*c+k+1 from rfl,zfil,←zfil_set (show i*c+k<r*c by omega) hz]
   rfl
  ·have t4:=dge hlk
   obtain rfl:k=c:=by omega
   (repeat(first|(refine step_w2 rfl rfl ?_;conv=>whnf)|(rw[t4];conv=>whnf)|(rw[t3];conv=>whnf)))
   refine⟨r - (i+1),fun k=>k,[0,1,2,6,7,17,18],[6,7,15],by omega,by kernel_rfl,i+1,rfl,hlt,rfl, ?_⟩
   rw[Nat.succ_mul]
   rfl
 ·have t2:=dge hlt
  obtain rfl:i=r:=by omega
  rw[zfil_all hz]
  (repeat(first|(refine step_w2 rfl rfl ?_;conv=>whnf)|(rw[t2];conv=>whnf)))
  (first|exact Recast.refl _|exact Frz.recast (Recast.refl _) rfl|(refine Frz.one rfl rfl ?_;(repeat(first|exact FrzC.keyless rfl|exact FrzL.nil|refine FrzL.cons ?_ ?_|refine FrzC.agg ?_|(refine FrzC.seq rfl (by first|rfl|(apply keylessL_map;intro _;rfl)) ?_;(first|rfl|omega|(simp<;>fail)|(simp<;>omega))))))|(refine Frz.tup ?_;skip))
theorem b_made2 {r c:Nat} (hr:r≤2048) (hc:c≤2048) (F:Mz) (g:FuncId) (p q:Pred)
  (hf:∀i k,i<r→k<c→CallOK Tryz.prog g ([]++([iv (i:Nat),iv (k:Nat)]++[.atom p,.atom q])) [] (.int (F i k)) [] []):
  CallOK Tryz.prog 138 [iv r,iv c,.clo g [] [.atom p,.atom q]] [] (wA r c (mkz r c F)) [] []:=by
 have hz:(mkz r c F).length=r*c:=mkz_len ..
 have hrc:r*c≤2048*2048:=Nat.mul_le_mul hr hc
 have t1:IntKind.i64.wrap ((r:Int)*(c:Int))=((r*c:Nat):Int):=by rw[←Int.natCast_mul,wrap_i64 (by omega) (by omega)]
 refine callF (Z:=[]) tabOK mixedOK Tryz.func138 rfl (by kernel_rfl) (by first|rfl|(simp[keylessL,keyless,keylessL_map, *];done)) (by first|rfl|(simp[keylessL,keyless,keylessL_map, *];done)) (by kernel_rfl) rfl ?_
 intro w0 ρ0 hE
 conv=>whnf
 (repeat(first|(refine step_oA (by first|omega|decide|(simp only[tl0,dlen,List.length_replicate,List.length_set,List.length_map,List.length_zipWith,List.length_take,List.length_append,List.length_cons,List.length_nil];omega)) ?_;conv=>whnf)|(rw[t1];conv=>whnf)|(rw[Int.toNat_natCast];conv=>whnf)))
 refine SW_loopN hE (fun k=>k) [0,1,2,6,7,17,18] [6,7,15] (fun m fr hp=>∃i:Nat,m=r - i∧i≤r∧fr=[(0,iv r),(1,iv c),(2,.clo g [] [.atom p,.atom q]),(6,.ptr 6 0 0 0),(7,.ptr 7 0 0 0),(17,iv r),(18,iv (i:Nat))]∧
  hp=[(6,zW),(7,bW r c 15),(15,zfil (mkz r c F) (r*c) (i*c))]) r ?_ ?_ ?_
 ·kernel_rfl
 ·exact⟨0,rfl,Nat.zero_le _,rfl,by rw[Nat.zero_mul,zfil,List.take_zero];rfl⟩
 rintro m _ _ ⟨i,rfl,hi,rfl,rfl⟩
 conv=>whnf
 by_cases hlt:i<r
 ·have t2:=dlt hlt
  have t3:=winc (i:=i) (by omega)
  have hic:(i+1)*c≤r*c:=Nat.mul_le_mul_right c hlt
  rw[Nat.succ_mul]at hic
  (repeat(first|(refine step_w1 rfl rfl ?_;conv=>whnf)|(rw[t2];conv=>whnf)))
  refine SW_loopN hE (fun k=>k) [0,1,2,6,7,8,17,18,21,22] [6,7,15] (fun m fr hp=>∃k:Nat,m=c - k∧k≤c∧fr=[(0,iv r),(1,iv c),(2,.clo g [] [.atom p,.atom q]),(6,.ptr 6 0 0 0),(7,.ptr 7 0 0 0),(8,iv (i:Nat)),(17,iv r),(18,iv (i:Nat)),(21,iv c),(22,iv (k:Nat))]∧
   hp=[(6,zW),(7,bW r c 15),(15,zfil (mkz r c F) (r*c) (i*c+k))]) c ?_ ?_ ?_
  ·kernel_rfl
  ·exact⟨0,rfl,Nat.zero_le _,rfl,rfl⟩
  rintro m _ _ ⟨k,rfl,hk,rfl,rfl⟩
  conv=>whnf
  by_cases hlk:k<c
  ·have t4:=dlt hlk
   have t5:=winc (i:=k) (by omega)
   obtain⟨w1,w2⟩:=idx_w (i:=i) (k:=k) (c:=c) (by omega) (by omega) (by omega)
   have hlen:=zfil_len (l:=mkz r c F) (show i*c+k≤r*c by omega) hz
   have t6:=zfil_get (l:=mkz r c F) (show i*c+k<r*c by omega) hz
   have o2:=hf i k hlt hlk
   rw[←mkz_el (f:=F) hlt hlk]at o2
   (repeat((first|refine step_w1 rfl rfl ?_|refine step_i (by kernel_rfl) ?_|refine step_oL (by first|omega|decide|(simp only[tl0,dlen,List.length_replicate,List.length_set,List.length_map,List.length_zipWith,List.length_take,List.length_append,List.length_cons,List.length_nil];omega)) ?_|refine step_oA (by first|omega|decide|(simp only[tl0,dlen,List.length_replicate,List.length_set,List.length_map,List.length_zipWith,List.length_take,List.length_append,List.length_cons,List.length_nil];omega)) ?_|refine g_c (by assumption) ?_|rw[t4]|rw[t5]|rw[w1]|rw[w2]|rw[t6]|rw[Int.toNat_natCast]|rw[Nat.zero_add]);conv=>whnf))
   refine⟨c - (k+1),fun k=>k,[0,1,2,6,7,8,17,18,21,22],[6,7,15],by omega,by kernel_rfl,k+1,rfl,hlk,rfl, ?_⟩
   rw[show i*c+(k+1)=i*c+k+1 from rfl,zfil,←zfil_set (show i*c+k<r*c by omega) hz]
   rfl
  ·have t4:=dge hlk
   obtain rfl:k=c:=by omega
   (repeat(first|(refine step_w2 rfl rfl ?_;conv=>whnf)|(rw[t4];conv=>whnf)|(rw[t3];conv=>whnf)))
   refine⟨r - (i+1),fun k=>k,[0,1,2,6,7,17,18],[6,7,15],by omega,by kernel_rfl,i+1,rfl,hlt,rfl, ?_⟩
   rw[Nat.succ_mul]
   rfl
 ·have t2:=dge hlt
  obtain rfl:i=r:=by omega
  rw[zfil_all hz]
  (repeat(first|(refine step_w2 rfl rfl ?_;conv=>whnf)|(rw[t2];conv=>whnf)))
  (first|exact Recast.refl _|exact Frz.recast (Recast.refl _) rfl|(refine Frz.one rfl rfl ?_;(repeat(first|exact FrzC.keyless rfl|exact FrzL.nil|refine FrzL.cons ?_ ?_|refine FrzC.agg ?_|(refine FrzC.seq rfl (by first|rfl|(apply keylessL_map;intro _;rfl)) ?_;(first|rfl|omega|(simp<;>fail)|(simp<;>omega))))))|(refine Frz.tup ?_;skip))
theorem b_made3 {r c:Nat} (hr:r≤2048) (hc:c≤2048) (F:Mz) (g:FuncId) (p q s:Pred)
  (hf:∀i k,i<r→k<c→CallOK Tryz.prog g ([]++([iv (i:Nat),iv (k:Nat)]++[.atom p,.atom q,.atom s])) [] (.int (F i k)) [] []):
  CallOK Tryz.prog 138 [iv r,iv c,.clo g [] [.atom p,.atom q,.atom s]] [] (wA r c (mkz r c F)) [] []:=by
 have hz:(mkz r c F).length=r*c:=mkz_len ..
 have hrc:r*c≤2048*2048:=Nat.mul_le_mul hr hc
 have t1:IntKind.i64.wrap ((r:Int)*(c:Int))=((r*c:Nat):Int):=by rw[←Int.natCast_mul,wrap_i64 (by omega) (by omega)]
 refine callF (Z:=[]) tabOK mixedOK Tryz.func138 rfl (by kernel_rfl) (by first|rfl|(simp[keylessL,keyless,keylessL_map, *];done)) (by first|rfl|(simp[keylessL,keyless,keylessL_map, *];done)) (by kernel_rfl) rfl ?_
 intro w0 ρ0 hE
 conv=>whnf
 (repeat(first|(refine step_oA (by first|omega|decide|(simp only[tl0,dlen,List.length_replicate,List.length_set,List.length_map,List.length_zipWith,List.length_take,List.length_append,List.length_cons,List.length_nil];omega)) ?_;conv=>whnf)|(rw[t1];conv=>whnf)|(rw[Int.toNat_natCast];conv=>whnf)))
 refine SW_loopN hE (fun k=>k) [0,1,2,6,7,17,18] [6,7,15] (fun m fr hp=>∃i:Nat,m=r - i∧i≤r∧fr=[(0,iv r),(1,iv c),(2,.clo g [] [.atom p,.atom q,.atom s]),(6,.ptr 6 0 0 0),(7,.ptr 7 0 0 0),(17,iv r),(18,iv (i:Nat))]∧
  hp=[(6,zW),(7,bW r c 15),(15,zfil (mkz r c F) (r*c) (i*c))]) r ?_ ?_ ?_
 ·kernel_rfl
 ·exact⟨0,rfl,Nat.zero_le _,rfl,by rw[Nat.zero_mul,zfil,List.take_zero];rfl⟩
 rintro m _ _ ⟨i,rfl,hi,rfl,rfl⟩
 conv=>whnf
 by_cases hlt:i<r
 ·have t2:=dlt hlt
  have t3:=winc (i:=i) (by omega)
  have hic:(i+1)*c≤r*c:=Nat.mul_le_mul_right c hlt
  rw[Nat.succ_mul]at hic
  (repeat(first|(refine step_w1 rfl rfl ?_;conv=>whnf)|(rw[t2];conv=>whnf)))
  refine SW_loopN hE (fun k=>k) [0,1,2,6,7,8,17,18,21,22] [6,7,15] (fun m fr hp=>∃k:Nat,m=c - k∧k≤c∧fr=[(0,iv r),(1,iv c),(2,.clo g [] [.atom p,.atom q,.atom s]),(6,.ptr 6 0 0 0),(7,.ptr 7 0 0 0),(8,iv (i:Nat)),(17,iv r),(18,iv (i:Nat)),(21,iv c),(22,iv (k:Nat))]∧
   hp=[(6,zW),(7,bW r c 15),(15,zfil (mkz r c F) (r*c) (i*c+k))]) c ?_ ?_ ?_
  ·kernel_rfl
  ·exact⟨0,rfl,Nat.zero_le _,rfl,rfl⟩
  rintro m _ _ ⟨k,rfl,hk,rfl,rfl⟩
  conv=>whnf
  by_cases hlk:k<c
  ·have t4:=dlt hlk
   have t5:=winc (i:=k) (by omega)
   obtain⟨w1,w2⟩:=idx_w (i:=i) (k:=k) (c:=c) (by omega) (by omega) (by omega)
   have hlen:=zfil_len (l:=mkz r c F) (show i*c+k≤r*c by omega) hz
   have t6:=zfil_get (l:=mkz r c F) (show i*c+k<r*c by omega) hz
   have o2:=hf i k hlt hlk
   rw[←mkz_el (f:=F) hlt hlk]at o2
   (repeat((first|refine step_w1 rfl rfl ?_|refine step_i (by kernel_rfl) ?_|refine step_oL (by first|omega|decide|(simp only[tl0,dlen,List.length_replicate,List.length_set,List.length_map,List.length_zipWith,List.length_take,List.length_append,List.length_cons,List.length_nil];omega)) ?_|refine step_oA (by first|omega|decide|(simp only[tl0,dlen,List.length_replicate,List.length_set,List.length_map,List.length_zipWith,List.length_take,List.length_append,List.length_cons,List.length_nil];omega)) ?_|refine g_c (by assumption) ?_|rw[t4]|rw[t5]|rw[w1]|rw[w2]|rw[t6]|rw[Int.toNat_natCast]|rw[Nat.zero_add]);conv=>whnf))
   refine⟨c - (k+1),fun k=>k,[0,1,2,6,7,8,17,18,21,22],[6,7,15],by omega,by kernel_rfl,k+1,rfl,hlk,rfl, ?_⟩
   rw[show i*c+(k+1)=i*c+k+1 from rfl,zfil,←zfil_set (show i*c+k<r*c by omega) hz]
   rfl
  ·have t4:=dge hlk
   obtain rfl:k=c:=by omega
   (repeat(first|(refine step_w2 rfl rfl ?_;conv=>whnf)|(rw[t4];conv=>whnf)|(rw[t3];conv=>whnf)))
   refine⟨r - (i+1),fun k=>k,[0,1,2,6,7,17,18],[6,7,15],by omega,by kernel_rfl,i+1,rfl,hlt,rfl, ?_⟩
   rw[Nat.succ_mul]
   rfl
 ·have t2:=dge hlt
  obtain rfl:i=r:=by omega
  rw[zfil_all hz]
  (repeat(first|(refine step_w2 rfl rfl ?_;conv=>whnf)|(rw[t2];conv=>whnf)))
  (first|exact Recast.refl _|exact Frz.recast (Recast.refl _) rfl|(refine Frz.one rfl rfl ?_;(repeat(first|exact FrzC.keyless rfl|exact FrzL.nil|refine FrzL.cons ?_ ?_|refine FrzC.agg ?_|(refine FrzC.seq rfl (by first|rfl|(apply keylessL_map;intro _;rfl)) ?_;(first|rfl|omega|(simp<;>fail)|(simp<;>omega))))))|(refine Frz.tup ?_;skip))
end Go.Proofs.YtjknedoaofjnbaaGreatDoor
namespace Go.Proofs.YtjknedoaofjnbaaGreatDoor
open Go.Sx
set_option linter.unusedSimpArgs false
set_option linter.unusedVariables false
set_option maxRecDepth 100000
set_option maxHeartbeats 4000000
def upN (n:Nat):List Int:=(List.range n).map fun i:Nat=>(i:Int)
theorem upN_succ (i:Nat):upN (i+1)=upN i++[(i:Int)]:=by simp[upN,List.range_succ]
theorem upN_len (i:Nat):(upN i).length=i:=by simp[upN]
abbrev upL (n:Nat) (l:List Int):List Int:=upN n++l
theorem upL_len (n:Nat) (l:List Int):(upL n l).length=n+l.length:=by simp[upN_len]
theorem upL_at {n:Nat} {l:List Int} {i:Nat} (hi:i<n):(upL n l).getD i 0=i:=by
 simp[upL,upN,List.getD_eq_getElem?_getD,List.getElem?_append_left,hi]
theorem upL_last {n:Nat} {x:Int}:(upL n [x]).getD n 0=x:=by
 simp[upL,upN,List.getD_eq_getElem?_getD]
theorem b_part1 {r c:Nat} {a:List Int} (ha:OKZ r c a) {p q:List Int} (hp:∀i,i<p.length→0≤p.getD i 0∧p.getD i 0<r) (hq:∀i,i<q.length→0≤q.getD i 0∧q.getD i 0<c) {i k:Nat} (hi:i<p.length) (hk:k<q.length) (hl:p.length≤2048) (hl2:q.length≤2048):
  CallOK Tryz.prog 194 ([]++([iv (i:Nat),iv (k:Nat)]++[ptrA (wC r c a),ptrA [ivec .i64 p],ptrA [ivec .i64 q]])) [] (.int (elz a c (p.getD i 0).toNat (q.getD k 0).toNat)) [] []:=by
 obtain⟨p1,p2⟩:=hp i hi
 obtain⟨q1,q2⟩:=hq k hk
 have k1:=b_at ha (i:=(p.getD i 0).toNat) (k:=(q.getD k 0).toNat) (by omega) (by omega)
 rw[Int.toNat_of_nonneg p1,Int.toNat_of_nonneg q1]at k1
 refine callV (Z:=[]) tabOK mixedOK Tryz.func194 rfl (by kernel_rfl) rfl rfl (by kernel_rfl) rfl ?_
 intro W0 w0 ρ0 hE
 conv=>whnf
 (repeat((first|refine step_i (by kernel_rfl) ?_|refine g_c (by assumption) ?_|refine g_o (op_loadA rfl (ev_ok rfl) (tgt rfl) rfl (Nat.succ_ne_zero _) rfl) ?_|refine g_o (op_indexN (α:=Int) (d:=0) rfl (ev_ok rfl) (ev_ok rfl) (tgt rfl) rfl (tgt rfl) rfl (by omega)) ?_);conv=>whnf));(first|exact Recast.refl _|exact Frz.recast (Recast.refl _) rfl|(refine Frz.one rfl rfl ?_;skip)|(refine Frz.tup ?_;skip))
theorem b_part {r c:Nat} {a:List Int} (ha:OKZ r c a) {p q:List Int} (hp:∀i,i<p.length→0≤p.getD i 0∧p.getD i 0<r) (hq:∀i,i<q.length→0≤q.getD i 0∧q.getD i 0<c) (hl:p.length≤2048) (hl2:q.length≤2048):
  CallOK Tryz.prog 140 [wA r c a,ivec .i64 p,ivec .i64 q] [] (wA p.length q.length (mkz p.length q.length fun i k=>elz a c (p.getD i 0).toNat (q.getD k 0).toNat)) [] []:=by
 have k1:=b_made3 hl hl2 _ 194 (ptrP (wC r c a)) (ptrP [ivec .i64 p]) (ptrP [ivec .i64 q]) (fun i k hi hk=>b_part1 ha hp hq hi hk hl hl2)
 refine callV (Z:=[3,4,5]) tabOK mixedOK Tryz.func140 rfl (by kernel_rfl) rfl rfl (by kernel_rfl) rfl ?_
 intro W0 w0 ρ0 hE
 conv=>whnf
 (repeat((first|refine g_c (by assumption) ?_|refine g_o (op_lenM rfl rfl rfl (ev_ok rfl) (tgt rfl) rfl) ?_|refine g_o (op_loadA rfl (ev_ok rfl) (tgt rfl) rfl (Nat.succ_ne_zero _) rfl) ?_|refine g_o (op_makeFunc rfl rfl rfl) ?_);conv=>whnf));(first|exact Recast.refl _|exact Frz.recast (Recast.refl _) rfl|(refine Frz.one rfl rfl ?_;skip)|(refine Frz.tup ?_;skip))
end Go.Proofs.YtjknedoaofjnbaaGreatDoor
namespace Go.Proofs.YtjknedoaofjnbaaGreatDoor
open Go.Sx
set_option linter.unusedSimpArgs false
set_option linter.unusedVariables false
set_option maxRecDepth 100000
set_option maxHeartbeats 40000000
theorem b_upToM (n:Nat) (l:List Int) (hn:n≤2048) (hl:l.length≤2048):CallOK Tryz.prog 141 [iv n,ivec .i64 l] [] (.slc 2001 1 0 (n+l.length)) [(2001,iblkM (upL n l))] []:=by
 refine callK (Z:=[]) tabOK mixedOK Tryz.func141 rfl (by kernel_rfl) (args:=[iv n,ivec .i64 l]) (fk:=[]) (c:=.slc 17 1 0 (n+l.length)) (new:=[(17,iblkM (upL n l))]) (upd:=[]) (ShapeOK.of rfl rfl rfl rfl rfl rfl rfl rfl rfl rfl rfl) rfl (renBy [(17,2001)]) NamesOK.one ?_
 intro W0 w0 ρ0 hE
 conv=>whnf
 skip
 refine SWx_adopt (t:=4) (k:=2002) (s:=1) (blk:=iblkM []) rfl rfl rfl ?_
 refine SW_loopN hE (fun k=>k) [1,4,6,7] [2002] (fun m fr hp=>∃i:Nat,m=n - i∧i≤n∧fr=[(1,ivec .i64 l),(4,.slc 2002 1 0 i),(6,iv n),(7,iv (i:Nat))]∧hp=[(2002,iblkM (upN i))]) n ?_ ?_ ?_
 ·kernel_rfl
 ·exact⟨0,rfl,Nat.zero_le _,rfl,rfl⟩
 rintro m _ _ ⟨i,rfl,hi,rfl,rfl⟩
 conv=>whnf
 have lq:=upN_len i
 by_cases hlt:i<n
 ·have t1:=dlt hlt
  have t2:=winc (i:=i) (by omega)
  have e1:=app_int (l:=upN i) (x:=(i:Int))
  rw[lq,←upN_succ]at e1
  (repeat((first|refine step_oA (by first|omega|decide|(simp only[tl0,dlen,List.length_replicate,List.length_set,List.length_map,List.length_zipWith,List.length_take,List.length_append,List.length_cons,List.length_nil];omega)) ?_|refine tst_tt t1 ?_|rw[t1]|rw[t2]);conv=>whnf))
  refine⟨n - (i+1),renBy [(13,2002)],[1,4,6,7],[13],by omega,by kernel_rfl,i+1,rfl,hlt,rfl, ?_⟩
  rw[e1];rfl
 ·have t1:=dge hlt
  obtain rfl:i=n:=by omega
  (repeat(first|(refine tst_ff t1 ?_;conv=>whnf)|(rw[t1];conv=>whnf)))
  refine⟨.slc 17 1 0 (i+l.length),[(2002,iblkM (upN i))],[(17,iblkM (upL i l))],[(2002,⟨3,true,.dead⟩)],op_appendV rfl rfl rfl (ev_ok rfl) (ev_ok rfl) (rows_ints l) (tabOK.get (t:=29) rfl) rfl (tabOK.get (t:=29) rfl) rfl (tabOK.get (t:=3) rfl) (List.mem_cons_self ..) rfl rfl (by show i≤(upN i).length;omega) (m:=l.length) (List.length_map _).symm (by show 0+l.length≤l.length;omega) (by simp[dapp,List.take_of_length_le (show(upN i).length≤i by omega)]) (by show(i+_)*ti3.bytes≤_;simp only[tiB3];omega) (by omega),one_fk rfl,one_new rfl,one_upd (List.mem_cons_self ..) rfl rfl rfl, ?_⟩
  conv=>whnf
  exact⟨Recast.refl _,(fun k b h=>by simp only[List.mem_singleton,Prod.mk.injEq]at h;obtain⟨rfl,rfl⟩:=h;rfl),(fun _ _ h=>by cases h)⟩
theorem b_upToV (n:Nat) (l:List Int) (hn:n≤2048) (hl:l.length≤2048):CallOK Tryz.prog 141 [iv n,ivec .i64 l] [] (ivec .i64 (upL n l)) [] []:=by
 refine callF (Z:=[]) tabOK mixedOK Tryz.func141 rfl (by kernel_rfl) (by first|rfl|(simp[keylessL,keyless,keylessL_map, *];done)) (by first|rfl|(simp[keylessL,keyless,keylessL_map, *];done)) (by kernel_rfl) rfl ?_
 intro w0 ρ0 hE
 conv=>whnf
 skip
 refine SWx_adopt (t:=4) (k:=2002) (s:=1) (blk:=iblkM []) rfl rfl rfl ?_
 refine SW_loopN hE (fun k=>k) [1,4,6,7] [2002] (fun m fr hp=>∃i:Nat,m=n - i∧i≤n∧fr=[(1,ivec .i64 l),(4,.slc 2002 1 0 i),(6,iv n),(7,iv (i:Nat))]∧hp=[(2002,iblkM (upN i))]) n ?_ ?_ ?_
 ·kernel_rfl
 ·exact⟨0,rfl,Nat.zero_le _,rfl,rfl⟩
 rintro m _ _ ⟨i,rfl,hi,rfl,rfl⟩
 conv=>whnf
 have lq:=upN_len i
 by_cases hlt:i<n
 ·have t1:=dlt hlt
  have t2:=winc (i:=i) (by omega)
  have e1:=app_int (l:=upN i) (x:=(i:Int))
  rw[lq,←upN_succ]at e1
  (repeat((first|refine step_oA (by first|omega|decide|(simp only[tl0,dlen,List.length_replicate,List.length_set,List.length_map,List.length_zipWith,List.length_take,List.length_append,List.length_cons,List.length_nil];omega)) ?_|refine tst_tt t1 ?_|rw[t1]|rw[t2]);conv=>whnf))
  refine⟨n - (i+1),renBy [(13,2002)],[1,4,6,7],[13],by omega,by kernel_rfl,i+1,rfl,hlt,rfl, ?_⟩
  rw[e1];rfl
 ·have t1:=dge hlt
  obtain rfl:i=n:=by omega
  (repeat(first|(refine tst_ff t1 ?_;conv=>whnf)|(rw[t1];conv=>whnf)))
  refine⟨.slc 17 1 0 (i+l.length),[(2002,iblkM (upN i))],[(17,iblkM (upL i l))],[(2002,⟨3,true,.dead⟩)],op_appendV rfl rfl rfl (ev_ok rfl) (ev_ok rfl) (rows_ints l) (tabOK.get (t:=29) rfl) rfl (tabOK.get (t:=29) rfl) rfl (tabOK.get (t:=3) rfl) (List.mem_cons_self ..) rfl rfl (by show i≤(upN i).length;omega) (m:=l.length) (List.length_map _).symm (by show 0+l.length≤l.length;omega) (by simp[dapp,List.take_of_length_le (show(upN i).length≤i by omega)]) (by show(i+_)*ti3.bytes≤_;simp only[tiB3];omega) (by omega),one_fk rfl,one_new rfl,one_upd (List.mem_cons_self ..) rfl rfl rfl, ?_⟩
  conv=>whnf
  refine Frz.one rfl rfl (FrzC.ints rfl ?_)
  rw[upL_len]
end Go.Proofs.YtjknedoaofjnbaaGreatDoor
namespace Go.Sx
set_option linter.unusedSimpArgs false
set_option linter.unusedVariables false
theorem SWx_freezeP {E:Env} (t k:Nat) {c:Code} {K:Post'} {fr:List (Nat×SV)} {hp:List (Nat×Blk)} {ty:TypeId} {cs:List SV} (hW:∀b,¬E.W0 b) (ht:lk fr t=some (.ptr k 0 0 0)) (hk:find hp k=some ⟨ty,true,.one cs⟩)
  (hkl:keylessL cs=true) (hs:SWx E c K ((t,ptrA cs)::fr) (setB hp k ⟨ty,true,.dead⟩)):SWx E c K fr hp:=by
 refine⟨fun a W hR=>hs.run a W ?_⟩
 have hl:(Data.one cs).live=true:=rfl
 obtain⟨ρ,hext,hfx,hR⟩:=hR
 have hkb:(fn fr hp (.k k)).blk=some ⟨ty,true,.one cs⟩:=by simp only[fn,LV.blk];exact hk
 have hv:=hR.fr t _ (by simp only[fn,LV.sv];exact ht)
 obtain⟨x,hx,hxv⟩:=(Has_iff (c:=.ptr k 0 0 0) rfl).1 hv
 have hlayk:∀j b,(fn ((t,ptrA cs)::fr) (setB hp k ⟨ty,true,.dead⟩) (.k j)).blk=some b→(j=k∧b=⟨ty,true,.dead⟩)∨(j≠k∧(fn fr hp (.k j)).blk=some b):=by
  intro j b hb
  simp only[fn,LV.blk,find_setB]at hb ⊢
  by_cases hj:j=k
  ·rw[if_pos hj]at hb;exact .inl ⟨hj,(Option.some.inj hb).symm⟩
  ·rw[if_neg hj]at hb;exact .inr ⟨hj,hb⟩
 have fin:∀ρ':Rho,ρ'.key=ρ.key→(∀b o,ρ.imm b=some o→ρ'.imm b=some o)→(∀b o,ρ'.imm b=some o→ρ.imm b=some o∨E.w0.heap.size≤b)→(∀b o,ρ'.imm b=some o→W.heap[b]? =some o)→
   (∀j b x,j≠k→(fn fr hp (.k j)).blk=some b→b.wr=true→b.data.live=true→ρ.key j=some x→ρ'.imm x.1=none)→(∀D,W.heap[D]? =some (.deferred (some []))→ρ.imm D=none→ρ'.imm D=none)→Has ρ' (ptrA cs) (a.tmps.getD t undef)→
   RR E (fn ((t,ptrA cs)::fr) (setB hp k ⟨ty,true,.dead⟩)) a W:=by
  intro ρ' hkey himm hnew hheap hnone hmark hhas
  have hle:ρ.Le ρ':=⟨fun j y hy=>by rw[hkey];exact hy,himm⟩
  refine⟨ρ',⟨hext.le.trans hle,fun b o hb=>(hnew b o hb).elim (fun h=>hext.imm b o h) .inr,fun j hj=>by rw[hkey];exact hext.fix j hj⟩,fun j hj=> ?_,{defers:= ?_,size:=hR.size,fr:= ?_,pres:=hR.pres,hp:= ?_}⟩
  ·have:=hfx j hj
   simp only[fn,LV.blk,find_setB]at this ⊢
   split
   ·simp
   ·exact this
  ·obtain⟨Ds,d1,d2,d3⟩:=hR.defers
   refine⟨Ds,d1,d2,fun D hD=> ?_⟩
   obtain⟨e1,e2,e3⟩:=d3 D hD
   refine⟨e1,e2, ?_⟩
   exact hmark D e2 e3
  ·intro u sv hu
   simp only[fn,LV.sv,lk]at hu
   cases hb:Nat.beq t u with
   |true=>
    rw[hb]at hu
    simp only[Option.some.injEq]at hu
    subst hu
    rw[←Nat.eq_of_beq_eq_true hb]
    exact hhas
   |false=>rw[hb]at hu;exact Has.mono hle _ _ (hR.fr u sv (by simp only[fn,LV.sv];exact hu))
  ·constructor
   ·intro j b hb
    rcases hlayk j b hb with⟨rfl,rfl⟩|⟨hj,hb⟩
    ·exact .inl rfl
    ·rcases hR.hp.blk j b hb with g0|⟨b',t',vs,ex,g1,g2,g3,g4⟩|⟨g1,g2⟩
     ·exact .inl g0
     ·exact .inr (.inl ⟨b',t',vs,ex,by rw[hkey];exact g1,g2,g3.mono hle,g4⟩)
     ·exact .inr (.inr ⟨by rw[hkey];exact g1,g2⟩)
   ·intro j j' y y' b b' hy hy' hne hyy hb hb' hl1 hl2
    rw[hkey]at hy hy'
    rcases hlayk j b hb with⟨_,rfl⟩|⟨_,hb⟩
    ·cases hl1
    rcases hlayk j' b' hb' with⟨_,rfl⟩|⟨_,hb'⟩
    ·cases hl2
    exact hR.hp.sep j j' y y' b b' hy hy' hne hyy hb hb' hl1 hl2
   ·intro j b y hb hwr hl1 hy
    rw[hkey]at hy
    rcases hlayk j b hb with⟨_,rfl⟩|⟨_,hb⟩
    ·cases hl1
    exact hR.hp.own j b y hb hwr hl1 hy
   ·intro j y hy
    rw[hkey]at hy
    obtain⟨b,hb⟩:=hR.hp.dom j y hy
    simp only[fn,LV.blk,find_setB]at hb ⊢
    split
    ·exact⟨_,rfl⟩
    ·exact⟨b,hb⟩
   ·exact hheap
   ·intro j b y hb hwr hl1 hy
    rw[hkey]at hy
    rcases hlayk j b hb with⟨_,rfl⟩|⟨hj,hb⟩
    ·cases hl1
    exact hnone j b y hj hb hwr hl1 hy
 simp only[HasC]at hx
 obtain⟨b,t',h1,rfl⟩:=hx
 rcases hR.hp.blk k _ hkb with g0|⟨b',t'',vs,ex,g1,g2,g3,g4,g5⟩|⟨g1,_⟩
 ·cases g0
 ·rw[h1]at g1
  cases g1
  rw[Data.obj_cells rfl]at g2
  have h2:W.heap[b]? =some (.cells (vs++ex).toArray ty (0,0)):=g2
  simp only[DataC]at g3
  obtain⟨z,z1,rfl⟩:=g3
  have hB:E.w0.heap.size≤b:=(hR.hp.own k _ _ hkb rfl hl h1).resolve_right (hW _)
  obtain⟨u,hup⟩:=(Up.refl ρ W E.w0.heap.size).add hR.hp.imm hB h2
  refine fin ⟨ρ.key,_,u.glob⟩ rfl u.le (fun b o hb=>(u.new b o hb).imp id (fun h=>h.1)) (fun c p hc=> ?_) (fun j blk y hj hb hwr hl1 hy=> ?_) (fun D hD1 hD2=> ?_) ?_
  ·rcases u.new c p hc with h|h
   ·exact hR.hp.imm c p h
   ·exact h.2
  ·show(if y.1=b then some _ else ρ.imm y.1)=none
   rw[if_neg]
   ·exact hR.hp.immw j blk y hb hwr hl1 hy
   ·intro he2
    have:=hR.hp.sep k j (b,t') y _ _ h1 hy (fun h=>hj h.symm) he2.symm hkb hb hl hl1
    cases this
  ·show(if D=b then some _ else ρ.imm D)=none
   rw[if_neg,hD2]
   rintro rfl
   rw[hD1]at h2;cases h2
  ·rw[hxv]
   have hz:HasZ (bareR (fun x=>if x=b then some (.cells (z.flatten++ex).toArray ty (0,0))else ρ.imm x) u.glob) cs z:=keylessL_has (ρ:=ρ) u.le cs z hkl z1
   refine ptrA_has ⟨b,z,[],ex,ty,(0,0),if_pos rfl,hz, ?_⟩
   simp[mkV,SV.isOne]
 ·rw[h1]at g1;cases g1
theorem op_eqNilV {P:Program} {o:Oper} {ft:List (Nat×SV)} {fk:List (Nat×Blk)} {t t2 e:TypeId} {x y:Operand} {w:Nat} {xs:List SV} (ho:o.op= .binOp .eql t x y t2) (hx:EvOK ft x (vecA w xs)) (hy:EvOK ft y (.val (.slice none 0 0))) (hu:P.underlying t=some (.slice e)) (hne:xs≠[]):OpOK P o ft fk (.val (.bool false)) [] []:=
 ok_pure fun ρ ac W hp=>by
  have e2:=of_has_val (hy ρ ac hp.hft)
  rcases has_vec (hx ρ ac hp.hft)with⟨h0,_⟩|⟨b,cap,z,pre,ex,ty,fz,_,_,_,_,_,h6⟩
  ·exact absurd h0 hne
  ·have hq:∀d b i n m,(Op.equalIn (d+1) t (.slice (some ⟨b,i,none⟩) n m) (.slice none 0 0)).run P W= .ok false W:=fun d b i n m=>by simp[Op.equalIn,run_underlying hu]
   have hq':∀b i n m,(Op.equal t (.slice (some ⟨b,i,none⟩) n m) (.slice none 0 0)).run P W= .ok false W:=fun b i n m=>hq 9999 b i n m
   refine⟨_, ?_,has_val rfl⟩
   simp[execOp,ho,h6,e2,eqGuard,binOp,hq']
end Go.Sx
namespace Go.Proofs.YtjknedoaofjnbaaGreatDoor
open Go.Sx
set_option linter.unusedSimpArgs false
set_option linter.unusedVariables false
set_option maxRecDepth 100000
set_option maxHeartbeats 4000000
abbrev sA (r c:Int) (a:List Int) (b s:Int):SV:=.agg [wA r c a,.int b,iv s]
abbrev sC (r c:Int) (a:List Int) (b s:Int):List SV:=[wA r c a,.int b,iv s]
theorem b_begin (r c:Int) (a:List Int):CallOK Tryz.prog 136 [wA r c a] [] (sA r c a 1 0) [] []:=by
 have k1:=c_iOf 1 (by decide) (by decide)
 refine callV (Z:=[]) tabOK mixedOK Tryz.func136 rfl (by kernel_rfl) rfl rfl (by kernel_rfl) rfl ?_
 intro W0 w0 ρ0 hE
 conv=>whnf
 (repeat(first|(refine step_i (by kernel_rfl) ?_;conv=>whnf)|(refine g_c (by assumption) ?_;conv=>whnf)));(first|exact Recast.refl _|exact Frz.recast (Recast.refl _) rfl|(refine Frz.one rfl rfl ?_;skip)|(refine Frz.tup ?_;skip))
theorem b_cross (a b c d:Int) (h:zs a+zs b+(zs c+zs d)≤1073741824):CallOK Tryz.prog 197 [.int a,.int b,.int c,.int d] [] (.int (a*b - c*d)) [] []:=by
 have k1:=zz_Mul a b (by omega)
 have k2:=zz_Mul c d (by omega)
 have k3:=zz_Sub (a*b) (c*d) (by have:=zs_mul a b;have:=zs_mul c d;omega)
 refine callV (Z:=[]) tabOK mixedOK Tryz.func197 rfl (by kernel_rfl) rfl rfl (by kernel_rfl) rfl ?_
 intro W0 w0 ρ0 hE
 conv=>whnf
 (repeat(first|(refine step_i (by kernel_rfl) ?_;conv=>whnf)|(refine g_c (by assumption) ?_;conv=>whnf)));(first|exact Recast.refl _|exact Frz.recast (Recast.refl _) rfl|(refine Frz.one rfl rfl ?_;skip)|(refine Frz.tup ?_;skip))
def crZ (a:List Int) (c i k:Nat):Int:=elz a c 0 0*elz a c (i+1) (k+1) - elz a c (i+1) 0*elz a c 0 (k+1)
theorem crZ_zs {a:List Int} {r c i k B:Nat} (h:Zm B a) (ha:a.length=(r+1)*(c+1)) (hi:i<r) (hk:k<c):zs (crZ a (c+1) i k)≤4*B:=by
 have h1:=elz_zm h ha (i:=0) (k:=0) (by omega) (by omega)
 have h2:=elz_zm h ha (i:=i+1) (k:=k+1) (by omega) (by omega)
 have h3:=elz_zm h ha (i:=i+1) (k:=0) (by omega) (by omega)
 have h4:=elz_zm h ha (i:=0) (k:=k+1) (by omega) (by omega)
 have:=zs_sub (elz a (c+1) 0 0*elz a (c+1) (i+1) (k+1)) (elz a (c+1) (i+1) 0*elz a (c+1) 0 (k+1))
 have:=zs_mul (elz a (c+1) 0 0) (elz a (c+1) (i+1) (k+1))
 have:=zs_mul (elz a (c+1) (i+1) 0) (elz a (c+1) 0 (k+1))
 unfold crZ;omega
theorem b_next1 {r c B:Nat} {a:List Int} {b s:Int} (ha:OKZ (r+1) (c+1) a) (za:Zm B a) (hb:4*B+zs b≤1073741824) {i k:Nat} (hi:i<r) (hk:k<c):
  CallOK Tryz.prog 195 ([]++([iv (i:Nat),iv (k:Nat)]++[ptrA [.int (elz a (c+1) 0 0)],ptrA (sC (r+1:Nat) (c+1:Nat) a b s)])) [] (.int (crZ a (c+1) i k/b)) [] []:=by
 have h1:=elz_zm za ha.n (i:=0) (k:=0) (by omega) (by omega)
 have h2:=elz_zm za ha.n (i:=i+1) (k:=k+1) (by omega) (by omega)
 have h3:=elz_zm za ha.n (i:=i+1) (k:=0) (by omega) (by omega)
 have h4:=elz_zm za ha.n (i:=0) (k:=k+1) (by omega) (by omega)
 have h5:=crZ_zs za ha.n hi hk
 have w1:=winc (i:=i) (by have:=ha.r;omega)
 have w2:=winc (i:=k) (by have:=ha.c;omega)
 have k1:=b_at ha (i:=i+1) (k:=k+1) (by omega) (by omega)
 have k2:=b_at ha (i:=i+1) (k:=0) (by omega) (by omega)
 have k3:=b_at ha (i:=0) (k:=k+1) (by omega) (by omega)
 have k4:=b_cross (elz a (c+1) 0 0) (elz a (c+1) (i+1) (k+1)) (elz a (c+1) (i+1) 0) (elz a (c+1) 0 (k+1)) (by omega)
 obtain⟨q,ok,k5⟩:=zz_Div (crZ a (c+1) i k) b (by omega)
 unfold crZ at*
 refine callV (Z:=[]) tabOK mixedOK Tryz.func195 rfl (by kernel_rfl) rfl rfl (by kernel_rfl) rfl ?_
 intro W0 w0 ρ0 hE
 conv=>whnf
 (repeat((first|refine step_i (by kernel_rfl) ?_|refine g_c (by assumption) ?_|refine g_o (op_loadA rfl (ev_ok rfl) (tgt rfl) rfl (Nat.succ_ne_zero _) rfl) ?_|refine g_o (op_fieldA rfl (ev_ok rfl) (tgt rfl) rfl rfl (Nat.succ_ne_zero _) rfl) ?_|rw[w1]|rw[w2]);conv=>whnf));(first|exact Recast.refl _|exact Frz.recast (Recast.refl _) rfl|(refine Frz.one rfl rfl ?_;skip)|(refine Frz.tup ?_;skip))
abbrev nxt (r c:Nat) (a:List Int) (b:Int):List Int:=mkz r c fun i k=>crZ a (c+1) i k/b
theorem b_next {r c B:Nat} {a:List Int} {b s:Int} (ha:OKZ (r+1) (c+1) a) (za:Zm B a) (hb:4*B+zs b≤1073741824):
  CallOK Tryz.prog 142 [sA (r+1:Nat) (c+1:Nat) a b s] [] (sA r c (nxt r c a b) (elz a (c+1) 0 0) s) [] []:=by
 have k1:=b_at ha (i:=0) (k:=0) (by omega) (by omega)
 have k2:=b_made2 (r:=r) (c:=c) (by have:=ha.r;omega) (by have:=ha.c;omega) (fun i k=>crZ a (c+1) i k/b) 195 (ptrP [.int (elz a (c+1) 0 0)]) (ptrP (sC (r+1:Nat) (c+1:Nat) a b s)) fun i k hi hk=>b_next1 ha za hb hi hk
 have w1:IntKind.i64.wrap (((r+1:Nat):Int) - 1)=(r:Int):=by rw[wrap_i64 (by omega) (by have:=ha.r;omega)];omega
 have w2:IntKind.i64.wrap (((c+1:Nat):Int) - 1)=(c:Int):=by rw[wrap_i64 (by omega) (by have:=ha.c;omega)];omega
 refine callF (Z:=[1,100002]) tabOK mixedOK Tryz.func142 rfl (by kernel_rfl) (by first|rfl|(simp[keylessL,keyless,keylessL_map, *];done)) (by first|rfl|(simp[keylessL,keyless,keylessL_map, *];done)) (by kernel_rfl) rfl ?_
 intro w0 ρ0 hE
 conv=>whnf
 (repeat(first|(refine g_c (by assumption) ?_;conv=>whnf)|(refine g_o (op_loadA rfl (ev_ok rfl) (tgt rfl) rfl (Nat.succ_ne_zero _) rfl) ?_;conv=>whnf)|(refine g_o (op_fieldA rfl (ev_ok rfl) (tgt rfl) rfl rfl (Nat.succ_ne_zero _) rfl) ?_;conv=>whnf)))
 refine SWx_freezeP 3 3 (fun _ h=>h) rfl rfl rfl ?_
 refine SWx_go hE ?_
 conv=>whnf
 (repeat((first|refine g_c (by assumption) ?_|refine g_o (op_loadA rfl (ev_ok rfl) (tgt rfl) rfl (Nat.succ_ne_zero _) rfl) ?_|refine g_o (op_fieldA rfl (ev_ok rfl) (tgt rfl) rfl rfl (Nat.succ_ne_zero _) rfl) ?_|refine g_o (op_makeFunc rfl rfl rfl) ?_|rw[w1]|rw[w2]);conv=>whnf))
 (first|exact Recast.refl _|exact Frz.recast (Recast.refl _) rfl|(refine Frz.one rfl rfl ?_;skip)|(refine Frz.tup ?_;skip))
theorem rows_seqZ (l:List Int):∀(ρ:Rho) z,HasZ (bareR ρ.imm ρ.glob) (l.map SV.int) z→(∀x∈l.map SV.int,x.width=3)→Go.Sx.Rows ρ 3 (.seq 3 (l.map .int)) z:=fun _ _ h k=>⟨rfl,h,k⟩
theorem b_Clone (l:List Int) (hl:l.length<1099511627776) (h0:l≠[]):CallOK Tryz.prog 231 [zvec l] [] (.slc 2001 3 0 l.length) [(2001,zB3 l)] []:=by
 have hne:l.map SV.int≠[]:=by simpa using h0
 refine callK (Z:=[]) tabOK mixedOK Tryz.func231 rfl (by kernel_rfl) (args:=[zvec l]) (fk:=[]) (c:=.slc 7 3 0 l.length) (new:=[(7,zB3 l)]) (upd:=[]) (ShapeOK.of rfl rfl rfl rfl rfl rfl rfl rfl rfl rfl rfl) rfl (renBy [(7,2001)]) NamesOK.one ?_
 intro W0 w0 ρ0 hE
 conv=>whnf
 (repeat(first|(refine step_w2 rfl rfl ?_;conv=>whnf)|(refine⟨_,op_eqNilV rfl (ev_ok rfl) (ev_ok rfl) Tryz.underlying110 hne, ?_⟩;conv=>whnf)))
 refine⟨.slc 7 3 0 (0+l.length),[(5,⟨51,true,.seq 3 []⟩)],[(7,zB3 l)],[(5,⟨51,true,.dead⟩)],op_appendV rfl rfl rfl (ev_ok rfl) (ev_ok rfl) (rows_seqZ l) (tabOK.get (t:=110) rfl) rfl (tabOK.get (t:=110) rfl) rfl (tabOK.get (t:=51) rfl) (List.mem_cons_self ..) rfl rfl (by simp[dlen]) (by simp) (by simp[dlen]) (by simp[dapp];exact List.take_of_length_le (by simp)) (by show(0+_)*ti51.bytes≤_;simp only[tiB51];omega) (by omega),one_fk rfl,one_new rfl,one_upd (List.mem_cons_self ..) rfl rfl rfl, ?_⟩
 conv=>whnf
 exact⟨by rw[Nat.zero_add];exact Recast.refl _,(fun k b h=>by simp only[List.mem_singleton,Prod.mk.injEq]at h;obtain⟨rfl,rfl⟩:=h;rfl),(fun _ _ h=>by cases h)⟩
def swk (r c:Nat) (a:List Int) (i k:Nat):List Int:=mkz r c fun p q=>if q<k then swapZ (elz a c) 0 i p q else elz a c p q
theorem set_elz {a:List Int} {r n i k j l:Nat} {q:Int} (ha:a.length=r*n) (hi:i<r) (hk:k<n) (hj:j<r) (hl:l<n):elz (a.set (i*n+k) q) n j l=if i=j∧k=l then q else elz a n j l:=by
 have h1:=idx_lt hi hk
 have h2:=idx_lt hj hl
 simp only[elz,List.getD_eq_getElem?_getD,List.getElem?_set]
 by_cases e:i*n+k=j*n+l
 ·have e1:=congrArg (·/n) e
  have e2:=congrArg (· % n) e
  simp only[idx_div hk,idx_div hl,idx_mod hk,idx_mod hl]at e1 e2
  subst e1 e2
  simp[ha,h1]
 ·rw[if_neg e,if_neg (by rintro⟨rfl,rfl⟩;exact e rfl)]
theorem swk_zero {r c:Nat} {a:List Int} {i:Nat} (ha:a.length=r*c):swk r c a i 0=a:=
 mkz_ext ha fun p q _ _=>if_neg (by omega)
theorem swk_len (r c:Nat) (a:List Int) (i k:Nat):(swk r c a i k).length=r*c:=mkz_len ..
theorem swk_at {r c:Nat} {a:List Int} {i k p q:Nat} (hp:p<r) (hq:q<c) (hk:k≤q):elz (swk r c a i k) c p q=elz a c p q:=by
 rw[swk,mkz_el hp hq,if_neg (by omega)]
theorem swk_set {r c:Nat} {a:List Int} {i k:Nat} (hi:i<r) (h0:0<i) (hk:k<c):
  ((swk r c a i k).set k (elz a c i k)).set (i*c+k) (elz a c 0 k)=swk r c a i (k+1):=by
 have hl:=swk_len r c a i k
 have e0:(swk r c a i k).set k (elz a c i k)=(swk r c a i k).set (0*c+k) (elz a c i k):=by rw[Nat.zero_mul,Nat.zero_add]
 rw[e0]
 refine maz_ext (by rw[List.length_set,List.length_set,hl]) (swk_len ..) fun p q hp hq=> ?_
 rw[set_elz (by rw[List.length_set,hl]) hi hk hp hq,set_elz hl (by omega) hk hp hq,swk,swk,mkz_el hp hq,mkz_el hp hq]
 unfold swapZ
 by_cases e1:i=p∧k=q
 ·obtain⟨rfl,rfl⟩:=e1
  rw[if_pos ⟨rfl,rfl⟩,if_pos (by omega),if_neg (by omega),if_pos rfl]
 ·rw[if_neg e1]
  by_cases e2:0=p∧k=q
  ·obtain⟨rfl,rfl⟩:=e2
   rw[if_pos ⟨rfl,rfl⟩,if_pos (by omega),if_pos rfl]
  ·rw[if_neg e2]
   by_cases e3:q=k
   ·subst e3
    rw[if_neg (by omega),if_pos (by omega),if_neg (fun h=>e2 ⟨h.symm,rfl⟩),if_neg (fun h=>e1 ⟨h.symm,rfl⟩)]
   ·by_cases e4:q<k
    ·rw[if_pos e4,if_pos (show q<k+1 by omega)]
    ·rw[if_neg e4,if_neg (show ¬q<k+1 by omega)]
theorem swk_all {r c:Nat} {a:List Int} {i:Nat}:swk r c a i c=mkz r c (swapZ (elz a c) 0 i):=mkz_congr fun p q _ hq=>if_pos hq
end Go.Proofs.YtjknedoaofjnbaaGreatDoor
namespace Go.Proofs.YtjknedoaofjnbaaGreatDoor
open Go.Sx
set_option linter.unusedSimpArgs false
set_option linter.unusedVariables false
set_option maxRecDepth 100000
set_option maxHeartbeats 40000000
theorem nest3 {ρ:Rho} {a b c:SV} {l:List SV} {x:List Value} (h:HasC ρ (.agg (a::b::c::l)) x):HasC ρ (.agg (.agg [a,b,c]::l)) x:=by
 simp only[HasC,HasZ]at h ⊢
 obtain⟨z,⟨x1,r1,rfl,h1,x2,r2,rfl,h2,x3,r3,rfl,h3,h4⟩,rfl⟩:=h
 exact⟨_,⟨_,r3,rfl,⟨_,⟨x1,_,rfl,h1,x2,_,rfl,h2,x3,_,rfl,h3,rfl⟩,rfl⟩,h4⟩,by simp⟩
abbrev zS:Blk:=⟨194,true,.one [iv 0,iv 0,.val (.slice none 0 0),.int 0,iv 0]⟩
abbrev bS (r c:Int) (a:List Int) (b s:Int):Blk:=⟨194,true,.one (sC r c a b s)⟩
theorem b_turned_no {r c:Nat} {a:List Int} {b s:Int} (ha:OKZ r (c+1) a) (h:∀i,i<r→elz a (c+1) i 0=0):
  CallOK Tryz.prog 193 [sA r (c+1:Nat) a b s] [] (.tup [sA r (c+1:Nat) a b s,.val (.bool false)]) [] []:=by
 have hr:=ha.r
 refine callF (Z:=[]) tabOK mixedOK Tryz.func193 rfl (by kernel_rfl) (by first|rfl|(simp[keylessL,keyless,keylessL_map, *];done)) (by first|rfl|(simp[keylessL,keyless,keylessL_map, *];done)) (by kernel_rfl) rfl ?_
 intro w0 ρ0 hE
 conv=>whnf
 (repeat(first|(rw[Nat.zero_add];conv=>whnf)))
 refine SW_loopN hE (fun k=>k) [1,2,3,9,10] [1,2] (fun m fr hp=>∃i:Nat,m=r - i∧i≤r∧fr=[(1,.ptr 1 0 0 0),(2,.ptr 2 0 0 0),(3,.val (.bool false)),(9,iv r),(10,iv (i:Nat))]∧
  hp=[(1,bS r (c+1:Nat) a b s),(2,zS)]) r ?_ ?_ ?_
 ·kernel_rfl
 ·exact⟨0,rfl,Nat.zero_le _,rfl,rfl⟩
 rintro m _ _ ⟨i,rfl,hi,rfl,rfl⟩
 conv=>whnf
 by_cases hlt:i<r
 ·have t1:=dlt hlt
  have t2:=winc (i:=i) (by omega)
  have k1:=b_at ha hlt (k:=0) (by omega)
  rw[h i hlt]at k1
  have k2:=c_Sign 0
  (repeat((first|refine step_w1 rfl rfl ?_|refine g_c (by assumption) ?_|rw[t1]|rw[t2]|rw[Nat.zero_add]);conv=>whnf))
  exact⟨r - (i+1),fun k=>k,[1,2,3,9,10],[1,2],by omega,by kernel_rfl,i+1,rfl,hlt,rfl,rfl⟩
 ·have t1:=dge hlt
  (repeat(first|(refine step_w2 rfl rfl ?_;conv=>whnf)|(rw[t1];conv=>whnf)))
  (first|exact Recast.refl _|exact Frz.recast (Recast.refl _) rfl|(refine Frz.one rfl rfl ?_;skip)|(refine Frz.tup ?_;skip))
theorem b_turned {r c:Nat} {a:List Int} {b s:Int} (ha:OKZ r (c+1) a) {j:Nat} (hj:j<r) (h:∀i,i<j→elz a (c+1) i 0=0) (h0:elz a (c+1) j 0≠0) (hs:0≤s∧s≤1000):
  CallOK Tryz.prog 193 [sA r (c+1:Nat) a b s] [] (.tup [sA r (c+1:Nat) (mkz r (c+1) (swapZ (elz a (c+1)) 0 j)) b (if 0<j then s+1 else s),.val (.bool true)]) [] []:=by
 have hr:=ha.r
 have hc:=ha.c
 refine callF (Z:=[]) tabOK mixedOK Tryz.func193 rfl (by kernel_rfl) (by first|rfl|(simp[keylessL,keyless,keylessL_map, *];done)) (by first|rfl|(simp[keylessL,keyless,keylessL_map, *];done)) (by kernel_rfl) rfl ?_
 intro w0 ρ0 hE
 conv=>whnf
 (repeat(first|(rw[Nat.zero_add];conv=>whnf)))
 refine SW_loopN hE (fun k=>k) [1,2,3,9,10] [1,2] (fun m fr hp=>∃i:Nat,m=r - i∧i≤j∧fr=[(1,.ptr 1 0 0 0),(2,.ptr 2 0 0 0),(3,.val (.bool false)),(9,iv r),(10,iv (i:Nat))]∧
  hp=[(1,bS r (c+1:Nat) a b s),(2,zS)]) r ?_ ?_ ?_
 ·kernel_rfl
 ·exact⟨0,rfl,Nat.zero_le _,rfl,rfl⟩
 rintro m _ _ ⟨i,rfl,hi,rfl,rfl⟩
 conv=>whnf
 have hlt:i<r:=by omega
 have t1:=dlt hlt
 have t2:=winc (i:=i) (by omega)
 have k1:=b_at ha hlt (k:=0) (by omega)
 have k2:=c_Sign (elz a (c+1) i 0)
 by_cases hij:i<j
 ·rw[h i hij]at k1
  have k2:=c_Sign 0
  (repeat((first|refine step_w1 rfl rfl ?_|refine g_c (by assumption) ?_|rw[t1]|rw[t2]|rw[Nat.zero_add]);conv=>whnf))
  exact⟨r - (i+1),fun k=>k,[1,2,3,9,10],[1,2],by omega,by kernel_rfl,i+1,rfl,hij,rfl,rfl⟩
 obtain rfl:i=j:=by omega
 have t3:((elz a (c+1) i 0).sign==0)=false:=beq_eq_false_iff_ne.2 fun e=>h0 (Int.sign_eq_zero_iff_zero.1 e)
 by_cases hz:0<i
 ·have t4:decide ((i:Int)>0)=true:=decide_eq_true (by omega)
  rw[if_pos hz]
  have hl:a≠[]:=by
   intro e;have:=ha.n;rw[e]at this
   have h2:=idx_lt hlt (show 0<c+1 by omega)
   rw[←this]at h2;exact absurd h2 (Nat.not_lt_zero _)
  have k3:=b_Clone a (by have:=ha.n;have:r*(c+1)≤2048*2048:=Nat.mul_le_mul hr hc;omega) hl
  have hn:a.length≤2048*2048:=by rw[ha.n];exact Nat.mul_le_mul hr hc
  (repeat((first|refine step_w1 rfl rfl ?_|refine step_w2 rfl rfl ?_|refine g_c (by assumption) ?_|refine g_cn (by assumption) rfl ?_|rw[t1]|rw[t3]|rw[t4]|rw[Nat.zero_add]);conv=>whnf))
  refine SW_loopN hE (fun k=>k) [1,2,3,4,5,9,10,27,28] [1,2,2001] (fun m fr hp=>∃k:Nat,m=c+1 - k∧k≤c+1∧fr=[(1,.ptr 1 0 0 0),(2,.ptr 2 0 0 0),(3,.val (.bool false)),(4,iv (i:Nat)),(5,.slc 2001 3 0 a.length),(9,iv r),(10,iv (i:Nat)),(27,iv (c+1:Nat)),(28,iv (k:Nat))]∧
   hp=[(1,bS r (c+1:Nat) a b s),(2,zS),(2001,zB3 (swk r (c+1) a i k))]) (c+1) ?_ ?_ ?_
  ·kernel_rfl
  ·exact⟨0,rfl,Nat.zero_le _,rfl,by rw[swk_zero ha.n];rfl⟩
  clear k1 k2 k3
  rintro m _ _ ⟨k,rfl,hk,rfl,rfl⟩
  conv=>whnf
  by_cases hlk:k<c+1
  ·have t5:=dlt hlk
   have t6:=winc (i:=k) (by omega)
   obtain⟨w1,w2⟩:=idx_w (i:=i) (k:=k) (c:=c+1) (by omega) (by omega) (by omega)
   have hx:=idx_lt hlt hlk
   have hk0:k<r*(c+1):=by have:=idx_lt (show 0<r by omega) hlk;omega
   have hsl:=swk_len r (c+1) a i k
   have g1:((swk r (c+1) a i k).map SV.int).getD (i*(c+1)+k) SV.any= .int (elz a (c+1) i k):=by
    rw[map_getD (d:=0) (by rw[hsl];exact hx)]
    exact congrArg SV.int (swk_at hlt hlk (Nat.le_refl _))
   have g2:((swk r (c+1) a i k).map SV.int).getD k SV.any= .int (elz a (c+1) 0 k):=by
    rw[map_getD (d:=0) (by rw[hsl];exact hk0)]
    have:=swk_at (a:=a) (i:=i) (p:=0) (q:=k) (show 0<r by omega) hlk (Nat.le_refl _)
    rw[elz,Nat.zero_mul,Nat.zero_add]at this
    exact congrArg SV.int this
   have hnl:=ha.n
   have g3:(((swk r (c+1) a i k).map SV.int).set k (.int (elz a (c+1) i k))).getD (i*(c+1)+k) SV.any= .int (elz a (c+1) i k):=by
    rw[←List.map_set,map_getD (d:=0) (by rw[List.length_set,hsl];exact hx)]
    have hne:k≠i*(c+1)+k:=by have:=Nat.mul_le_mul_right (c+1) (show 1≤i from hz);omega
    rw[List.getD_eq_getElem?_getD,List.getElem?_set_ne hne,←List.getD_eq_getElem?_getD]
    exact congrArg SV.int (swk_at hlt hlk (Nat.le_refl _))
   (repeat((first|refine step_w1 rfl rfl ?_|refine step_i (by kernel_rfl) ?_|refine step_oL (by first|omega|decide|(simp only[tl0,dlen,List.length_replicate,List.length_set,List.length_map,List.length_zipWith,List.length_take,List.length_append,List.length_cons,List.length_nil];omega)) ?_|refine step_oA (by first|omega|decide|(simp only[tl0,dlen,List.length_replicate,List.length_set,List.length_map,List.length_zipWith,List.length_take,List.length_append,List.length_cons,List.length_nil];omega)) ?_|rw[t5]|rw[w1]|rw[w2]|rw[g1]|rw[g2]|rw[g3]|rw[t6]|rw[Int.toNat_natCast]|rw[Nat.zero_add]);conv=>whnf))
   refine⟨c+1 - (k+1),fun k=>k,[1,2,3,4,5,9,10,27,28],[1,2,2001],by omega,by kernel_rfl,k+1,rfl,hlk,rfl, ?_⟩
   rw[←swk_set hlt hz hlk,zB3,List.map_set,List.map_set]
   rfl
  ·have t5:=dge hlk
   obtain rfl:k=c+1:=by omega
   rw[swk_all]
   have t7:IntKind.i64.wrap (s+1)=s+1:=wrap_i64 (by omega) (by omega)
   (repeat(first|(refine step_w2 rfl rfl ?_;conv=>whnf)|(rw[t5];conv=>whnf)|(rw[t7];conv=>whnf)))
   refine Frz.tup (FrzL.cons (FrzC.via (fun _ _=>nest3) rfl (FrzC.agg (FrzL.cons (FrzC.agg ?_) (FrzL.cons (FrzC.keyless rfl) (FrzL.cons (FrzC.keyless rfl) FrzL.nil))))) (FrzL.cons (FrzC.keyless rfl) FrzL.nil))
   exact FrzL.cons (FrzC.keyless rfl) (FrzL.cons (FrzC.keyless rfl) (FrzL.cons (FrzC.seq rfl (keylessL_map (fun _=>rfl) _) (by rw[List.length_map,mkz_len];exact ha.n)) FrzL.nil))
 ·obtain rfl:i=0:=by omega
  have t4:decide (((0:Nat):Int)>0)=false:=decide_eq_false (by omega)
  rw[if_neg hz,swapZ_self,mkz_self ha.n]
  (repeat((first|refine step_w1 rfl rfl ?_|refine step_w2 rfl rfl ?_|refine g_c (by assumption) ?_|rw[t1]|rw[t3]);conv=>whnf))
  (first|exact Recast.refl _|exact Frz.recast (Recast.refl _) rfl|(refine Frz.one rfl rfl ?_;skip)|(refine Frz.tup ?_;skip))
end Go.Proofs.YtjknedoaofjnbaaGreatDoor
