/- The texts Bg, Ba. -/
import Derived.Test.YtbopchpncgdaaaaGreatDoorQLElimsForm2
namespace Go.Proofs.YtbopchpncgdaaaaGreatDoor
open Go.Sx
set_option linter.unusedSimpArgs false
set_option linter.unusedVariables false
theorem rem_of {v:Int} {r:Nat} (hv:0≤v∧v<256) (hr:0<r) (h6:r≤6):∃p:Nat,p<r∧IntKind.i64.wrap v=v∧v.tmod (r:Int)=(p:Int)∧IntKind.i64.wrap (p:Int)=(p:Int):=by
 have h1:=Int.tmod_eq_emod_of_nonneg (b:=(r:Int)) hv.1
 have h2:=Int.emod_nonneg v (show(r:Int)≠0 by omega)
 have h3:=Int.emod_lt_of_pos v (show 0<(r:Int) by omega)
 exact⟨(v % (r:Int)).toNat,by omega,wrap_i64 (by omega) (by omega),by omega,wrap_i64 (by omega) (by omega)⟩
end Go.Proofs.YtbopchpncgdaaaaGreatDoor
namespace Go.Proofs.YtbopchpncgdaaaaGreatDoor
open Go.Sx
set_option linter.unusedSimpArgs false
set_option linter.unusedVariables false
set_option maxRecDepth 100000
set_option maxHeartbeats 40000000
theorem pv_get {sp:List Nat} {u:Nat} (hu:u<sp.length):(sp.map ofN).getD u 0=((sp.getD u 0:Nat):Int):=by simp[List.getD_eq_getElem?_getD,hu]
end Go.Proofs.YtbopchpncgdaaaaGreatDoor
