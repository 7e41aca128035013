/- The texts Bg. -/
import Derived.Test.YtbopchpncgdaaaaGreatDoorQLElimsDet2
namespace Go.Proofs.YtbopchpncgdaaaaGreatDoor
open Go.Sx
set_option linter.unusedSimpArgs false
set_option linter.unusedVariables false
theorem rem_of {v:Int} {r:Nat} (hv:0≤v∧v<256) (hr:0<r) (h6:r≤6):∃p:Nat,p<r∧IntKind.i64.wrap v=v∧v.tmod (r:Int)=(p:Int)∧IntKind.i64.wrap (p:Int)=(p:Int):=by
 have h1:=Int.tmod_eq_emod_of_nonneg (b:=(r:Int)) hv.1
 have h2:=Int.emod_nonneg v (show(r:Int)≠0 by omega)
 have h3:=Int.emod_lt_of_pos v (show 0<(r:Int) by omega)
 exact⟨(v % (r:Int)).toNat,by omega,wrap_i64 (by omega) (by omega),by omega,wrap_i64 (by omega) (by omega)⟩
end Go.Proofs.YtbopchpncgdaaaaGreatDoor
