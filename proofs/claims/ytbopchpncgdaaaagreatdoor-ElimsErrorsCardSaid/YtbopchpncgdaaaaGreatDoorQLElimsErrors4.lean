/- The texts La, Or. -/
import Derived.Test.YtbopchpncgdaaaaGreatDoorQLElimsErrors3
namespace Go.Sx
set_option linter.unusedSimpArgs false
set_option linter.unusedVariables false
theorem op_makeF2 {P:Program} {o:Oper} {ft:List (Nat×SV)} {fk:List (Nat×Blk)} {t e:TypeId} {x y:Operand} {ti te:TI} {kl kc:IntKind} {l m:Int} (n:Nat) (ho:o.op= .makeSlice t x y) (hx:EvOK ft x (.val (.int kl l))) (hy:EvOK ft y (.val (.int kc m))) (hl:l=n) (hm:m=n)
  (ht:TOK P t ti) (hk:ti.kind= .slc e) (he:TOK P e te) (hz:te.zero=[.frac 0]) (hs:te.size=5) (hb:(te.bytes:Int)*n≤281474976710656∧(n:Int)≤9223372036854775807):OpOK P o ft fk (fvec (List.replicate n 0)) [] []:=by
 subst hl hm;exact op_makeF ho hx hy ht hk he hz hs hb
end Go.Sx
namespace Go.Proofs.YtbopchpncgdaaaaGreatDoor
open Go.Sx
set_option linter.unusedSimpArgs false
set_option linter.unusedVariables false
set_option maxRecDepth 100000
set_option maxHeartbeats 40000000
structure Closed (p:Prop):Prop where
 out:p
theorem op_make2049 {fk:List (Nat×Blk)} {o:Oper} {n:Nat} (h:(2049:Int)=(n:Int)) (ho:o.op= .makeSlice 25 (.const (.int .i64 2049)) (.const (.int .i64 2049))):OpOK Tryz.prog o [] fk (fvec (List.replicate n 0)) [] []:=
 op_makeF2 n ho (ev_ok rfl) (ev_ok rfl) h h (tgt rfl) rfl (tgt rfl) rfl rfl (by simp only[tiB53];omega)
end Go.Proofs.YtbopchpncgdaaaaGreatDoor
namespace Go.Proofs.YtbopchpncgdaaaaGreatDoor
open Go.Sx
set_option linter.unusedSimpArgs false
set_option linter.unusedVariables false
set_option maxRecDepth 100000
set_option maxHeartbeats 40000000
theorem small_side {a b N:Nat} (h:a*b≤39) (ha:a≤N) (hb:a≤b):a≤6:=by
 refine Nat.le_of_not_lt fun g=> ?_
 have:=Nat.mul_le_mul (show 7≤a by omega) (show 7≤b by omega)
 omega
end Go.Proofs.YtbopchpncgdaaaaGreatDoor
