/- The texts Ot, Tn. -/
import Derived.Lib.LaidTab
import Derived.WideShapes
import Derived.Test.YtkpfineikahgfaaGreatDoorQLBareissErrors6
namespace Go.Proofs.YtkpfineikahgfaaGreatDoor
open Go.Sx
set_option linter.unusedSimpArgs false
set_option linter.unusedVariables false
set_option maxRecDepth 100000
set_option maxHeartbeats 40000000
theorem law_BareissErrors (a0 a1 a2 a3 a4 : Int) (_w0 : (Lit.int .i64 a0).wf = true) (_w1 : (Lit.int .i64 a1).wf = true) (w2 : (Lit.int .u8 a2).wf = true) (w3 : (Lit.int .u8 a3).wf = true) (_w4 : (Lit.int .i64 a4).wf = true) :
    CallOK Tryz.prog 6 [iv a0, iv a1, iel .u8 a2, iel .u8 a3, iv a4] [] (.val (.bool true)) [] [] := by
  by_cases h : checkF a0 a1 (a2 % 40).toNat = 0
  · have hs : sidesF a0 a1 = 0 := by
      refine Classical.byContradiction fun g => ?_
      rw [checkF, if_pos g] at h; exact g h
    rw [checkF, if_neg (by omega)] at h
    obtain ⟨⟨r0, r1⟩, c0, c1⟩ := sides_ok hs
    have hn : ((a2 % 40).toNat : Int) = a0 * a1 := by
      refine Classical.byContradiction fun g => ?_
      rw [if_pos g] at h; cases h
    obtain ⟨R, rfl⟩ : ∃ R : Nat, a0 = R := ⟨a0.toNat, by omega⟩
    obtain ⟨C, rfl⟩ : ∃ C : Nat, a1 = C := ⟨a1.toNat, by omega⟩
    exact c_BErrOk R C a2 a3 a4 (wf_u8 w2) (wf_u8 w3) (by omega) (by omega) (by rw [← Int.natCast_mul] at hn; omega)
  · exact c_BErrBad a0 a1 a2 a3 a4 (wf_u8 w2) (wf_u8 w3) h
end Go.Proofs.YtkpfineikahgfaaGreatDoor

namespace Go.Sx
set_option linter.unusedSimpArgs false
set_option linter.unusedVariables false
open Go.Lib

end Go.Sx
