/- The package-level tables that the seat's rows lay. -/
import Derived.Below
namespace Go.Sx
/-- A global's number, its elements' kind, its elements. -/
def globTabs : List (Nat × IntKind × List Int) := [(0, .u8, [0, 1, 28, 2, 29, 14, 24, 3, 30, 22, 20, 15, 25, 17, 4, 8, 31, 27, 13, 23, 21, 19, 16, 7, 26, 12, 18, 6, 11, 5, 10, 9])]
/-- The tables stand, for good. -/
def globOK (imm : Nat → Option Obj) : Prop := ∀ g kd l, (g, kd, l) ∈ globTabs → ∃ o, imm g = some o ∧ ∀ w : World, w.heap[g]? = some o → ∀ j x, l[j]? = some x → w.cell? ⟨g, j, none⟩ = some (.int kd x)
end Go.Sx
