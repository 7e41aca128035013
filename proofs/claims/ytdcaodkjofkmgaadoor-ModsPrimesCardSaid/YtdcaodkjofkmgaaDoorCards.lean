/-
  DERIVED. GIVEN WITH THE SEED: THE CARDS: each row of YtdcaodkjofkmgaaDoorRows.lean that lists a variable, with what it lists TIED to the program's text (the seventh form; the later family's looks); each row that meets fmt, with fmt's text TOLD by the authors' own Lean function (tested against real Go, not proved from fmt's source: count such statements apart). THE CARD IS WHAT COUNTS. Prove the row's statement (the work); the ties are given (YtdcaodkjofkmgaaDoorTie.lean); close each card by the builder's one call (the guide's Derived/Test/ToyasCard.lean, 'card_holds'). Laid BY PROGRAM, IN A SANDBOX (cutbox-door.mjs). By AI agents, Wed Nov 11 2026. No macro, syntax, notation, axiom, sorry.
-/
import Derived.Test.YtdcaodkjofkmgaaDoorRows
import GoSem.ClaimSeven
namespace Go.Proofs.YtdcaodkjofkmgaaDoor
namespace Rows

/-- THE TIED CARD OF 'gussetlaw06.ModsPrimes'. -/
def modsPrimesCard : Claim7 := { stood := { row := modsPrimesRow, standIns := [], harness := (true, "f21da625cc8ab5a7b06dbae62848f94959fb8740a775fe12e5f7ad7f2bf6124c"), looks := false }, kinds := [], alts := [], laidByText := true, laidKinds := [.data], laidTests := true, laidLooks := .later }
def ModsPrimesCardSaid : Prop := Claim7.holds Tryd.pinned (.plain (OpenSpec.ofChange modsPrimesSpec)) modsPrimesCard

/-- THE SECOND FORM's CARD OF 'gussetlaw06.ModsPrimes'. -/
def modsPrimesUptoCard : Claim7 := { stood := { row := modsPrimesUptoRow, standIns := [], harness := (true, "f21da625cc8ab5a7b06dbae62848f94959fb8740a775fe12e5f7ad7f2bf6124c"), looks := false }, kinds := [], alts := [], laidByText := true, laidKinds := [.data], laidTests := true, laidLooks := .later }
def ModsPrimesUptoCardSaid : Prop := Claim7.holds Tryd.pinned (.plain (OpenSpec.upto modsPrimesSpec)) modsPrimesUptoCard
end Rows
end Go.Proofs.YtdcaodkjofkmgaaDoor
