/-
  DERIVED. GIVEN WITH THE SEED: THE CARDS: each row of YtcaofdhffiifpaaDoorRows.lean that lists a variable, with what it lists TIED to the program's text (the seventh form; the later family's looks); each row that meets fmt, with fmt's text TOLD by the authors' own Lean function (tested against real Go, not proved from fmt's source: count such statements apart). THE CARD IS WHAT COUNTS. Prove the row's statement (the work); the ties are given (YtcaofdhffiifpaaDoorTie.lean); close each card by the builder's one call (the guide's Derived/Test/ToyasCard.lean, 'card_holds'). Laid BY PROGRAM, IN A SANDBOX (cutbox-door.mjs). By AI agents, Wed Nov 11 2026. No macro, syntax, notation, axiom, sorry.
-/
import Derived.Test.YtcaofdhffiifpaaDoorRows
import GoSem.ClaimSeven
namespace Go.Proofs.YtcaofdhffiifpaaDoor
namespace Rows

/-- THE TIED CARD OF 'gussetlaw06.ModsSums'. -/
def modsSumsCard : Claim7 := { stood := { row := modsSumsRow, standIns := [], harness := (true, "024753a084b9e1ddac9b5122bb89dd741da285177a5e5232e3a0dbdc8b773fba"), looks := false }, kinds := [], alts := [], laidByText := true, laidKinds := [.data], laidTests := true, laidLooks := .later }
def ModsSumsCardSaid : Prop := Claim7.holds Tryd.pinned (.plain (OpenSpec.ofChange modsSumsSpec)) modsSumsCard

/-- THE SECOND FORM's CARD OF 'gussetlaw06.ModsSums'. -/
def modsSumsUptoCard : Claim7 := { stood := { row := modsSumsUptoRow, standIns := [], harness := (true, "024753a084b9e1ddac9b5122bb89dd741da285177a5e5232e3a0dbdc8b773fba"), looks := false }, kinds := [], alts := [], laidByText := true, laidKinds := [.data], laidTests := true, laidLooks := .later }
def ModsSumsUptoCardSaid : Prop := Claim7.holds Tryd.pinned (.plain (OpenSpec.upto modsSumsSpec)) modsSumsUptoCard
end Rows
end Go.Proofs.YtcaofdhffiifpaaDoor
