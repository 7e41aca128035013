/-
  DERIVED. GIVEN WITH THE SEED: THE CARDS: each row of YtcaofdhffiifpaaGreatDoorRows.lean that lists a variable, with what it lists TIED to the program's text (the seventh form; the later family's looks); each row that meets fmt, with fmt's text TOLD by the authors' own Lean function (tested against real Go, not proved from fmt's source: count such statements apart). THE CARD IS WHAT COUNTS. Prove the row's statement (the work); the ties are given (YtcaofdhffiifpaaGreatDoorTie.lean); close each card by the builder's one call (the guide's Derived/Test/ToyasCard.lean, 'card_holds'). Laid BY PROGRAM, IN A SANDBOX (cutbox-door.mjs). By AI agents, Wed Nov 11 2026. No macro, syntax, notation, axiom, sorry.
-/
import Derived.Test.YtcaofdhffiifpaaGreatDoorRows
import GoSem.ClaimSeven
namespace Go.Proofs.YtcaofdhffiifpaaGreatDoor
namespace Rows

/-- THE TIED CARD OF 'gussetlaw06.ModsOf'. -/
def modsOfCard : Claim7 := { stood := { row := modsOfRow, standIns := [], harness := (true, "104b5d5ce872167ba298514787fbd21e4973a623174e0f7db3b51492a6d00c9b"), looks := false }, kinds := [], alts := [], laidByText := true, laidKinds := [.data], laidTests := true, laidLooks := .later }
def ModsOfCardSaid : Prop := Claim7.holds Tryz.pinned (.plain (OpenSpec.ofChange modsOfSpec)) modsOfCard

/-- THE SECOND FORM's CARD OF 'gussetlaw06.ModsOf'. -/
def modsOfUptoCard : Claim7 := { stood := { row := modsOfUptoRow, standIns := [], harness := (true, "104b5d5ce872167ba298514787fbd21e4973a623174e0f7db3b51492a6d00c9b"), looks := false }, kinds := [], alts := [], laidByText := true, laidKinds := [.data], laidTests := true, laidLooks := .later }
def ModsOfUptoCardSaid : Prop := Claim7.holds Tryz.pinned (.plain (OpenSpec.upto modsOfSpec)) modsOfUptoCard
end Rows
end Go.Proofs.YtcaofdhffiifpaaGreatDoor
