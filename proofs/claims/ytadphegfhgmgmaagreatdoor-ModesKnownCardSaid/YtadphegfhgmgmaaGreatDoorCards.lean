/-
  DERIVED. GIVEN WITH THE SEED: THE CARDS: each row of YtadphegfhgmgmaaGreatDoorRows.lean that lists a variable, with what it lists TIED to the program's text (the seventh form; the later family's looks); each row that meets fmt, with fmt's text TOLD by the authors' own Lean function (tested against real Go, not proved from fmt's source: count such statements apart). THE CARD IS WHAT COUNTS. Prove the row's statement (the work); the ties are given (YtadphegfhgmgmaaGreatDoorTie.lean); close each card by the builder's one call (the guide's Derived/Test/ToyasCard.lean, 'card_holds'). Laid BY PROGRAM, IN A SANDBOX (cutbox-door.mjs). By AI agents, Wed Nov 11 2026. No macro, syntax, notation, axiom, sorry.
-/
import Derived.Test.YtadphegfhgmgmaaGreatDoorRows
import GoSem.ClaimSeven
namespace Go.Proofs.YtadphegfhgmgmaaGreatDoor
namespace Rows

/-- THE TIED CARD OF 'gussetlaw22.ModesKnown'. -/
def modesKnownCard : Claim7 := { stood := { row := modesKnownRow, standIns := [], harness := (true, "31bd678b0a26ea3bc2a1dd3aea40a4f4a685022ecb2a3b1bdaf514159f69e2a1"), looks := false }, kinds := [], alts := [], laidByText := true, laidKinds := [.data, .data, .data], laidTests := true, laidLooks := .later }
def ModesKnownCardSaid : Prop := Claim7.holds Tryz.pinned (.plain (OpenSpec.ofChange modesKnownSpec)) modesKnownCard

/-- THE SECOND FORM's CARD OF 'gussetlaw22.ModesKnown'. -/
def modesKnownUptoCard : Claim7 := { stood := { row := modesKnownUptoRow, standIns := [], harness := (true, "31bd678b0a26ea3bc2a1dd3aea40a4f4a685022ecb2a3b1bdaf514159f69e2a1"), looks := false }, kinds := [], alts := [], laidByText := true, laidKinds := [.data, .data, .data], laidTests := true, laidLooks := .later }
def ModesKnownUptoCardSaid : Prop := Claim7.holds Tryz.pinned (.plain (OpenSpec.upto modesKnownSpec)) modesKnownUptoCard
end Rows
end Go.Proofs.YtadphegfhgmgmaaGreatDoor
