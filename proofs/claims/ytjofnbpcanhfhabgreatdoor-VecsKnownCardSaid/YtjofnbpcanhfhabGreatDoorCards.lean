/-
  DERIVED. GIVEN WITH THE SEED: THE CARDS: each row of YtjofnbpcanhfhabGreatDoorRows.lean that lists a variable, with what it lists TIED to the program's text (the seventh form; the later family's looks); each row that meets fmt, with fmt's text TOLD by the authors' own Lean function (tested against real Go, not proved from fmt's source: count such statements apart). THE CARD IS WHAT COUNTS. Prove the row's statement (the work); the ties are given (YtjofnbpcanhfhabGreatDoorTie.lean); close each card by the builder's one call (the guide's Derived/Test/ToyasCard.lean, 'card_holds'). Laid BY PROGRAM, IN A SANDBOX (cutbox-door.mjs). By AI agents, Wed Nov 11 2026. No macro, syntax, notation, axiom, sorry.
-/
import Derived.Test.YtjofnbpcanhfhabGreatDoorRows
import GoSem.ClaimSeven
namespace Go.Proofs.YtjofnbpcanhfhabGreatDoor
namespace Rows

/-- THE TIED CARD OF 'gussetlaw12.VecsKnown'. -/
def vecsKnownCard : Claim7 := { stood := { row := vecsKnownRow, standIns := [], harness := (true, "1b4d8f65d63b11827a01948725d2512a82ce261ae44f1d6cc34f09526e8505ac"), looks := false }, kinds := [], alts := [], laidByText := true, laidKinds := [.data, .data, .data], laidTests := true, laidLooks := .later }
def VecsKnownCardSaid : Prop := Claim7.holds Tryz.pinned (.plain (OpenSpec.ofChange vecsKnownSpec)) vecsKnownCard

/-- THE SECOND FORM's CARD OF 'gussetlaw12.VecsKnown'. -/
def vecsKnownUptoCard : Claim7 := { stood := { row := vecsKnownUptoRow, standIns := [], harness := (true, "1b4d8f65d63b11827a01948725d2512a82ce261ae44f1d6cc34f09526e8505ac"), looks := false }, kinds := [], alts := [], laidByText := true, laidKinds := [.data, .data, .data], laidTests := true, laidLooks := .later }
def VecsKnownUptoCardSaid : Prop := Claim7.holds Tryz.pinned (.plain (OpenSpec.upto vecsKnownSpec)) vecsKnownUptoCard
end Rows
end Go.Proofs.YtjofnbpcanhfhabGreatDoor
