/-
  DERIVED. GIVEN WITH THE SEED: THE CARDS: each row of YtjofnbpcanhfhaaGreatDoorRows.lean that lists a variable, with what it lists TIED to the program's text (the seventh form; the later family's looks); each row that meets fmt, with fmt's text TOLD by the authors' own Lean function (tested against real Go, not proved from fmt's source: count such statements apart). THE CARD IS WHAT COUNTS. Prove the row's statement (the work); the ties are given (YtjofnbpcanhfhaaGreatDoorTie.lean); close each card by the builder's one call (the guide's Derived/Test/ToyasCard.lean, 'card_holds'). Laid BY PROGRAM, IN A SANDBOX (cutbox-door.mjs). By AI agents, Wed Nov 11 2026. No macro, syntax, notation, axiom, sorry.
-/
import Derived.Test.YtjofnbpcanhfhaaGreatDoorRows
import GoSem.ClaimSeven
namespace Go.Proofs.YtjofnbpcanhfhaaGreatDoor
namespace Rows

/-- THE TIED CARD OF 'gussetlaw06.ModsKnown'. -/
def modsKnownCard : Claim7 := { stood := { row := modsKnownRow, standIns := [], harness := (true, "734486a0a4ee836cee968fbe458204c5166533ab3d04f1a565293273a61894eb"), looks := false }, kinds := [], alts := [], laidByText := true, laidKinds := [.data], laidTests := true, laidLooks := .later }
def ModsKnownCardSaid : Prop := Claim7.holds Tryz.pinned (.plain (OpenSpec.ofChange modsKnownSpec)) modsKnownCard

/-- THE SECOND FORM's CARD OF 'gussetlaw06.ModsKnown'. -/
def modsKnownUptoCard : Claim7 := { stood := { row := modsKnownUptoRow, standIns := [], harness := (true, "734486a0a4ee836cee968fbe458204c5166533ab3d04f1a565293273a61894eb"), looks := false }, kinds := [], alts := [], laidByText := true, laidKinds := [.data], laidTests := true, laidLooks := .later }
def ModsKnownUptoCardSaid : Prop := Claim7.holds Tryz.pinned (.plain (OpenSpec.upto modsKnownSpec)) modsKnownUptoCard
end Rows
end Go.Proofs.YtjofnbpcanhfhaaGreatDoor
