/-
  DERIVED. GIVEN WITH THE SEED: THE CARDS: each row of YtfpagioknjjacaaGreatDoorRows.lean that lists a variable, with what it lists TIED to the program's text (the seventh form; the later family's looks); each row that meets fmt, with fmt's text TOLD by the authors' own Lean function (tested against real Go, not proved from fmt's source: count such statements apart). THE CARD IS WHAT COUNTS. Prove the row's statement (the work); the ties are given (YtfpagioknjjacaaGreatDoorTie.lean); close each card by the builder's one call (the guide's Derived/Test/ToyasCard.lean, 'card_holds'). Laid BY PROGRAM, IN A SANDBOX (cutbox-door.mjs). By AI agents, Wed Nov 11 2026. No macro, syntax, notation, axiom, sorry.
-/
import Derived.Test.YtfpagioknjjacaaGreatDoorRows
import GoSem.ClaimSeven
namespace Go.Proofs.YtfpagioknjjacaaGreatDoor
namespace Rows

/-- THE TIED CARD OF 'gussetlaw13.MatsKnown'. -/
def matsKnownCard : Claim7 := { stood := { row := matsKnownRow, standIns := [], harness := (true, "c7774a98c0a538efe1009b7a478d0b62fee1239edc29ec818d341edaf7dff041"), looks := false }, kinds := [], alts := [], laidByText := true, laidKinds := [.data, .data, .data], laidTests := true, laidLooks := .later }
def MatsKnownCardSaid : Prop := Claim7.holds Tryz.pinned (.plain (OpenSpec.ofChange matsKnownSpec)) matsKnownCard

/-- THE TIED CARD OF 'gussetlaw14.ElimsKnown'. -/
def elimsKnownCard : Claim7 := { stood := { row := elimsKnownRow, standIns := [], harness := (true, "c7774a98c0a538efe1009b7a478d0b62fee1239edc29ec818d341edaf7dff041"), looks := false }, kinds := [], alts := [], laidByText := true, laidKinds := [.data, .data, .data], laidTests := true, laidLooks := .later }
def ElimsKnownCardSaid : Prop := Claim7.holds Tryz.pinned (.plain (OpenSpec.ofChange elimsKnownSpec)) elimsKnownCard

/-- THE TIED CARD OF 'gussetlaw22.ModesCount'. -/
def modesCountCard : Claim7 := { stood := { row := modesCountRow, standIns := [], harness := (true, "c7774a98c0a538efe1009b7a478d0b62fee1239edc29ec818d341edaf7dff041"), looks := false }, kinds := [], alts := [], laidByText := true, laidKinds := [.data, .data, .data], laidTests := true, laidLooks := .later }
def ModesCountCardSaid : Prop := Claim7.holds Tryz.pinned (.plain (OpenSpec.ofChange modesCountSpec)) modesCountCard

/-- THE TIED CARD OF 'gussetlaw15.BareissKnown'. -/
def bareissKnownCard : Claim7 := { stood := { row := bareissKnownRow, standIns := [], harness := (true, "c7774a98c0a538efe1009b7a478d0b62fee1239edc29ec818d341edaf7dff041"), looks := false }, kinds := [], alts := [], laidByText := true, laidKinds := [.data, .data, .data], laidTests := true, laidLooks := .later }
def BareissKnownCardSaid : Prop := Claim7.holds Tryz.pinned (.plain (OpenSpec.ofChange bareissKnownSpec)) bareissKnownCard

/-- THE TIED CARD OF 'gussetlaw22.ModesKnown'. -/
def modesKnownCard : Claim7 := { stood := { row := modesKnownRow, standIns := [], harness := (true, "c7774a98c0a538efe1009b7a478d0b62fee1239edc29ec818d341edaf7dff041"), looks := false }, kinds := [], alts := [], laidByText := true, laidKinds := [.data, .data, .data], laidTests := true, laidLooks := .later }
def ModesKnownCardSaid : Prop := Claim7.holds Tryz.pinned (.plain (OpenSpec.ofChange modesKnownSpec)) modesKnownCard

/-- THE SECOND FORM's CARD OF 'gussetlaw13.MatsKnown'. -/
def matsKnownUptoCard : Claim7 := { stood := { row := matsKnownUptoRow, standIns := [], harness := (true, "c7774a98c0a538efe1009b7a478d0b62fee1239edc29ec818d341edaf7dff041"), looks := false }, kinds := [], alts := [], laidByText := true, laidKinds := [.data, .data, .data], laidTests := true, laidLooks := .later }
def MatsKnownUptoCardSaid : Prop := Claim7.holds Tryz.pinned (.plain (OpenSpec.upto matsKnownSpec)) matsKnownUptoCard

/-- THE SECOND FORM's CARD OF 'gussetlaw14.ElimsKnown'. -/
def elimsKnownUptoCard : Claim7 := { stood := { row := elimsKnownUptoRow, standIns := [], harness := (true, "c7774a98c0a538efe1009b7a478d0b62fee1239edc29ec818d341edaf7dff041"), looks := false }, kinds := [], alts := [], laidByText := true, laidKinds := [.data, .data, .data], laidTests := true, laidLooks := .later }
def ElimsKnownUptoCardSaid : Prop := Claim7.holds Tryz.pinned (.plain (OpenSpec.upto elimsKnownSpec)) elimsKnownUptoCard

/-- THE SECOND FORM's CARD OF 'gussetlaw22.ModesCount'. -/
def modesCountUptoCard : Claim7 := { stood := { row := modesCountUptoRow, standIns := [], harness := (true, "c7774a98c0a538efe1009b7a478d0b62fee1239edc29ec818d341edaf7dff041"), looks := false }, kinds := [], alts := [], laidByText := true, laidKinds := [.data, .data, .data], laidTests := true, laidLooks := .later }
def ModesCountUptoCardSaid : Prop := Claim7.holds Tryz.pinned (.plain (OpenSpec.upto modesCountSpec)) modesCountUptoCard

/-- THE SECOND FORM's CARD OF 'gussetlaw15.BareissKnown'. -/
def bareissKnownUptoCard : Claim7 := { stood := { row := bareissKnownUptoRow, standIns := [], harness := (true, "c7774a98c0a538efe1009b7a478d0b62fee1239edc29ec818d341edaf7dff041"), looks := false }, kinds := [], alts := [], laidByText := true, laidKinds := [.data, .data, .data], laidTests := true, laidLooks := .later }
def BareissKnownUptoCardSaid : Prop := Claim7.holds Tryz.pinned (.plain (OpenSpec.upto bareissKnownSpec)) bareissKnownUptoCard

/-- THE SECOND FORM's CARD OF 'gussetlaw22.ModesKnown'. -/
def modesKnownUptoCard : Claim7 := { stood := { row := modesKnownUptoRow, standIns := [], harness := (true, "c7774a98c0a538efe1009b7a478d0b62fee1239edc29ec818d341edaf7dff041"), looks := false }, kinds := [], alts := [], laidByText := true, laidKinds := [.data, .data, .data], laidTests := true, laidLooks := .later }
def ModesKnownUptoCardSaid : Prop := Claim7.holds Tryz.pinned (.plain (OpenSpec.upto modesKnownSpec)) modesKnownUptoCard
end Rows
end Go.Proofs.YtfpagioknjjacaaGreatDoor
