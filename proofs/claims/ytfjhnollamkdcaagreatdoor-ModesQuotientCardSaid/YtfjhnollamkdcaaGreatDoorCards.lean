/-
  DERIVED. GIVEN WITH THE SEED: THE CARDS: each row of YtfjhnollamkdcaaGreatDoorRows.lean that lists a variable, with what it lists TIED to the program's text (the seventh form; the later family's looks); each row that meets fmt, with fmt's text TOLD by the authors' own Lean function (tested against real Go, not proved from fmt's source: count such statements apart). THE CARD IS WHAT COUNTS. Prove the row's statement (the work); the ties are given (YtfjhnollamkdcaaGreatDoorTie.lean); close each card by the builder's one call (the guide's Derived/Test/ToyasCard.lean, 'card_holds'). Laid BY PROGRAM, IN A SANDBOX (cutbox-door.mjs). By AI agents, Wed Nov 11 2026. No macro, syntax, notation, axiom, sorry.
-/
import Derived.Test.YtfjhnollamkdcaaGreatDoorRows
import GoSem.ClaimSeven
namespace Go.Proofs.YtfjhnollamkdcaaGreatDoor
namespace Rows

/-- THE TIED CARD OF 'gussetlaw22.ModesCount'. -/
def modesCountCard : Claim7 := { stood := { row := modesCountRow, standIns := [], harness := (true, "049667a50d05a4104706b352db8a54dfe7f95ef875d0bcd948f41cc560c56577"), looks := false }, kinds := [], alts := [], laidByText := true, laidKinds := [.data, .data, .data], laidTests := true, laidLooks := .later }
def ModesCountCardSaid : Prop := Claim7.holds Tryz.pinned (.plain (OpenSpec.ofChange modesCountSpec)) modesCountCard

/-- THE TIED CARD OF 'gussetlaw22.ModesErrors'. -/
def modesErrorsCard : Claim7 := { stood := { row := modesErrorsRow, standIns := [], harness := (true, "049667a50d05a4104706b352db8a54dfe7f95ef875d0bcd948f41cc560c56577"), looks := false }, kinds := [], alts := [], laidByText := true, laidKinds := [.data, .data, .data], laidTests := true, laidLooks := .later }
def ModesErrorsCardSaid : Prop := Claim7.holds Tryz.pinned (.plain (OpenSpec.ofChange modesErrorsSpec)) modesErrorsCard

/-- THE TIED CARD OF 'gussetlaw22.ModesBracket'. -/
def modesBracketCard : Claim7 := { stood := { row := modesBracketRow, standIns := [], harness := (true, "049667a50d05a4104706b352db8a54dfe7f95ef875d0bcd948f41cc560c56577"), looks := false }, kinds := [], alts := [], laidByText := true, laidKinds := [.data, .data, .data], laidTests := true, laidLooks := .later }
def ModesBracketCardSaid : Prop := Claim7.holds Tryz.pinned (.plain (OpenSpec.ofChange modesBracketSpec)) modesBracketCard

/-- THE TIED CARD OF 'gussetlaw22.ModesReach'. -/
def modesReachCard : Claim7 := { stood := { row := modesReachRow, standIns := [], harness := (true, "049667a50d05a4104706b352db8a54dfe7f95ef875d0bcd948f41cc560c56577"), looks := false }, kinds := [], alts := [], laidByText := true, laidKinds := [.data, .data, .data], laidTests := true, laidLooks := .later }
def ModesReachCardSaid : Prop := Claim7.holds Tryz.pinned (.plain (OpenSpec.ofChange modesReachSpec)) modesReachCard

/-- THE TIED CARD OF 'gussetlaw22.ModesShift'. -/
def modesShiftCard : Claim7 := { stood := { row := modesShiftRow, standIns := [], harness := (true, "049667a50d05a4104706b352db8a54dfe7f95ef875d0bcd948f41cc560c56577"), looks := false }, kinds := [], alts := [], laidByText := true, laidKinds := [.data, .data, .data], laidTests := true, laidLooks := .later }
def ModesShiftCardSaid : Prop := Claim7.holds Tryz.pinned (.plain (OpenSpec.ofChange modesShiftSpec)) modesShiftCard

/-- THE TIED CARD OF 'gussetlaw22.ModesInterlace'. -/
def modesInterlaceCard : Claim7 := { stood := { row := modesInterlaceRow, standIns := [], harness := (true, "049667a50d05a4104706b352db8a54dfe7f95ef875d0bcd948f41cc560c56577"), looks := false }, kinds := [], alts := [], laidByText := true, laidKinds := [.data, .data, .data], laidTests := true, laidLooks := .later }
def ModesInterlaceCardSaid : Prop := Claim7.holds Tryz.pinned (.plain (OpenSpec.ofChange modesInterlaceSpec)) modesInterlaceCard

/-- THE TIED CARD OF 'gussetlaw22.ModesInertia'. -/
def modesInertiaCard : Claim7 := { stood := { row := modesInertiaRow, standIns := [], harness := (true, "049667a50d05a4104706b352db8a54dfe7f95ef875d0bcd948f41cc560c56577"), looks := false }, kinds := [], alts := [], laidByText := true, laidKinds := [.data, .data, .data], laidTests := true, laidLooks := .later }
def ModesInertiaCardSaid : Prop := Claim7.holds Tryz.pinned (.plain (OpenSpec.ofChange modesInertiaSpec)) modesInertiaCard

/-- THE TIED CARD OF 'gussetlaw22.ModesQuotient'. -/
def modesQuotientCard : Claim7 := { stood := { row := modesQuotientRow, standIns := [], harness := (true, "049667a50d05a4104706b352db8a54dfe7f95ef875d0bcd948f41cc560c56577"), looks := false }, kinds := [], alts := [], laidByText := true, laidKinds := [.data, .data, .data], laidTests := true, laidLooks := .later }
def ModesQuotientCardSaid : Prop := Claim7.holds Tryz.pinned (.plain (OpenSpec.ofChange modesQuotientSpec)) modesQuotientCard

/-- THE SECOND FORM's CARD OF 'gussetlaw22.ModesCount'. -/
def modesCountUptoCard : Claim7 := { stood := { row := modesCountUptoRow, standIns := [], harness := (true, "049667a50d05a4104706b352db8a54dfe7f95ef875d0bcd948f41cc560c56577"), looks := false }, kinds := [], alts := [], laidByText := true, laidKinds := [.data, .data, .data], laidTests := true, laidLooks := .later }
def ModesCountUptoCardSaid : Prop := Claim7.holds Tryz.pinned (.plain (OpenSpec.upto modesCountSpec)) modesCountUptoCard

/-- THE SECOND FORM's CARD OF 'gussetlaw22.ModesErrors'. -/
def modesErrorsUptoCard : Claim7 := { stood := { row := modesErrorsUptoRow, standIns := [], harness := (true, "049667a50d05a4104706b352db8a54dfe7f95ef875d0bcd948f41cc560c56577"), looks := false }, kinds := [], alts := [], laidByText := true, laidKinds := [.data, .data, .data], laidTests := true, laidLooks := .later }
def ModesErrorsUptoCardSaid : Prop := Claim7.holds Tryz.pinned (.plain (OpenSpec.upto modesErrorsSpec)) modesErrorsUptoCard

/-- THE SECOND FORM's CARD OF 'gussetlaw22.ModesBracket'. -/
def modesBracketUptoCard : Claim7 := { stood := { row := modesBracketUptoRow, standIns := [], harness := (true, "049667a50d05a4104706b352db8a54dfe7f95ef875d0bcd948f41cc560c56577"), looks := false }, kinds := [], alts := [], laidByText := true, laidKinds := [.data, .data, .data], laidTests := true, laidLooks := .later }
def ModesBracketUptoCardSaid : Prop := Claim7.holds Tryz.pinned (.plain (OpenSpec.upto modesBracketSpec)) modesBracketUptoCard

/-- THE SECOND FORM's CARD OF 'gussetlaw22.ModesReach'. -/
def modesReachUptoCard : Claim7 := { stood := { row := modesReachUptoRow, standIns := [], harness := (true, "049667a50d05a4104706b352db8a54dfe7f95ef875d0bcd948f41cc560c56577"), looks := false }, kinds := [], alts := [], laidByText := true, laidKinds := [.data, .data, .data], laidTests := true, laidLooks := .later }
def ModesReachUptoCardSaid : Prop := Claim7.holds Tryz.pinned (.plain (OpenSpec.upto modesReachSpec)) modesReachUptoCard

/-- THE SECOND FORM's CARD OF 'gussetlaw22.ModesShift'. -/
def modesShiftUptoCard : Claim7 := { stood := { row := modesShiftUptoRow, standIns := [], harness := (true, "049667a50d05a4104706b352db8a54dfe7f95ef875d0bcd948f41cc560c56577"), looks := false }, kinds := [], alts := [], laidByText := true, laidKinds := [.data, .data, .data], laidTests := true, laidLooks := .later }
def ModesShiftUptoCardSaid : Prop := Claim7.holds Tryz.pinned (.plain (OpenSpec.upto modesShiftSpec)) modesShiftUptoCard

/-- THE SECOND FORM's CARD OF 'gussetlaw22.ModesInterlace'. -/
def modesInterlaceUptoCard : Claim7 := { stood := { row := modesInterlaceUptoRow, standIns := [], harness := (true, "049667a50d05a4104706b352db8a54dfe7f95ef875d0bcd948f41cc560c56577"), looks := false }, kinds := [], alts := [], laidByText := true, laidKinds := [.data, .data, .data], laidTests := true, laidLooks := .later }
def ModesInterlaceUptoCardSaid : Prop := Claim7.holds Tryz.pinned (.plain (OpenSpec.upto modesInterlaceSpec)) modesInterlaceUptoCard

/-- THE SECOND FORM's CARD OF 'gussetlaw22.ModesInertia'. -/
def modesInertiaUptoCard : Claim7 := { stood := { row := modesInertiaUptoRow, standIns := [], harness := (true, "049667a50d05a4104706b352db8a54dfe7f95ef875d0bcd948f41cc560c56577"), looks := false }, kinds := [], alts := [], laidByText := true, laidKinds := [.data, .data, .data], laidTests := true, laidLooks := .later }
def ModesInertiaUptoCardSaid : Prop := Claim7.holds Tryz.pinned (.plain (OpenSpec.upto modesInertiaSpec)) modesInertiaUptoCard

/-- THE SECOND FORM's CARD OF 'gussetlaw22.ModesQuotient'. -/
def modesQuotientUptoCard : Claim7 := { stood := { row := modesQuotientUptoRow, standIns := [], harness := (true, "049667a50d05a4104706b352db8a54dfe7f95ef875d0bcd948f41cc560c56577"), looks := false }, kinds := [], alts := [], laidByText := true, laidKinds := [.data, .data, .data], laidTests := true, laidLooks := .later }
def ModesQuotientUptoCardSaid : Prop := Claim7.holds Tryz.pinned (.plain (OpenSpec.upto modesQuotientSpec)) modesQuotientUptoCard
end Rows
end Go.Proofs.YtfjhnollamkdcaaGreatDoor
