/-
  DERIVED. GIVEN WITH THE SEED: THE CARDS: each row of YtkpfineikahgfaaGreatDoorRows.lean that lists a variable, with what it lists TIED to the program's text (the seventh form; the later family's looks); each row that meets fmt, with fmt's text TOLD by the authors' own Lean function (tested against real Go, not proved from fmt's source: count such statements apart). THE CARD IS WHAT COUNTS. Prove the row's statement (the work); the ties are given (YtkpfineikahgfaaGreatDoorTie.lean); close each card by the builder's one call (the guide's Derived/Test/ToyasCard.lean, 'card_holds'). Laid BY PROGRAM, IN A SANDBOX (cutbox-door.mjs). By AI agents, Wed Nov 11 2026. No macro, syntax, notation, axiom, sorry.
-/
import Derived.Test.YtkpfineikahgfaaGreatDoorRows
import GoSem.ClaimSeven
namespace Go.Proofs.YtkpfineikahgfaaGreatDoor
namespace Rows

/-- THE TIED CARD OF 'gussetlaw13.MatsMakes'. -/
def matsMakesCard : Claim7 := { stood := { row := matsMakesRow, standIns := [], harness := (true, "70a57563933b06c5736c775e6e3572c2ff51d3d7b94cf08a48b2b3b1d334cc05"), looks := false }, kinds := [], alts := [], laidByText := true, laidKinds := [.data, .data, .data], laidTests := true, laidLooks := .later }
def MatsMakesCardSaid : Prop := Claim7.holds Tryz.pinned (.plain (OpenSpec.ofChange matsMakesSpec)) matsMakesCard

/-- THE TIED CARD OF 'gussetlaw15.BareissStages'. -/
def bareissStagesCard : Claim7 := { stood := { row := bareissStagesRow, standIns := [], harness := (true, "70a57563933b06c5736c775e6e3572c2ff51d3d7b94cf08a48b2b3b1d334cc05"), looks := false }, kinds := [], alts := [], laidByText := true, laidKinds := [.data, .data, .data], laidTests := true, laidLooks := .later }
def BareissStagesCardSaid : Prop := Claim7.holds Tryz.pinned (.plain (OpenSpec.ofChange bareissStagesSpec)) bareissStagesCard

/-- THE TIED CARD OF 'gussetlaw15.BareissBound'. -/
def bareissBoundCard : Claim7 := { stood := { row := bareissBoundRow, standIns := [], harness := (true, "70a57563933b06c5736c775e6e3572c2ff51d3d7b94cf08a48b2b3b1d334cc05"), looks := false }, kinds := [], alts := [], laidByText := true, laidKinds := [.data, .data, .data], laidTests := true, laidLooks := .later }
def BareissBoundCardSaid : Prop := Claim7.holds Tryz.pinned (.plain (OpenSpec.ofChange bareissBoundSpec)) bareissBoundCard

/-- THE TIED CARD OF 'gussetlaw15.BareissErrors'. -/
def bareissErrorsCard : Claim7 := { stood := { row := bareissErrorsRow, standIns := [], harness := (true, "70a57563933b06c5736c775e6e3572c2ff51d3d7b94cf08a48b2b3b1d334cc05"), looks := false }, kinds := [], alts := [], laidByText := true, laidKinds := [.data, .data, .data], laidTests := true, laidLooks := .later }
def BareissErrorsCardSaid : Prop := Claim7.holds Tryz.pinned (.plain (OpenSpec.ofChange bareissErrorsSpec)) bareissErrorsCard

/-- THE TIED CARD OF 'gussetlaw13.MatsKnown'. -/
def matsKnownCard : Claim7 := { stood := { row := matsKnownRow, standIns := [], harness := (true, "70a57563933b06c5736c775e6e3572c2ff51d3d7b94cf08a48b2b3b1d334cc05"), looks := false }, kinds := [], alts := [], laidByText := true, laidKinds := [.data, .data, .data], laidTests := true, laidLooks := .later }
def MatsKnownCardSaid : Prop := Claim7.holds Tryz.pinned (.plain (OpenSpec.ofChange matsKnownSpec)) matsKnownCard

/-- THE TIED CARD OF 'gussetlaw15.BareissClear'. -/
def bareissClearCard : Claim7 := { stood := { row := bareissClearRow, standIns := [], harness := (true, "70a57563933b06c5736c775e6e3572c2ff51d3d7b94cf08a48b2b3b1d334cc05"), looks := false }, kinds := [], alts := [], laidByText := true, laidKinds := [.data, .data, .data], laidTests := true, laidLooks := .later }
def BareissClearCardSaid : Prop := Claim7.holds Tryz.pinned (.plain (OpenSpec.ofChange bareissClearSpec)) bareissClearCard

/-- THE TIED CARD OF 'gussetlaw15.BareissAdjugate'. -/
def bareissAdjugateCard : Claim7 := { stood := { row := bareissAdjugateRow, standIns := [], harness := (true, "70a57563933b06c5736c775e6e3572c2ff51d3d7b94cf08a48b2b3b1d334cc05"), looks := false }, kinds := [], alts := [], laidByText := true, laidKinds := [.data, .data, .data], laidTests := true, laidLooks := .later }
def BareissAdjugateCardSaid : Prop := Claim7.holds Tryz.pinned (.plain (OpenSpec.ofChange bareissAdjugateSpec)) bareissAdjugateCard

/-- THE TIED CARD OF 'gussetlaw15.BareissSylvester'. -/
def bareissSylvesterCard : Claim7 := { stood := { row := bareissSylvesterRow, standIns := [], harness := (true, "70a57563933b06c5736c775e6e3572c2ff51d3d7b94cf08a48b2b3b1d334cc05"), looks := false }, kinds := [], alts := [], laidByText := true, laidKinds := [.data, .data, .data], laidTests := true, laidLooks := .later }
def BareissSylvesterCardSaid : Prop := Claim7.holds Tryz.pinned (.plain (OpenSpec.ofChange bareissSylvesterSpec)) bareissSylvesterCard

/-- THE TIED CARD OF 'gussetlaw15.BareissCramer'. -/
def bareissCramerCard : Claim7 := { stood := { row := bareissCramerRow, standIns := [], harness := (true, "70a57563933b06c5736c775e6e3572c2ff51d3d7b94cf08a48b2b3b1d334cc05"), looks := false }, kinds := [], alts := [], laidByText := true, laidKinds := [.data, .data, .data], laidTests := true, laidLooks := .later }
def BareissCramerCardSaid : Prop := Claim7.holds Tryz.pinned (.plain (OpenSpec.ofChange bareissCramerSpec)) bareissCramerCard

/-- THE TIED CARD OF 'gussetlaw15.BareissKnown'. -/
def bareissKnownCard : Claim7 := { stood := { row := bareissKnownRow, standIns := [], harness := (true, "70a57563933b06c5736c775e6e3572c2ff51d3d7b94cf08a48b2b3b1d334cc05"), looks := false }, kinds := [], alts := [], laidByText := true, laidKinds := [.data, .data, .data], laidTests := true, laidLooks := .later }
def BareissKnownCardSaid : Prop := Claim7.holds Tryz.pinned (.plain (OpenSpec.ofChange bareissKnownSpec)) bareissKnownCard

/-- THE SECOND FORM's CARD OF 'gussetlaw13.MatsMakes'. -/
def matsMakesUptoCard : Claim7 := { stood := { row := matsMakesUptoRow, standIns := [], harness := (true, "70a57563933b06c5736c775e6e3572c2ff51d3d7b94cf08a48b2b3b1d334cc05"), looks := false }, kinds := [], alts := [], laidByText := true, laidKinds := [.data, .data, .data], laidTests := true, laidLooks := .later }
def MatsMakesUptoCardSaid : Prop := Claim7.holds Tryz.pinned (.plain (OpenSpec.upto matsMakesSpec)) matsMakesUptoCard

/-- THE SECOND FORM's CARD OF 'gussetlaw15.BareissStages'. -/
def bareissStagesUptoCard : Claim7 := { stood := { row := bareissStagesUptoRow, standIns := [], harness := (true, "70a57563933b06c5736c775e6e3572c2ff51d3d7b94cf08a48b2b3b1d334cc05"), looks := false }, kinds := [], alts := [], laidByText := true, laidKinds := [.data, .data, .data], laidTests := true, laidLooks := .later }
def BareissStagesUptoCardSaid : Prop := Claim7.holds Tryz.pinned (.plain (OpenSpec.upto bareissStagesSpec)) bareissStagesUptoCard

/-- THE SECOND FORM's CARD OF 'gussetlaw15.BareissBound'. -/
def bareissBoundUptoCard : Claim7 := { stood := { row := bareissBoundUptoRow, standIns := [], harness := (true, "70a57563933b06c5736c775e6e3572c2ff51d3d7b94cf08a48b2b3b1d334cc05"), looks := false }, kinds := [], alts := [], laidByText := true, laidKinds := [.data, .data, .data], laidTests := true, laidLooks := .later }
def BareissBoundUptoCardSaid : Prop := Claim7.holds Tryz.pinned (.plain (OpenSpec.upto bareissBoundSpec)) bareissBoundUptoCard

/-- THE SECOND FORM's CARD OF 'gussetlaw15.BareissErrors'. -/
def bareissErrorsUptoCard : Claim7 := { stood := { row := bareissErrorsUptoRow, standIns := [], harness := (true, "70a57563933b06c5736c775e6e3572c2ff51d3d7b94cf08a48b2b3b1d334cc05"), looks := false }, kinds := [], alts := [], laidByText := true, laidKinds := [.data, .data, .data], laidTests := true, laidLooks := .later }
def BareissErrorsUptoCardSaid : Prop := Claim7.holds Tryz.pinned (.plain (OpenSpec.upto bareissErrorsSpec)) bareissErrorsUptoCard

/-- THE SECOND FORM's CARD OF 'gussetlaw13.MatsKnown'. -/
def matsKnownUptoCard : Claim7 := { stood := { row := matsKnownUptoRow, standIns := [], harness := (true, "70a57563933b06c5736c775e6e3572c2ff51d3d7b94cf08a48b2b3b1d334cc05"), looks := false }, kinds := [], alts := [], laidByText := true, laidKinds := [.data, .data, .data], laidTests := true, laidLooks := .later }
def MatsKnownUptoCardSaid : Prop := Claim7.holds Tryz.pinned (.plain (OpenSpec.upto matsKnownSpec)) matsKnownUptoCard

/-- THE SECOND FORM's CARD OF 'gussetlaw15.BareissClear'. -/
def bareissClearUptoCard : Claim7 := { stood := { row := bareissClearUptoRow, standIns := [], harness := (true, "70a57563933b06c5736c775e6e3572c2ff51d3d7b94cf08a48b2b3b1d334cc05"), looks := false }, kinds := [], alts := [], laidByText := true, laidKinds := [.data, .data, .data], laidTests := true, laidLooks := .later }
def BareissClearUptoCardSaid : Prop := Claim7.holds Tryz.pinned (.plain (OpenSpec.upto bareissClearSpec)) bareissClearUptoCard

/-- THE SECOND FORM's CARD OF 'gussetlaw15.BareissAdjugate'. -/
def bareissAdjugateUptoCard : Claim7 := { stood := { row := bareissAdjugateUptoRow, standIns := [], harness := (true, "70a57563933b06c5736c775e6e3572c2ff51d3d7b94cf08a48b2b3b1d334cc05"), looks := false }, kinds := [], alts := [], laidByText := true, laidKinds := [.data, .data, .data], laidTests := true, laidLooks := .later }
def BareissAdjugateUptoCardSaid : Prop := Claim7.holds Tryz.pinned (.plain (OpenSpec.upto bareissAdjugateSpec)) bareissAdjugateUptoCard

/-- THE SECOND FORM's CARD OF 'gussetlaw15.BareissSylvester'. -/
def bareissSylvesterUptoCard : Claim7 := { stood := { row := bareissSylvesterUptoRow, standIns := [], harness := (true, "70a57563933b06c5736c775e6e3572c2ff51d3d7b94cf08a48b2b3b1d334cc05"), looks := false }, kinds := [], alts := [], laidByText := true, laidKinds := [.data, .data, .data], laidTests := true, laidLooks := .later }
def BareissSylvesterUptoCardSaid : Prop := Claim7.holds Tryz.pinned (.plain (OpenSpec.upto bareissSylvesterSpec)) bareissSylvesterUptoCard

/-- THE SECOND FORM's CARD OF 'gussetlaw15.BareissCramer'. -/
def bareissCramerUptoCard : Claim7 := { stood := { row := bareissCramerUptoRow, standIns := [], harness := (true, "70a57563933b06c5736c775e6e3572c2ff51d3d7b94cf08a48b2b3b1d334cc05"), looks := false }, kinds := [], alts := [], laidByText := true, laidKinds := [.data, .data, .data], laidTests := true, laidLooks := .later }
def BareissCramerUptoCardSaid : Prop := Claim7.holds Tryz.pinned (.plain (OpenSpec.upto bareissCramerSpec)) bareissCramerUptoCard

/-- THE SECOND FORM's CARD OF 'gussetlaw15.BareissKnown'. -/
def bareissKnownUptoCard : Claim7 := { stood := { row := bareissKnownUptoRow, standIns := [], harness := (true, "70a57563933b06c5736c775e6e3572c2ff51d3d7b94cf08a48b2b3b1d334cc05"), looks := false }, kinds := [], alts := [], laidByText := true, laidKinds := [.data, .data, .data], laidTests := true, laidLooks := .later }
def BareissKnownUptoCardSaid : Prop := Claim7.holds Tryz.pinned (.plain (OpenSpec.upto bareissKnownSpec)) bareissKnownUptoCard
end Rows
end Go.Proofs.YtkpfineikahgfaaGreatDoor
