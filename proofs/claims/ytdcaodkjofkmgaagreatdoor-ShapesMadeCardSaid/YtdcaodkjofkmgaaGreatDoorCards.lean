/-
  DERIVED. GIVEN WITH THE SEED: THE CARDS: each row of YtdcaodkjofkmgaaGreatDoorRows.lean that lists a variable, with what it lists TIED to the program's text (the seventh form; the later family's looks); each row that meets fmt, with fmt's text TOLD by the authors' own Lean function (tested against real Go, not proved from fmt's source: count such statements apart). THE CARD IS WHAT COUNTS. Prove the row's statement (the work); the ties are given (YtdcaodkjofkmgaaGreatDoorTie.lean); close each card by the builder's one call (the guide's Derived/Test/ToyasCard.lean, 'card_holds'). Laid BY PROGRAM, IN A SANDBOX (cutbox-door.mjs). By AI agents, Wed Nov 11 2026. No macro, syntax, notation, axiom, sorry.
-/
import Derived.Test.YtdcaodkjofkmgaaGreatDoorRows
import GoSem.ClaimSeven
namespace Go.Proofs.YtdcaodkjofkmgaaGreatDoor
namespace Rows

/-- THE TIED CARD OF 'gussetlaw34.ShapesThere'. -/
def shapesThereCard : Claim7 := { stood := { row := shapesThereRow, standIns := [], harness := (true, "a58b572030d10f9a3c4f261ca4dfe6f83ef195c1cf5b55b47f0f623ab0438db7"), looks := false }, kinds := [], alts := [], laidByText := true, laidKinds := [.data, .data, .data, .data], laidTests := true, laidLooks := .later }
def ShapesThereCardSaid : Prop := Claim7.holds Tryz.pinned (.plain (OpenSpec.ofChange shapesThereSpec)) shapesThereCard

/-- THE TIED CARD OF 'gussetlaw34.ShapesMass'. -/
def shapesMassCard : Claim7 := { stood := { row := shapesMassRow, standIns := [], harness := (true, "a58b572030d10f9a3c4f261ca4dfe6f83ef195c1cf5b55b47f0f623ab0438db7"), looks := false }, kinds := [], alts := [], laidByText := true, laidKinds := [.data, .data, .data, .data], laidTests := true, laidLooks := .later }
def ShapesMassCardSaid : Prop := Claim7.holds Tryz.pinned (.plain (OpenSpec.ofChange shapesMassSpec)) shapesMassCard

/-- THE TIED CARD OF 'gussetlaw34.ShapesSum'. -/
def shapesSumCard : Claim7 := { stood := { row := shapesSumRow, standIns := [], harness := (true, "a58b572030d10f9a3c4f261ca4dfe6f83ef195c1cf5b55b47f0f623ab0438db7"), looks := false }, kinds := [], alts := [], laidByText := true, laidKinds := [.data, .data, .data, .data], laidTests := true, laidLooks := .later }
def ShapesSumCardSaid : Prop := Claim7.holds Tryz.pinned (.plain (OpenSpec.ofChange shapesSumSpec)) shapesSumCard

/-- THE TIED CARD OF 'gussetlaw34.ShapesProducts'. -/
def shapesProductsCard : Claim7 := { stood := { row := shapesProductsRow, standIns := [], harness := (true, "a58b572030d10f9a3c4f261ca4dfe6f83ef195c1cf5b55b47f0f623ab0438db7"), looks := false }, kinds := [], alts := [], laidByText := true, laidKinds := [.data, .data, .data, .data], laidTests := true, laidLooks := .later }
def ShapesProductsCardSaid : Prop := Claim7.holds Tryz.pinned (.plain (OpenSpec.ofChange shapesProductsSpec)) shapesProductsCard

/-- THE TIED CARD OF 'gussetlaw34.ShapesTensor'. -/
def shapesTensorCard : Claim7 := { stood := { row := shapesTensorRow, standIns := [], harness := (true, "a58b572030d10f9a3c4f261ca4dfe6f83ef195c1cf5b55b47f0f623ab0438db7"), looks := false }, kinds := [], alts := [], laidByText := true, laidKinds := [.data, .data, .data, .data], laidTests := true, laidLooks := .later }
def ShapesTensorCardSaid : Prop := Claim7.holds Tryz.pinned (.plain (OpenSpec.ofChange shapesTensorSpec)) shapesTensorCard

/-- THE TIED CARD OF 'gussetlaw34.ShapesMade'. -/
def shapesMadeCard : Claim7 := { stood := { row := shapesMadeRow, standIns := [], harness := (true, "a58b572030d10f9a3c4f261ca4dfe6f83ef195c1cf5b55b47f0f623ab0438db7"), looks := false }, kinds := [], alts := [], laidByText := true, laidKinds := [.data, .data, .data, .data], laidTests := true, laidLooks := .later }
def ShapesMadeCardSaid : Prop := Claim7.holds Tryz.pinned (.plain (OpenSpec.ofChange shapesMadeSpec)) shapesMadeCard

/-- THE TIED CARD OF 'gussetlaw34.ShapesNodes'. -/
def shapesNodesCard : Claim7 := { stood := { row := shapesNodesRow, standIns := [], harness := (true, "a58b572030d10f9a3c4f261ca4dfe6f83ef195c1cf5b55b47f0f623ab0438db7"), looks := false }, kinds := [], alts := [], laidByText := true, laidKinds := [.data, .data, .data, .data], laidTests := true, laidLooks := .later }
def ShapesNodesCardSaid : Prop := Claim7.holds Tryz.pinned (.plain (OpenSpec.ofChange shapesNodesSpec)) shapesNodesCard

/-- THE TIED CARD OF 'gussetlaw34.ShapesPolys'. -/
def shapesPolysCard : Claim7 := { stood := { row := shapesPolysRow, standIns := [], harness := (true, "a58b572030d10f9a3c4f261ca4dfe6f83ef195c1cf5b55b47f0f623ab0438db7"), looks := false }, kinds := [], alts := [], laidByText := true, laidKinds := [.data, .data, .data, .data], laidTests := true, laidLooks := .later }
def ShapesPolysCardSaid : Prop := Claim7.holds Tryz.pinned (.plain (OpenSpec.ofChange shapesPolysSpec)) shapesPolysCard

/-- THE SECOND FORM's CARD OF 'gussetlaw34.ShapesThere'. -/
def shapesThereUptoCard : Claim7 := { stood := { row := shapesThereUptoRow, standIns := [], harness := (true, "a58b572030d10f9a3c4f261ca4dfe6f83ef195c1cf5b55b47f0f623ab0438db7"), looks := false }, kinds := [], alts := [], laidByText := true, laidKinds := [.data, .data, .data, .data], laidTests := true, laidLooks := .later }
def ShapesThereUptoCardSaid : Prop := Claim7.holds Tryz.pinned (.plain (OpenSpec.upto shapesThereSpec)) shapesThereUptoCard

/-- THE SECOND FORM's CARD OF 'gussetlaw34.ShapesMass'. -/
def shapesMassUptoCard : Claim7 := { stood := { row := shapesMassUptoRow, standIns := [], harness := (true, "a58b572030d10f9a3c4f261ca4dfe6f83ef195c1cf5b55b47f0f623ab0438db7"), looks := false }, kinds := [], alts := [], laidByText := true, laidKinds := [.data, .data, .data, .data], laidTests := true, laidLooks := .later }
def ShapesMassUptoCardSaid : Prop := Claim7.holds Tryz.pinned (.plain (OpenSpec.upto shapesMassSpec)) shapesMassUptoCard

/-- THE SECOND FORM's CARD OF 'gussetlaw34.ShapesSum'. -/
def shapesSumUptoCard : Claim7 := { stood := { row := shapesSumUptoRow, standIns := [], harness := (true, "a58b572030d10f9a3c4f261ca4dfe6f83ef195c1cf5b55b47f0f623ab0438db7"), looks := false }, kinds := [], alts := [], laidByText := true, laidKinds := [.data, .data, .data, .data], laidTests := true, laidLooks := .later }
def ShapesSumUptoCardSaid : Prop := Claim7.holds Tryz.pinned (.plain (OpenSpec.upto shapesSumSpec)) shapesSumUptoCard

/-- THE SECOND FORM's CARD OF 'gussetlaw34.ShapesProducts'. -/
def shapesProductsUptoCard : Claim7 := { stood := { row := shapesProductsUptoRow, standIns := [], harness := (true, "a58b572030d10f9a3c4f261ca4dfe6f83ef195c1cf5b55b47f0f623ab0438db7"), looks := false }, kinds := [], alts := [], laidByText := true, laidKinds := [.data, .data, .data, .data], laidTests := true, laidLooks := .later }
def ShapesProductsUptoCardSaid : Prop := Claim7.holds Tryz.pinned (.plain (OpenSpec.upto shapesProductsSpec)) shapesProductsUptoCard

/-- THE SECOND FORM's CARD OF 'gussetlaw34.ShapesTensor'. -/
def shapesTensorUptoCard : Claim7 := { stood := { row := shapesTensorUptoRow, standIns := [], harness := (true, "a58b572030d10f9a3c4f261ca4dfe6f83ef195c1cf5b55b47f0f623ab0438db7"), looks := false }, kinds := [], alts := [], laidByText := true, laidKinds := [.data, .data, .data, .data], laidTests := true, laidLooks := .later }
def ShapesTensorUptoCardSaid : Prop := Claim7.holds Tryz.pinned (.plain (OpenSpec.upto shapesTensorSpec)) shapesTensorUptoCard

/-- THE SECOND FORM's CARD OF 'gussetlaw34.ShapesMade'. -/
def shapesMadeUptoCard : Claim7 := { stood := { row := shapesMadeUptoRow, standIns := [], harness := (true, "a58b572030d10f9a3c4f261ca4dfe6f83ef195c1cf5b55b47f0f623ab0438db7"), looks := false }, kinds := [], alts := [], laidByText := true, laidKinds := [.data, .data, .data, .data], laidTests := true, laidLooks := .later }
def ShapesMadeUptoCardSaid : Prop := Claim7.holds Tryz.pinned (.plain (OpenSpec.upto shapesMadeSpec)) shapesMadeUptoCard

/-- THE SECOND FORM's CARD OF 'gussetlaw34.ShapesNodes'. -/
def shapesNodesUptoCard : Claim7 := { stood := { row := shapesNodesUptoRow, standIns := [], harness := (true, "a58b572030d10f9a3c4f261ca4dfe6f83ef195c1cf5b55b47f0f623ab0438db7"), looks := false }, kinds := [], alts := [], laidByText := true, laidKinds := [.data, .data, .data, .data], laidTests := true, laidLooks := .later }
def ShapesNodesUptoCardSaid : Prop := Claim7.holds Tryz.pinned (.plain (OpenSpec.upto shapesNodesSpec)) shapesNodesUptoCard

/-- THE SECOND FORM's CARD OF 'gussetlaw34.ShapesPolys'. -/
def shapesPolysUptoCard : Claim7 := { stood := { row := shapesPolysUptoRow, standIns := [], harness := (true, "a58b572030d10f9a3c4f261ca4dfe6f83ef195c1cf5b55b47f0f623ab0438db7"), looks := false }, kinds := [], alts := [], laidByText := true, laidKinds := [.data, .data, .data, .data], laidTests := true, laidLooks := .later }
def ShapesPolysUptoCardSaid : Prop := Claim7.holds Tryz.pinned (.plain (OpenSpec.upto shapesPolysSpec)) shapesPolysUptoCard
end Rows
end Go.Proofs.YtdcaodkjofkmgaaGreatDoor
