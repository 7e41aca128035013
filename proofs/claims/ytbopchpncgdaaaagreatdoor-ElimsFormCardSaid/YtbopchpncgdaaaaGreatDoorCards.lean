/-
  DERIVED. GIVEN WITH THE SEED: THE CARDS: each row of YtbopchpncgdaaaaGreatDoorRows.lean that lists a variable, with what it lists TIED to the program's text (the seventh form; the later family's looks); each row that meets fmt, with fmt's text TOLD by the authors' own Lean function (tested against real Go, not proved from fmt's source: count such statements apart). THE CARD IS WHAT COUNTS. Prove the row's statement (the work); the ties are given (YtbopchpncgdaaaaGreatDoorTie.lean); close each card by the builder's one call (the guide's Derived/Test/ToyasCard.lean, 'card_holds'). Laid BY PROGRAM, IN A SANDBOX (cutbox-door.mjs). By AI agents, Wed Nov 11 2026. No macro, syntax, notation, axiom, sorry.
-/
import Derived.Test.YtbopchpncgdaaaaGreatDoorRows
import GoSem.ClaimSeven
namespace Go.Proofs.YtbopchpncgdaaaaGreatDoor
namespace Rows

/-- THE TIED CARD OF 'gussetlaw14.ElimsErrors'. -/
def elimsErrorsCard : Claim7 := { stood := { row := elimsErrorsRow, standIns := [], harness := (true, "61d4a4bde417d6e7faa5e3d6edd43bd70dd79bf3598c1eb24c68fc9dea351f94"), looks := false }, kinds := [], alts := [], laidByText := true, laidKinds := [.data, .data, .data], laidTests := true, laidLooks := .later }
def ElimsErrorsCardSaid : Prop := Claim7.holds Tryz.pinned (.plain (OpenSpec.ofChange elimsErrorsSpec)) elimsErrorsCard

/-- THE TIED CARD OF 'gussetlaw14.ElimsReduces'. -/
def elimsReducesCard : Claim7 := { stood := { row := elimsReducesRow, standIns := [], harness := (true, "61d4a4bde417d6e7faa5e3d6edd43bd70dd79bf3598c1eb24c68fc9dea351f94"), looks := false }, kinds := [], alts := [], laidByText := true, laidKinds := [.data, .data, .data], laidTests := true, laidLooks := .later }
def ElimsReducesCardSaid : Prop := Claim7.holds Tryz.pinned (.plain (OpenSpec.ofChange elimsReducesSpec)) elimsReducesCard

/-- THE TIED CARD OF 'gussetlaw14.ElimsForm'. -/
def elimsFormCard : Claim7 := { stood := { row := elimsFormRow, standIns := [], harness := (true, "61d4a4bde417d6e7faa5e3d6edd43bd70dd79bf3598c1eb24c68fc9dea351f94"), looks := false }, kinds := [], alts := [], laidByText := true, laidKinds := [.data, .data, .data], laidTests := true, laidLooks := .later }
def ElimsFormCardSaid : Prop := Claim7.holds Tryz.pinned (.plain (OpenSpec.ofChange elimsFormSpec)) elimsFormCard

/-- THE TIED CARD OF 'gussetlaw14.ElimsDet'. -/
def elimsDetCard : Claim7 := { stood := { row := elimsDetRow, standIns := [], harness := (true, "61d4a4bde417d6e7faa5e3d6edd43bd70dd79bf3598c1eb24c68fc9dea351f94"), looks := false }, kinds := [], alts := [], laidByText := true, laidKinds := [.data, .data, .data], laidTests := true, laidLooks := .later }
def ElimsDetCardSaid : Prop := Claim7.holds Tryz.pinned (.plain (OpenSpec.ofChange elimsDetSpec)) elimsDetCard

/-- THE TIED CARD OF 'gussetlaw15.BareissClear'. -/
def bareissClearCard : Claim7 := { stood := { row := bareissClearRow, standIns := [], harness := (true, "61d4a4bde417d6e7faa5e3d6edd43bd70dd79bf3598c1eb24c68fc9dea351f94"), looks := false }, kinds := [], alts := [], laidByText := true, laidKinds := [.data, .data, .data], laidTests := true, laidLooks := .later }
def BareissClearCardSaid : Prop := Claim7.holds Tryz.pinned (.plain (OpenSpec.ofChange bareissClearSpec)) bareissClearCard

/-- THE TIED CARD OF 'gussetlaw14.ElimsRank'. -/
def elimsRankCard : Claim7 := { stood := { row := elimsRankRow, standIns := [], harness := (true, "61d4a4bde417d6e7faa5e3d6edd43bd70dd79bf3598c1eb24c68fc9dea351f94"), looks := false }, kinds := [], alts := [], laidByText := true, laidKinds := [.data, .data, .data], laidTests := true, laidLooks := .later }
def ElimsRankCardSaid : Prop := Claim7.holds Tryz.pinned (.plain (OpenSpec.ofChange elimsRankSpec)) elimsRankCard

/-- THE TIED CARD OF 'gussetlaw14.ElimsKernel'. -/
def elimsKernelCard : Claim7 := { stood := { row := elimsKernelRow, standIns := [], harness := (true, "61d4a4bde417d6e7faa5e3d6edd43bd70dd79bf3598c1eb24c68fc9dea351f94"), looks := false }, kinds := [], alts := [], laidByText := true, laidKinds := [.data, .data, .data], laidTests := true, laidLooks := .later }
def ElimsKernelCardSaid : Prop := Claim7.holds Tryz.pinned (.plain (OpenSpec.ofChange elimsKernelSpec)) elimsKernelCard

/-- THE TIED CARD OF 'gussetlaw14.ElimsFredholm'. -/
def elimsFredholmCard : Claim7 := { stood := { row := elimsFredholmRow, standIns := [], harness := (true, "61d4a4bde417d6e7faa5e3d6edd43bd70dd79bf3598c1eb24c68fc9dea351f94"), looks := false }, kinds := [], alts := [], laidByText := true, laidKinds := [.data, .data, .data], laidTests := true, laidLooks := .later }
def ElimsFredholmCardSaid : Prop := Claim7.holds Tryz.pinned (.plain (OpenSpec.ofChange elimsFredholmSpec)) elimsFredholmCard

/-- THE TIED CARD OF 'gussetlaw15.BareissCramer'. -/
def bareissCramerCard : Claim7 := { stood := { row := bareissCramerRow, standIns := [], harness := (true, "61d4a4bde417d6e7faa5e3d6edd43bd70dd79bf3598c1eb24c68fc9dea351f94"), looks := false }, kinds := [], alts := [], laidByText := true, laidKinds := [.data, .data, .data], laidTests := true, laidLooks := .later }
def BareissCramerCardSaid : Prop := Claim7.holds Tryz.pinned (.plain (OpenSpec.ofChange bareissCramerSpec)) bareissCramerCard

/-- THE TIED CARD OF 'gussetlaw14.ElimsInverse'. -/
def elimsInverseCard : Claim7 := { stood := { row := elimsInverseRow, standIns := [], harness := (true, "61d4a4bde417d6e7faa5e3d6edd43bd70dd79bf3598c1eb24c68fc9dea351f94"), looks := false }, kinds := [], alts := [], laidByText := true, laidKinds := [.data, .data, .data], laidTests := true, laidLooks := .later }
def ElimsInverseCardSaid : Prop := Claim7.holds Tryz.pinned (.plain (OpenSpec.ofChange elimsInverseSpec)) elimsInverseCard

/-- THE SECOND FORM's CARD OF 'gussetlaw14.ElimsErrors'. -/
def elimsErrorsUptoCard : Claim7 := { stood := { row := elimsErrorsUptoRow, standIns := [], harness := (true, "61d4a4bde417d6e7faa5e3d6edd43bd70dd79bf3598c1eb24c68fc9dea351f94"), looks := false }, kinds := [], alts := [], laidByText := true, laidKinds := [.data, .data, .data], laidTests := true, laidLooks := .later }
def ElimsErrorsUptoCardSaid : Prop := Claim7.holds Tryz.pinned (.plain (OpenSpec.upto elimsErrorsSpec)) elimsErrorsUptoCard

/-- THE SECOND FORM's CARD OF 'gussetlaw14.ElimsReduces'. -/
def elimsReducesUptoCard : Claim7 := { stood := { row := elimsReducesUptoRow, standIns := [], harness := (true, "61d4a4bde417d6e7faa5e3d6edd43bd70dd79bf3598c1eb24c68fc9dea351f94"), looks := false }, kinds := [], alts := [], laidByText := true, laidKinds := [.data, .data, .data], laidTests := true, laidLooks := .later }
def ElimsReducesUptoCardSaid : Prop := Claim7.holds Tryz.pinned (.plain (OpenSpec.upto elimsReducesSpec)) elimsReducesUptoCard

/-- THE SECOND FORM's CARD OF 'gussetlaw14.ElimsForm'. -/
def elimsFormUptoCard : Claim7 := { stood := { row := elimsFormUptoRow, standIns := [], harness := (true, "61d4a4bde417d6e7faa5e3d6edd43bd70dd79bf3598c1eb24c68fc9dea351f94"), looks := false }, kinds := [], alts := [], laidByText := true, laidKinds := [.data, .data, .data], laidTests := true, laidLooks := .later }
def ElimsFormUptoCardSaid : Prop := Claim7.holds Tryz.pinned (.plain (OpenSpec.upto elimsFormSpec)) elimsFormUptoCard

/-- THE SECOND FORM's CARD OF 'gussetlaw14.ElimsDet'. -/
def elimsDetUptoCard : Claim7 := { stood := { row := elimsDetUptoRow, standIns := [], harness := (true, "61d4a4bde417d6e7faa5e3d6edd43bd70dd79bf3598c1eb24c68fc9dea351f94"), looks := false }, kinds := [], alts := [], laidByText := true, laidKinds := [.data, .data, .data], laidTests := true, laidLooks := .later }
def ElimsDetUptoCardSaid : Prop := Claim7.holds Tryz.pinned (.plain (OpenSpec.upto elimsDetSpec)) elimsDetUptoCard

/-- THE SECOND FORM's CARD OF 'gussetlaw15.BareissClear'. -/
def bareissClearUptoCard : Claim7 := { stood := { row := bareissClearUptoRow, standIns := [], harness := (true, "61d4a4bde417d6e7faa5e3d6edd43bd70dd79bf3598c1eb24c68fc9dea351f94"), looks := false }, kinds := [], alts := [], laidByText := true, laidKinds := [.data, .data, .data], laidTests := true, laidLooks := .later }
def BareissClearUptoCardSaid : Prop := Claim7.holds Tryz.pinned (.plain (OpenSpec.upto bareissClearSpec)) bareissClearUptoCard

/-- THE SECOND FORM's CARD OF 'gussetlaw14.ElimsRank'. -/
def elimsRankUptoCard : Claim7 := { stood := { row := elimsRankUptoRow, standIns := [], harness := (true, "61d4a4bde417d6e7faa5e3d6edd43bd70dd79bf3598c1eb24c68fc9dea351f94"), looks := false }, kinds := [], alts := [], laidByText := true, laidKinds := [.data, .data, .data], laidTests := true, laidLooks := .later }
def ElimsRankUptoCardSaid : Prop := Claim7.holds Tryz.pinned (.plain (OpenSpec.upto elimsRankSpec)) elimsRankUptoCard

/-- THE SECOND FORM's CARD OF 'gussetlaw14.ElimsKernel'. -/
def elimsKernelUptoCard : Claim7 := { stood := { row := elimsKernelUptoRow, standIns := [], harness := (true, "61d4a4bde417d6e7faa5e3d6edd43bd70dd79bf3598c1eb24c68fc9dea351f94"), looks := false }, kinds := [], alts := [], laidByText := true, laidKinds := [.data, .data, .data], laidTests := true, laidLooks := .later }
def ElimsKernelUptoCardSaid : Prop := Claim7.holds Tryz.pinned (.plain (OpenSpec.upto elimsKernelSpec)) elimsKernelUptoCard

/-- THE SECOND FORM's CARD OF 'gussetlaw14.ElimsFredholm'. -/
def elimsFredholmUptoCard : Claim7 := { stood := { row := elimsFredholmUptoRow, standIns := [], harness := (true, "61d4a4bde417d6e7faa5e3d6edd43bd70dd79bf3598c1eb24c68fc9dea351f94"), looks := false }, kinds := [], alts := [], laidByText := true, laidKinds := [.data, .data, .data], laidTests := true, laidLooks := .later }
def ElimsFredholmUptoCardSaid : Prop := Claim7.holds Tryz.pinned (.plain (OpenSpec.upto elimsFredholmSpec)) elimsFredholmUptoCard

/-- THE SECOND FORM's CARD OF 'gussetlaw15.BareissCramer'. -/
def bareissCramerUptoCard : Claim7 := { stood := { row := bareissCramerUptoRow, standIns := [], harness := (true, "61d4a4bde417d6e7faa5e3d6edd43bd70dd79bf3598c1eb24c68fc9dea351f94"), looks := false }, kinds := [], alts := [], laidByText := true, laidKinds := [.data, .data, .data], laidTests := true, laidLooks := .later }
def BareissCramerUptoCardSaid : Prop := Claim7.holds Tryz.pinned (.plain (OpenSpec.upto bareissCramerSpec)) bareissCramerUptoCard

/-- THE SECOND FORM's CARD OF 'gussetlaw14.ElimsInverse'. -/
def elimsInverseUptoCard : Claim7 := { stood := { row := elimsInverseUptoRow, standIns := [], harness := (true, "61d4a4bde417d6e7faa5e3d6edd43bd70dd79bf3598c1eb24c68fc9dea351f94"), looks := false }, kinds := [], alts := [], laidByText := true, laidKinds := [.data, .data, .data], laidTests := true, laidLooks := .later }
def ElimsInverseUptoCardSaid : Prop := Claim7.holds Tryz.pinned (.plain (OpenSpec.upto elimsInverseSpec)) elimsInverseUptoCard
end Rows
end Go.Proofs.YtbopchpncgdaaaaGreatDoor
