/-
  DERIVED. GIVEN WITH THE SEED: THE CARDS: each row of YtgbmhofpndjdoaaGreatDoorRows.lean that lists a variable, with what it lists TIED to the program's text (the seventh form; the later family's looks); each row that meets fmt, with fmt's text TOLD by the authors' own Lean function (tested against real Go, not proved from fmt's source: count such statements apart). THE CARD IS WHAT COUNTS. Prove the row's statement (the work); the ties are given (YtgbmhofpndjdoaaGreatDoorTie.lean); close each card by the builder's one call (the guide's Derived/Test/ToyasCard.lean, 'card_holds'). Laid BY PROGRAM, IN A SANDBOX (cutbox-door.mjs). By AI agents, Wed Nov 11 2026. No macro, syntax, notation, axiom, sorry.
-/
import Derived.Test.YtgbmhofpndjdoaaGreatDoorRows
import GoSem.ClaimSeven
namespace Go.Proofs.YtgbmhofpndjdoaaGreatDoor
namespace Rows

/-- THE TIED CARD OF 'halationlaw04.ImageBytes'. -/
def imageBytesCard : Claim7 := { stood := { row := imageBytesRow, standIns := [], harness := (true, "47b693bda246c1c9613a75da3a0118561ee6bcc2ec34998d3f5c399ab10df9b5"), looks := false }, kinds := [], alts := [], laidByText := true, laidKinds := [.data, .funcs], laidTests := true, laidLooks := .later }
def ImageBytesCardSaid : Prop := Claim7.holds Tryz.pinned (.plain (OpenSpec.ofChange imageBytesSpec)) imageBytesCard

/-- THE TIED CARD OF 'halationlaw04.ImageEdges'. -/
def imageEdgesCard : Claim7 := { stood := { row := imageEdgesRow, standIns := [], harness := (true, "47b693bda246c1c9613a75da3a0118561ee6bcc2ec34998d3f5c399ab10df9b5"), looks := false }, kinds := [], alts := [], laidByText := true, laidKinds := [.data, .funcs], laidTests := true, laidLooks := .later }
def ImageEdgesCardSaid : Prop := Claim7.holds Tryz.pinned (.plain (OpenSpec.ofChange imageEdgesSpec)) imageEdgesCard

/-- THE TIED CARD OF 'halationlaw04.ImageParts'. -/
def imagePartsCard : Claim7 := { stood := { row := imagePartsRow, standIns := [], harness := (true, "47b693bda246c1c9613a75da3a0118561ee6bcc2ec34998d3f5c399ab10df9b5"), looks := false }, kinds := [], alts := [], laidByText := true, laidKinds := [.data, .funcs], laidTests := true, laidLooks := .later }
def ImagePartsCardSaid : Prop := Claim7.holds Tryz.pinned (.plain (OpenSpec.ofChange imagePartsSpec)) imagePartsCard

/-- THE TIED CARD OF 'halationlaw04.ImageElements'. -/
def imageElementsCard : Claim7 := { stood := { row := imageElementsRow, standIns := [], harness := (true, "47b693bda246c1c9613a75da3a0118561ee6bcc2ec34998d3f5c399ab10df9b5"), looks := false }, kinds := [], alts := [], laidByText := true, laidKinds := [.data, .funcs], laidTests := true, laidLooks := .later }
def ImageElementsCardSaid : Prop := Claim7.holds Tryz.pinned (.plain (OpenSpec.ofChange imageElementsSpec)) imageElementsCard

/-- THE SECOND FORM's CARD OF 'halationlaw04.ImageBytes'. -/
def imageBytesUptoCard : Claim7 := { stood := { row := imageBytesUptoRow, standIns := [], harness := (true, "47b693bda246c1c9613a75da3a0118561ee6bcc2ec34998d3f5c399ab10df9b5"), looks := false }, kinds := [], alts := [], laidByText := true, laidKinds := [.data, .funcs], laidTests := true, laidLooks := .later }
def ImageBytesUptoCardSaid : Prop := Claim7.holds Tryz.pinned (.plain (OpenSpec.upto imageBytesSpec)) imageBytesUptoCard

/-- THE SECOND FORM's CARD OF 'halationlaw04.ImageEdges'. -/
def imageEdgesUptoCard : Claim7 := { stood := { row := imageEdgesUptoRow, standIns := [], harness := (true, "47b693bda246c1c9613a75da3a0118561ee6bcc2ec34998d3f5c399ab10df9b5"), looks := false }, kinds := [], alts := [], laidByText := true, laidKinds := [.data, .funcs], laidTests := true, laidLooks := .later }
def ImageEdgesUptoCardSaid : Prop := Claim7.holds Tryz.pinned (.plain (OpenSpec.upto imageEdgesSpec)) imageEdgesUptoCard

/-- THE SECOND FORM's CARD OF 'halationlaw04.ImageParts'. -/
def imagePartsUptoCard : Claim7 := { stood := { row := imagePartsUptoRow, standIns := [], harness := (true, "47b693bda246c1c9613a75da3a0118561ee6bcc2ec34998d3f5c399ab10df9b5"), looks := false }, kinds := [], alts := [], laidByText := true, laidKinds := [.data, .funcs], laidTests := true, laidLooks := .later }
def ImagePartsUptoCardSaid : Prop := Claim7.holds Tryz.pinned (.plain (OpenSpec.upto imagePartsSpec)) imagePartsUptoCard

/-- THE SECOND FORM's CARD OF 'halationlaw04.ImageElements'. -/
def imageElementsUptoCard : Claim7 := { stood := { row := imageElementsUptoRow, standIns := [], harness := (true, "47b693bda246c1c9613a75da3a0118561ee6bcc2ec34998d3f5c399ab10df9b5"), looks := false }, kinds := [], alts := [], laidByText := true, laidKinds := [.data, .funcs], laidTests := true, laidLooks := .later }
def ImageElementsUptoCardSaid : Prop := Claim7.holds Tryz.pinned (.plain (OpenSpec.upto imageElementsSpec)) imageElementsUptoCard
end Rows
end Go.Proofs.YtgbmhofpndjdoaaGreatDoor
