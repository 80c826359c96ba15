/-
  DERIVED. GIVEN WITH THE SEED: THE CARDS: each row of YtgbmhofpndjdoaaDoorRows.lean that lists a variable, with what it lists TIED to the program's text (the seventh form; the later family's looks); each row that meets fmt, with fmt's text TOLD by the authors' own Lean function (tested against real Go, not proved from fmt's source: count such statements apart). THE CARD IS WHAT COUNTS. Prove the row's statement (the work); the ties are given (YtgbmhofpndjdoaaDoorTie.lean); close each card by the builder's one call (the guide's Derived/Test/ToyasCard.lean, 'card_holds'). Laid BY PROGRAM, IN A SANDBOX (cutbox-door.mjs). By AI agents, Wed Nov 11 2026. No macro, syntax, notation, axiom, sorry.
-/
import Derived.Test.YtgbmhofpndjdoaaDoorRows
import GoSem.ClaimSeven
namespace Go.Proofs.YtgbmhofpndjdoaaDoor
namespace Rows

/-- THE TIED CARD OF 'halationlaw04.ImageBack'. -/
def imageBackCard : Claim7 := { stood := { row := imageBackRow, standIns := [], harness := (true, "359382384c43234c9f54482ff26339fbdcdd3930ee5da971ef51885eb1764899"), looks := false }, kinds := [], alts := [], laidByText := true, laidKinds := [.data, .funcs], laidTests := true, laidLooks := .later }
def ImageBackCardSaid : Prop := Claim7.holds Tryd.pinned (.plain (OpenSpec.ofChange imageBackSpec)) imageBackCard

/-- THE TIED CARD OF 'halationlaw04.ImageUnions'. -/
def imageUnionsCard : Claim7 := { stood := { row := imageUnionsRow, standIns := [], harness := (true, "359382384c43234c9f54482ff26339fbdcdd3930ee5da971ef51885eb1764899"), looks := false }, kinds := [], alts := [], laidByText := true, laidKinds := [.data, .funcs], laidTests := true, laidLooks := .later }
def ImageUnionsCardSaid : Prop := Claim7.holds Tryd.pinned (.plain (OpenSpec.ofChange imageUnionsSpec)) imageUnionsCard

/-- THE TIED CARD OF 'halationlaw04.ImageBoxes'. -/
def imageBoxesCard : Claim7 := { stood := { row := imageBoxesRow, standIns := [], harness := (true, "359382384c43234c9f54482ff26339fbdcdd3930ee5da971ef51885eb1764899"), looks := false }, kinds := [], alts := [], laidByText := true, laidKinds := [.data, .funcs], laidTests := true, laidLooks := .later }
def ImageBoxesCardSaid : Prop := Claim7.holds Tryd.pinned (.plain (OpenSpec.ofChange imageBoxesSpec)) imageBoxesCard

/-- THE TIED CARD OF 'halationlaw04.ImageSets'. -/
def imageSetsCard : Claim7 := { stood := { row := imageSetsRow, standIns := [], harness := (true, "359382384c43234c9f54482ff26339fbdcdd3930ee5da971ef51885eb1764899"), looks := false }, kinds := [], alts := [], laidByText := true, laidKinds := [.data, .funcs], laidTests := true, laidLooks := .later }
def ImageSetsCardSaid : Prop := Claim7.holds Tryd.pinned (.plain (OpenSpec.ofChange imageSetsSpec)) imageSetsCard

/-- THE SECOND FORM's CARD OF 'halationlaw04.ImageBack'. -/
def imageBackUptoCard : Claim7 := { stood := { row := imageBackUptoRow, standIns := [], harness := (true, "359382384c43234c9f54482ff26339fbdcdd3930ee5da971ef51885eb1764899"), looks := false }, kinds := [], alts := [], laidByText := true, laidKinds := [.data, .funcs], laidTests := true, laidLooks := .later }
def ImageBackUptoCardSaid : Prop := Claim7.holds Tryd.pinned (.plain (OpenSpec.upto imageBackSpec)) imageBackUptoCard

/-- THE SECOND FORM's CARD OF 'halationlaw04.ImageUnions'. -/
def imageUnionsUptoCard : Claim7 := { stood := { row := imageUnionsUptoRow, standIns := [], harness := (true, "359382384c43234c9f54482ff26339fbdcdd3930ee5da971ef51885eb1764899"), looks := false }, kinds := [], alts := [], laidByText := true, laidKinds := [.data, .funcs], laidTests := true, laidLooks := .later }
def ImageUnionsUptoCardSaid : Prop := Claim7.holds Tryd.pinned (.plain (OpenSpec.upto imageUnionsSpec)) imageUnionsUptoCard

/-- THE SECOND FORM's CARD OF 'halationlaw04.ImageBoxes'. -/
def imageBoxesUptoCard : Claim7 := { stood := { row := imageBoxesUptoRow, standIns := [], harness := (true, "359382384c43234c9f54482ff26339fbdcdd3930ee5da971ef51885eb1764899"), looks := false }, kinds := [], alts := [], laidByText := true, laidKinds := [.data, .funcs], laidTests := true, laidLooks := .later }
def ImageBoxesUptoCardSaid : Prop := Claim7.holds Tryd.pinned (.plain (OpenSpec.upto imageBoxesSpec)) imageBoxesUptoCard

/-- THE SECOND FORM's CARD OF 'halationlaw04.ImageSets'. -/
def imageSetsUptoCard : Claim7 := { stood := { row := imageSetsUptoRow, standIns := [], harness := (true, "359382384c43234c9f54482ff26339fbdcdd3930ee5da971ef51885eb1764899"), looks := false }, kinds := [], alts := [], laidByText := true, laidKinds := [.data, .funcs], laidTests := true, laidLooks := .later }
def ImageSetsUptoCardSaid : Prop := Claim7.holds Tryd.pinned (.plain (OpenSpec.upto imageSetsSpec)) imageSetsUptoCard
end Rows
end Go.Proofs.YtgbmhofpndjdoaaDoor
