/-
  DERIVED. GIVEN WITH THE SEED: THE CARDS: each row of YtfhjkkjaaeohhaaDoorRows.lean that lists a variable, with what it lists TIED to the program's text (the seventh form; the later family's looks); each row that meets fmt, with fmt's text TOLD by the authors' own Lean function (tested against real Go, not proved from fmt's source: count such statements apart). THE CARD IS WHAT COUNTS. Prove the row's statement (the work); the ties are given (YtfhjkkjaaeohhaaDoorTie.lean); close each card by the builder's one call (the guide's Derived/Test/ToyasCard.lean, 'card_holds'). Laid BY PROGRAM, IN A SANDBOX (cutbox-door.mjs). By AI agents, Wed Nov 11 2026. No macro, syntax, notation, axiom, sorry.
-/
import Derived.Test.YtfhjkkjaaeohhaaDoorRows
import GoSem.ClaimSeven
namespace Go.Proofs.YtfhjkkjaaeohhaaDoor
namespace Rows

/-- THE TIED CARD OF 'halationlaw12.ProveDecides'. -/
def proveDecidesCard : Claim7 := { stood := { row := proveDecidesRow, standIns := [], harness := (true, "ee78f3fea5e62ac867fb12881a9742dfec09454aa8e9067a5bd6c84d4de512dc"), looks := false }, kinds := [], alts := [], laidByText := true, laidKinds := [.funcs], laidTests := true, laidLooks := .later }
def ProveDecidesCardSaid : Prop := Claim7.holds Tryd.pinned (.plain (OpenSpec.ofChange proveDecidesSpec)) proveDecidesCard

/-- THE TIED CARD OF 'halationlaw12.ProveHolds'. -/
def proveHoldsCard : Claim7 := { stood := { row := proveHoldsRow, standIns := [], harness := (true, "ee78f3fea5e62ac867fb12881a9742dfec09454aa8e9067a5bd6c84d4de512dc"), looks := false }, kinds := [], alts := [], laidByText := true, laidKinds := [.funcs], laidTests := true, laidLooks := .later }
def ProveHoldsCardSaid : Prop := Claim7.holds Tryd.pinned (.plain (OpenSpec.ofChange proveHoldsSpec)) proveHoldsCard

/-- THE TIED CARD OF 'halationlaw12.ProveChecks'. -/
def proveChecksCard : Claim7 := { stood := { row := proveChecksRow, standIns := [], harness := (true, "ee78f3fea5e62ac867fb12881a9742dfec09454aa8e9067a5bd6c84d4de512dc"), looks := false }, kinds := [], alts := [], laidByText := true, laidKinds := [.funcs], laidTests := true, laidLooks := .later }
def ProveChecksCardSaid : Prop := Claim7.holds Tryd.pinned (.plain (OpenSpec.ofChange proveChecksSpec)) proveChecksCard

/-- THE TIED CARD OF 'halationlaw12.ProveValues'. -/
def proveValuesCard : Claim7 := { stood := { row := proveValuesRow, standIns := [], harness := (true, "ee78f3fea5e62ac867fb12881a9742dfec09454aa8e9067a5bd6c84d4de512dc"), looks := false }, kinds := [], alts := [], laidByText := true, laidKinds := [.funcs], laidTests := true, laidLooks := .later }
def ProveValuesCardSaid : Prop := Claim7.holds Tryd.pinned (.plain (OpenSpec.ofChange proveValuesSpec)) proveValuesCard

/-- THE TIED CARD OF 'halationlaw12.ProveEnds'. -/
def proveEndsCard : Claim7 := { stood := { row := proveEndsRow, standIns := [], harness := (true, "ee78f3fea5e62ac867fb12881a9742dfec09454aa8e9067a5bd6c84d4de512dc"), looks := false }, kinds := [], alts := [], laidByText := true, laidKinds := [.funcs], laidTests := true, laidLooks := .later }
def ProveEndsCardSaid : Prop := Claim7.holds Tryd.pinned (.plain (OpenSpec.ofChange proveEndsSpec)) proveEndsCard

/-- THE SECOND FORM's CARD OF 'halationlaw12.ProveDecides'. -/
def proveDecidesUptoCard : Claim7 := { stood := { row := proveDecidesUptoRow, standIns := [], harness := (true, "ee78f3fea5e62ac867fb12881a9742dfec09454aa8e9067a5bd6c84d4de512dc"), looks := false }, kinds := [], alts := [], laidByText := true, laidKinds := [.funcs], laidTests := true, laidLooks := .later }
def ProveDecidesUptoCardSaid : Prop := Claim7.holds Tryd.pinned (.plain (OpenSpec.upto proveDecidesSpec)) proveDecidesUptoCard

/-- THE SECOND FORM's CARD OF 'halationlaw12.ProveHolds'. -/
def proveHoldsUptoCard : Claim7 := { stood := { row := proveHoldsUptoRow, standIns := [], harness := (true, "ee78f3fea5e62ac867fb12881a9742dfec09454aa8e9067a5bd6c84d4de512dc"), looks := false }, kinds := [], alts := [], laidByText := true, laidKinds := [.funcs], laidTests := true, laidLooks := .later }
def ProveHoldsUptoCardSaid : Prop := Claim7.holds Tryd.pinned (.plain (OpenSpec.upto proveHoldsSpec)) proveHoldsUptoCard

/-- THE SECOND FORM's CARD OF 'halationlaw12.ProveChecks'. -/
def proveChecksUptoCard : Claim7 := { stood := { row := proveChecksUptoRow, standIns := [], harness := (true, "ee78f3fea5e62ac867fb12881a9742dfec09454aa8e9067a5bd6c84d4de512dc"), looks := false }, kinds := [], alts := [], laidByText := true, laidKinds := [.funcs], laidTests := true, laidLooks := .later }
def ProveChecksUptoCardSaid : Prop := Claim7.holds Tryd.pinned (.plain (OpenSpec.upto proveChecksSpec)) proveChecksUptoCard

/-- THE SECOND FORM's CARD OF 'halationlaw12.ProveValues'. -/
def proveValuesUptoCard : Claim7 := { stood := { row := proveValuesUptoRow, standIns := [], harness := (true, "ee78f3fea5e62ac867fb12881a9742dfec09454aa8e9067a5bd6c84d4de512dc"), looks := false }, kinds := [], alts := [], laidByText := true, laidKinds := [.funcs], laidTests := true, laidLooks := .later }
def ProveValuesUptoCardSaid : Prop := Claim7.holds Tryd.pinned (.plain (OpenSpec.upto proveValuesSpec)) proveValuesUptoCard

/-- THE SECOND FORM's CARD OF 'halationlaw12.ProveEnds'. -/
def proveEndsUptoCard : Claim7 := { stood := { row := proveEndsUptoRow, standIns := [], harness := (true, "ee78f3fea5e62ac867fb12881a9742dfec09454aa8e9067a5bd6c84d4de512dc"), looks := false }, kinds := [], alts := [], laidByText := true, laidKinds := [.funcs], laidTests := true, laidLooks := .later }
def ProveEndsUptoCardSaid : Prop := Claim7.holds Tryd.pinned (.plain (OpenSpec.upto proveEndsSpec)) proveEndsUptoCard
end Rows
end Go.Proofs.YtfhjkkjaaeohhaaDoor
