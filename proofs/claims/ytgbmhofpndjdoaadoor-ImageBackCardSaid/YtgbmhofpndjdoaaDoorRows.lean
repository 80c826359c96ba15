/-
  NARROWER THAN 'FOR EVERY INPUT', by the rows' own cells (each row's printed sentence says how): ImageBack: laid · ImageUnions: laid · ImageBoxes: laid · ImageSets: laid.
  DERIVED. THE GIVEN ROWS OF THIS SEAT. 4 by the template 'for every input the law returns true; each argument reads behind the call as it read before'; 0 by the template 'total and deterministic' (their statements: YtgbmhofpndjdoaaDoorTotals.lean).
  GIVEN WITH THE SEED: the statements are not yours to turn. If you find one false, say at which input.
  Laid BY PROGRAM, IN A SANDBOX (cutbox-rows.mjs): the forced cells as the released guide's own fill.sh prints them over the translation d4d8da33333daae1… (all of the seat's roots in one cut). By AI agents, Wed Nov 11 2026. No macro, syntax, notation, axiom, sorry.
-/
import Derived.Test.YtgbmhofpndjdoaaDoorChecked
import GoSem.Claim
import GoSem.ClaimJoined
import GoSem.ClaimMapViews
import Derived.JoinedTies
import Derived.KernelRfl
namespace Go.Proofs.YtgbmhofpndjdoaaDoor
/- THE CELL 'sum', in the pinned program and in every row, IS THE sha256 OF THE DUMP (.gsa) THAT YtgbmhofpndjdoaaDoorProg.lean LOADS. Nothing in Lean hashes anything: it is a label: what it is worth is what the hold of that sum in a sandbox is worth. -/
noncomputable def Tryd.pinned : Pinned := { name := "ytgbmhofpndjdoaadoor", sum := "d4d8da33333daae1e85c611b17e39727a2c6fa0db986c4617fdb0b12c08cd9aa", checked := Tryd.checked }
namespace Rows
def none {H : Type} : Left H := { results := [], args := [] }

/- WHAT THE LISTED PACKAGE-LEVEL VARIABLES READ AS WHEN THE CALL BEGINS. Each datum BY PROGRAM (the guide's laid-datum.mjs) off the statement by which the dump's own 'gosem.cut.vars' lays the variable. In a bare row this is a premise. The card (YtgbmhofpndjdoaaDoorCards.lean) ties it to the program's text. -/
def laid_halation_num_kinds {H : Type} : DataW H := .agg [.agg [.lit (.string [98, 111, 111, 108]), .lit (.int .i64 1), .lit (.bool false), .lit (.bool false)], .agg [.lit (.string [117, 56]), .lit (.int .i64 8), .lit (.bool true), .lit (.bool false)], .agg [.lit (.string [117, 49, 54]), .lit (.int .i64 16), .lit (.bool true), .lit (.bool false)], .agg [.lit (.string [117, 51, 50]), .lit (.int .i64 32), .lit (.bool true), .lit (.bool false)], .agg [.lit (.string [117, 54, 52]), .lit (.int .i64 64), .lit (.bool true), .lit (.bool false)], .agg [.lit (.string [105, 56]), .lit (.int .i64 8), .lit (.bool true), .lit (.bool true)], .agg [.lit (.string [105, 49, 54]), .lit (.int .i64 16), .lit (.bool true), .lit (.bool true)], .agg [.lit (.string [105, 51, 50]), .lit (.int .i64 32), .lit (.bool true), .lit (.bool true)], .agg [.lit (.string [105, 54, 52]), .lit (.int .i64 64), .lit (.bool true), .lit (.bool true)], .agg [.lit (.string [102, 51, 50]), .lit (.int .i64 32), .lit (.bool false), .lit (.bool false)], .agg [.lit (.string [99, 54, 52]), .lit (.int .i64 64), .lit (.bool false), .lit (.bool false)]]
def laid_halation_image_boundaries {H : Type} : DataW H := .iface "func table" (.agg [.agg [.lit (.int .i64 0), .iface "func" (.lit (.string [104, 97, 108, 97, 116, 105, 111, 110, 47, 105, 109, 97, 103, 101, 46, 98, 111, 117, 110, 100, 97, 114, 105, 101, 115, 36, 49]))], .agg [.lit (.int .i64 1), .iface "func" (.lit (.string [104, 97, 108, 97, 116, 105, 111, 110, 47, 105, 109, 97, 103, 101, 46, 98, 111, 117, 110, 100, 97, 114, 105, 101, 115, 36, 50]))], .agg [.lit (.int .i64 2), .iface "func" (.lit (.string [104, 97, 108, 97, 116, 105, 111, 110, 47, 105, 109, 97, 103, 101, 46, 98, 111, 117, 110, 100, 97, 114, 105, 101, 115, 36, 51]))]])

/-- 'halationlaw04.ImageBack': WHATEVER THE INPUT: true; the input reads as it did. -/
def imageBackSpec : ChangeSpec := { name := "imageBack", fn := fun _ => fun
  | [d1, d2, d3] => { results := [.lit (.bool true)], args := [d1, d2, d3] }
  | _ => none }
def imageBackRow : OpenClaim := { program := "ytgbmhofpndjdoaadoor", sum := "d4d8da33333daae1e85c611b17e39727a2c6fa0db986c4617fdb0b12c08cd9aa", func := "halation/halationlaw04.ImageBack", spec := "imageBack", inPlace := ["math.Float32frombits", "math.Float64bits", "math.Float64frombits", "slices.overlaps[int]"], unfollowed := true, recurses := true, named := ["halation/num.kinds", "halation/image.boundaries"], apart := false, laid := [("halation/num.kinds", laid_halation_num_kinds), ("halation/image.boundaries", laid_halation_image_boundaries)] }
def ImageBackSaid : Prop := imageBackRow.holds Tryd.pinned (OpenSpec.ofChange imageBackSpec)

/-- ITS FALSE NEIGHBOUR: 'it returns false'. Refute it at one input. -/
def imageBackWrong : ChangeSpec := { name := "imageBack", fn := fun _ => fun
  | [d1, d2, d3] => { results := [.lit (.bool false)], args := [d1, d2, d3] }
  | _ => none }
def ImageBackWrongFalsely : Prop := imageBackRow.holds Tryd.pinned (OpenSpec.ofChange imageBackWrong)

/-- 'halationlaw04.ImageUnions': WHATEVER THE INPUT: true; the input reads as it did. -/
def imageUnionsSpec : ChangeSpec := { name := "imageUnions", fn := fun _ => fun
  | [d1, d2] => { results := [.lit (.bool true)], args := [d1, d2] }
  | _ => none }
def imageUnionsRow : OpenClaim := { program := "ytgbmhofpndjdoaadoor", sum := "d4d8da33333daae1e85c611b17e39727a2c6fa0db986c4617fdb0b12c08cd9aa", func := "halation/halationlaw04.ImageUnions", spec := "imageUnions", inPlace := ["math.Float32frombits", "math.Float64bits", "math.Float64frombits", "slices.overlaps[int]"], unfollowed := true, recurses := true, named := ["halation/num.kinds", "halation/image.boundaries"], apart := false, laid := [("halation/num.kinds", laid_halation_num_kinds), ("halation/image.boundaries", laid_halation_image_boundaries)] }
def ImageUnionsSaid : Prop := imageUnionsRow.holds Tryd.pinned (OpenSpec.ofChange imageUnionsSpec)

/-- ITS FALSE NEIGHBOUR: 'it returns false'. Refute it at one input. -/
def imageUnionsWrong : ChangeSpec := { name := "imageUnions", fn := fun _ => fun
  | [d1, d2] => { results := [.lit (.bool false)], args := [d1, d2] }
  | _ => none }
def ImageUnionsWrongFalsely : Prop := imageUnionsRow.holds Tryd.pinned (OpenSpec.ofChange imageUnionsWrong)

/-- 'halationlaw04.ImageBoxes': WHATEVER THE INPUT: true; the input reads as it did. -/
def imageBoxesSpec : ChangeSpec := { name := "imageBoxes", fn := fun _ => fun
  | [d1, d2] => { results := [.lit (.bool true)], args := [d1, d2] }
  | _ => none }
def imageBoxesRow : OpenClaim := { program := "ytgbmhofpndjdoaadoor", sum := "d4d8da33333daae1e85c611b17e39727a2c6fa0db986c4617fdb0b12c08cd9aa", func := "halation/halationlaw04.ImageBoxes", spec := "imageBoxes", inPlace := ["math.Float32frombits", "math.Float64bits", "math.Float64frombits", "slices.overlaps[int]"], unfollowed := true, recurses := true, named := ["halation/num.kinds", "halation/image.boundaries"], apart := false, laid := [("halation/num.kinds", laid_halation_num_kinds), ("halation/image.boundaries", laid_halation_image_boundaries)] }
def ImageBoxesSaid : Prop := imageBoxesRow.holds Tryd.pinned (OpenSpec.ofChange imageBoxesSpec)

/-- ITS FALSE NEIGHBOUR: 'it returns false'. Refute it at one input. -/
def imageBoxesWrong : ChangeSpec := { name := "imageBoxes", fn := fun _ => fun
  | [d1, d2] => { results := [.lit (.bool false)], args := [d1, d2] }
  | _ => none }
def ImageBoxesWrongFalsely : Prop := imageBoxesRow.holds Tryd.pinned (OpenSpec.ofChange imageBoxesWrong)

/-- 'halationlaw04.ImageSets': WHATEVER THE INPUT: true; the input reads as it did. -/
def imageSetsSpec : ChangeSpec := { name := "imageSets", fn := fun _ => fun
  | [d1, d2, d3] => { results := [.lit (.bool true)], args := [d1, d2, d3] }
  | _ => none }
def imageSetsRow : OpenClaim := { program := "ytgbmhofpndjdoaadoor", sum := "d4d8da33333daae1e85c611b17e39727a2c6fa0db986c4617fdb0b12c08cd9aa", func := "halation/halationlaw04.ImageSets", spec := "imageSets", inPlace := ["math.Float32frombits", "math.Float64bits", "math.Float64frombits", "slices.overlaps[int]"], unfollowed := true, recurses := true, named := ["halation/num.kinds", "halation/image.boundaries"], apart := false, laid := [("halation/num.kinds", laid_halation_num_kinds), ("halation/image.boundaries", laid_halation_image_boundaries)] }
def ImageSetsSaid : Prop := imageSetsRow.holds Tryd.pinned (OpenSpec.ofChange imageSetsSpec)

/-- ITS FALSE NEIGHBOUR: 'it returns false'. Refute it at one input. -/
def imageSetsWrong : ChangeSpec := { name := "imageSets", fn := fun _ => fun
  | [d1, d2, d3] => { results := [.lit (.bool false)], args := [d1, d2, d3] }
  | _ => none }
def ImageSetsWrongFalsely : Prop := imageSetsRow.holds Tryd.pinned (OpenSpec.ofChange imageSetsWrong)

/- THE SECOND FORM. 'bulk': how many values and letters a reading holds, each counted each time it is reached (what is shared counts as often as it is met; a slice's spare places count too). A statement '..UptoSaid' is the law's where the arguments, and the package variables that the reading takes, are together of bulk at most 1048576: NARROWER than '..Said'. Prove '..Said' where nothing that the law and all that it calls make is longer than what came in: it says more and counts as full. Else prove '..UptoSaid'. A law counts once. -/
mutual
def uptoBulk {H : Type} : DataW H → Nat
  | .lit (.string bytes) => bytes.length + 1
  | .lit _ => 1
  | .nil => 1
  | .ptr d => uptoBulk d + 1
  | .slice elems spare => uptoBulkAll elems + uptoBulkAll spare + 1
  | .agg parts => uptoBulkAll parts + 1
  | .iface _ d => uptoBulk d + 1
  | .map entries => uptoBulkEntries entries + 1
  | .held _ => 1
def uptoBulkAll {H : Type} : List (DataW H) → Nat
  | [] => 0
  | d :: r => uptoBulk d + uptoBulkAll r
def uptoBulkEntries {H : Type} : List (Lit × DataW H) → Nat
  | [] => 0
  | x :: r => uptoBulkEntry x + uptoBulkEntries r
def uptoBulkEntry {H : Type} : Lit × DataW H → Nat
  | (.string bytes, d) => bytes.length + uptoBulk d + 1
  | (_, d) => uptoBulk d + 1
 end
def uptoSmall : (H : Type) → List (DataW H) → Bool := fun _ ds => decide (uptoBulkAll ds ≤ 1048576)
def OpenSpec.upto (s : _root_.Go.ChangeSpec) : _root_.Go.OpenSpec := { _root_.Go.OpenSpec.ofChange s with cond := some uptoSmall }

/-- 'halationlaw04.ImageBack', WHERE WHAT IT READS IS OF BULK AT MOST 1048576: true; the input reads as it did. -/
def imageBackUptoRow : OpenClaim := { program := "ytgbmhofpndjdoaadoor", sum := "d4d8da33333daae1e85c611b17e39727a2c6fa0db986c4617fdb0b12c08cd9aa", func := "halation/halationlaw04.ImageBack", spec := "imageBack", inPlace := ["math.Float32frombits", "math.Float64bits", "math.Float64frombits", "slices.overlaps[int]"], unfollowed := true, recurses := true, named := ["halation/num.kinds", "halation/image.boundaries"], apart := false, laid := [("halation/num.kinds", laid_halation_num_kinds), ("halation/image.boundaries", laid_halation_image_boundaries)], narrowed := true }
def ImageBackUptoSaid : Prop := imageBackUptoRow.holds Tryd.pinned (OpenSpec.upto imageBackSpec)

/-- 'halationlaw04.ImageUnions', WHERE WHAT IT READS IS OF BULK AT MOST 1048576: true; the input reads as it did. -/
def imageUnionsUptoRow : OpenClaim := { program := "ytgbmhofpndjdoaadoor", sum := "d4d8da33333daae1e85c611b17e39727a2c6fa0db986c4617fdb0b12c08cd9aa", func := "halation/halationlaw04.ImageUnions", spec := "imageUnions", inPlace := ["math.Float32frombits", "math.Float64bits", "math.Float64frombits", "slices.overlaps[int]"], unfollowed := true, recurses := true, named := ["halation/num.kinds", "halation/image.boundaries"], apart := false, laid := [("halation/num.kinds", laid_halation_num_kinds), ("halation/image.boundaries", laid_halation_image_boundaries)], narrowed := true }
def ImageUnionsUptoSaid : Prop := imageUnionsUptoRow.holds Tryd.pinned (OpenSpec.upto imageUnionsSpec)

/-- 'halationlaw04.ImageBoxes', WHERE WHAT IT READS IS OF BULK AT MOST 1048576: true; the input reads as it did. -/
def imageBoxesUptoRow : OpenClaim := { program := "ytgbmhofpndjdoaadoor", sum := "d4d8da33333daae1e85c611b17e39727a2c6fa0db986c4617fdb0b12c08cd9aa", func := "halation/halationlaw04.ImageBoxes", spec := "imageBoxes", inPlace := ["math.Float32frombits", "math.Float64bits", "math.Float64frombits", "slices.overlaps[int]"], unfollowed := true, recurses := true, named := ["halation/num.kinds", "halation/image.boundaries"], apart := false, laid := [("halation/num.kinds", laid_halation_num_kinds), ("halation/image.boundaries", laid_halation_image_boundaries)], narrowed := true }
def ImageBoxesUptoSaid : Prop := imageBoxesUptoRow.holds Tryd.pinned (OpenSpec.upto imageBoxesSpec)

/-- 'halationlaw04.ImageSets', WHERE WHAT IT READS IS OF BULK AT MOST 1048576: true; the input reads as it did. -/
def imageSetsUptoRow : OpenClaim := { program := "ytgbmhofpndjdoaadoor", sum := "d4d8da33333daae1e85c611b17e39727a2c6fa0db986c4617fdb0b12c08cd9aa", func := "halation/halationlaw04.ImageSets", spec := "imageSets", inPlace := ["math.Float32frombits", "math.Float64bits", "math.Float64frombits", "slices.overlaps[int]"], unfollowed := true, recurses := true, named := ["halation/num.kinds", "halation/image.boundaries"], apart := false, laid := [("halation/num.kinds", laid_halation_num_kinds), ("halation/image.boundaries", laid_halation_image_boundaries)], narrowed := true }
def ImageSetsUptoSaid : Prop := imageSetsUptoRow.holds Tryd.pinned (OpenSpec.upto imageSetsSpec)

end Rows
end Go.Proofs.YtgbmhofpndjdoaaDoor
