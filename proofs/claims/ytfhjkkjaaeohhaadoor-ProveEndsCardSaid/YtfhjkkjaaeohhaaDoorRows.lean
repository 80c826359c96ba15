/-
  NARROWER THAN 'FOR EVERY INPUT', by the rows' own cells (each row's printed sentence says how): ProveDecides: laid · ProveHolds: laid · ProveChecks: laid · ProveValues: laid · ProveEnds: laid.
  DERIVED. THE GIVEN ROWS OF THIS SEAT. 5 by the template 'for every input the law returns true; each argument reads behind the call as it read before'; 0 by the template 'total and deterministic' (their statements: YtfhjkkjaaeohhaaDoorTotals.lean).
  GIVEN WITH THE SEED: the statements are not yours to turn. If you find one false, say at which input.
  Laid BY PROGRAM, IN A SANDBOX (cutbox-rows.mjs): the forced cells as the released guide's own fill.sh prints them over the translation 6bb011c396d86b2d… (all of the seat's roots in one cut). By AI agents, Wed Nov 11 2026. No macro, syntax, notation, axiom, sorry.
-/
import Derived.Test.YtfhjkkjaaeohhaaDoorChecked
import GoSem.Claim
import GoSem.ClaimJoined
import GoSem.ClaimMapViews
import Derived.JoinedTies
import Derived.KernelRfl
namespace Go.Proofs.YtfhjkkjaaeohhaaDoor
/- THE CELL 'sum', in the pinned program and in every row, IS THE sha256 OF THE DUMP (.gsa) THAT YtfhjkkjaaeohhaaDoorProg.lean LOADS. Nothing in Lean hashes anything: it is a label: what it is worth is what the hold of that sum in a sandbox is worth. -/
noncomputable def Tryd.pinned : Pinned := { name := "ytfhjkkjaaeohhaadoor", sum := "6bb011c396d86b2d29e93eb93ab25fb327b5d67c0719092c6ad00df031d68eb4", checked := Tryd.checked }
namespace Rows
def none {H : Type} : Left H := { results := [], args := [] }

/- WHAT THE LISTED PACKAGE-LEVEL VARIABLES READ AS WHEN THE CALL BEGINS. Each datum BY PROGRAM (the guide's laid-datum.mjs) off the statement by which the dump's own 'gosem.cut.vars' lays the variable. In a bare row this is a premise. The card (YtfhjkkjaaeohhaaDoorCards.lean) ties it to the program's text. -/
def laid_halation_prove_ways {H : Type} : DataW H := .iface "func table" (.agg [.agg [.lit (.int .i64 0), .lit (.int .i64 1), .iface "func" (.lit (.string [104, 97, 108, 97, 116, 105, 111, 110, 47, 112, 114, 111, 118, 101, 46, 102, 105, 108, 108, 101, 100]))], .agg [.lit (.int .i64 1), .lit (.int .i64 0), .iface "func" (.lit (.string [104, 97, 108, 97, 116, 105, 111, 110, 47, 112, 114, 111, 118, 101, 46, 102, 105, 108, 108, 101, 100]))], .agg [.lit (.int .i64 1), .lit (.int .i64 4), .iface "func" (.lit (.string [104, 97, 108, 97, 116, 105, 111, 110, 47, 112, 114, 111, 118, 101, 46, 102, 105, 108, 108, 101, 100]))]])

/-- 'halationlaw12.ProveDecides': WHATEVER THE INPUT: true; the input reads as it did. -/
def proveDecidesSpec : ChangeSpec := { name := "proveDecides", fn := fun _ => fun
  | [d1, d2] => { results := [.lit (.bool true)], args := [d1, d2] }
  | _ => none }
def proveDecidesRow : OpenClaim := { program := "ytfhjkkjaaeohhaadoor", sum := "6bb011c396d86b2d29e93eb93ab25fb327b5d67c0719092c6ad00df031d68eb4", func := "halation/halationlaw12.ProveDecides", spec := "proveDecides", unfollowed := true, recurses := true, named := ["halation/prove.ways"], apart := false, laid := [("halation/prove.ways", laid_halation_prove_ways)] }
def ProveDecidesSaid : Prop := proveDecidesRow.holds Tryd.pinned (OpenSpec.ofChange proveDecidesSpec)

/-- ITS FALSE NEIGHBOUR: 'it returns false'. Refute it at one input. -/
def proveDecidesWrong : ChangeSpec := { name := "proveDecides", fn := fun _ => fun
  | [d1, d2] => { results := [.lit (.bool false)], args := [d1, d2] }
  | _ => none }
def ProveDecidesWrongFalsely : Prop := proveDecidesRow.holds Tryd.pinned (OpenSpec.ofChange proveDecidesWrong)

/-- 'halationlaw12.ProveHolds': WHATEVER THE INPUT: true; the input reads as it did. -/
def proveHoldsSpec : ChangeSpec := { name := "proveHolds", fn := fun _ => fun
  | [d1, d2] => { results := [.lit (.bool true)], args := [d1, d2] }
  | _ => none }
def proveHoldsRow : OpenClaim := { program := "ytfhjkkjaaeohhaadoor", sum := "6bb011c396d86b2d29e93eb93ab25fb327b5d67c0719092c6ad00df031d68eb4", func := "halation/halationlaw12.ProveHolds", spec := "proveHolds", unfollowed := true, recurses := true, named := ["halation/prove.ways"], apart := false, laid := [("halation/prove.ways", laid_halation_prove_ways)] }
def ProveHoldsSaid : Prop := proveHoldsRow.holds Tryd.pinned (OpenSpec.ofChange proveHoldsSpec)

/-- ITS FALSE NEIGHBOUR: 'it returns false'. Refute it at one input. -/
def proveHoldsWrong : ChangeSpec := { name := "proveHolds", fn := fun _ => fun
  | [d1, d2] => { results := [.lit (.bool false)], args := [d1, d2] }
  | _ => none }
def ProveHoldsWrongFalsely : Prop := proveHoldsRow.holds Tryd.pinned (OpenSpec.ofChange proveHoldsWrong)

/-- 'halationlaw12.ProveChecks': WHATEVER THE INPUT: true; the input reads as it did. -/
def proveChecksSpec : ChangeSpec := { name := "proveChecks", fn := fun _ => fun
  | [d1, d2] => { results := [.lit (.bool true)], args := [d1, d2] }
  | _ => none }
def proveChecksRow : OpenClaim := { program := "ytfhjkkjaaeohhaadoor", sum := "6bb011c396d86b2d29e93eb93ab25fb327b5d67c0719092c6ad00df031d68eb4", func := "halation/halationlaw12.ProveChecks", spec := "proveChecks", unfollowed := true, recurses := true, named := ["halation/prove.ways"], apart := false, laid := [("halation/prove.ways", laid_halation_prove_ways)] }
def ProveChecksSaid : Prop := proveChecksRow.holds Tryd.pinned (OpenSpec.ofChange proveChecksSpec)

/-- ITS FALSE NEIGHBOUR: 'it returns false'. Refute it at one input. -/
def proveChecksWrong : ChangeSpec := { name := "proveChecks", fn := fun _ => fun
  | [d1, d2] => { results := [.lit (.bool false)], args := [d1, d2] }
  | _ => none }
def ProveChecksWrongFalsely : Prop := proveChecksRow.holds Tryd.pinned (OpenSpec.ofChange proveChecksWrong)

/-- 'halationlaw12.ProveValues': WHATEVER THE INPUT: true; the input reads as it did. -/
def proveValuesSpec : ChangeSpec := { name := "proveValues", fn := fun _ => fun
  | [d1, d2] => { results := [.lit (.bool true)], args := [d1, d2] }
  | _ => none }
def proveValuesRow : OpenClaim := { program := "ytfhjkkjaaeohhaadoor", sum := "6bb011c396d86b2d29e93eb93ab25fb327b5d67c0719092c6ad00df031d68eb4", func := "halation/halationlaw12.ProveValues", spec := "proveValues", unfollowed := true, recurses := true, named := ["halation/prove.ways"], apart := false, laid := [("halation/prove.ways", laid_halation_prove_ways)] }
def ProveValuesSaid : Prop := proveValuesRow.holds Tryd.pinned (OpenSpec.ofChange proveValuesSpec)

/-- ITS FALSE NEIGHBOUR: 'it returns false'. Refute it at one input. -/
def proveValuesWrong : ChangeSpec := { name := "proveValues", fn := fun _ => fun
  | [d1, d2] => { results := [.lit (.bool false)], args := [d1, d2] }
  | _ => none }
def ProveValuesWrongFalsely : Prop := proveValuesRow.holds Tryd.pinned (OpenSpec.ofChange proveValuesWrong)

/-- 'halationlaw12.ProveEnds': WHATEVER THE INPUT: true; the input reads as it did. -/
def proveEndsSpec : ChangeSpec := { name := "proveEnds", fn := fun _ => fun
  | [d1, d2, d3] => { results := [.lit (.bool true)], args := [d1, d2, d3] }
  | _ => none }
def proveEndsRow : OpenClaim := { program := "ytfhjkkjaaeohhaadoor", sum := "6bb011c396d86b2d29e93eb93ab25fb327b5d67c0719092c6ad00df031d68eb4", func := "halation/halationlaw12.ProveEnds", spec := "proveEnds", unfollowed := true, recurses := true, named := ["halation/prove.ways"], apart := false, laid := [("halation/prove.ways", laid_halation_prove_ways)] }
def ProveEndsSaid : Prop := proveEndsRow.holds Tryd.pinned (OpenSpec.ofChange proveEndsSpec)

/-- ITS FALSE NEIGHBOUR: 'it returns false'. Refute it at one input. -/
def proveEndsWrong : ChangeSpec := { name := "proveEnds", fn := fun _ => fun
  | [d1, d2, d3] => { results := [.lit (.bool false)], args := [d1, d2, d3] }
  | _ => none }
def ProveEndsWrongFalsely : Prop := proveEndsRow.holds Tryd.pinned (OpenSpec.ofChange proveEndsWrong)

/- THE SECOND FORM. 'bulk': how many values and letters a reading holds, each counted each time it is reached (what is shared counts as often as it is met; a slice's spare places count too). A statement '..UptoSaid' is the law's where the arguments, and the package variables that the reading takes, are together of bulk at most 1048576: NARROWER than '..Said'. Prove '..Said' where nothing that the law and all that it calls make is longer than what came in: it says more and counts as full. Else prove '..UptoSaid'. A law counts once. -/
mutual
def uptoBulk {H : Type} : DataW H → Nat
  | .lit (.string bytes) => bytes.length + 1
  | .lit _ => 1
  | .nil => 1
  | .ptr d => uptoBulk d + 1
  | .slice elems spare => uptoBulkAll elems + uptoBulkAll spare + 1
  | .agg parts => uptoBulkAll parts + 1
  | .iface _ d => uptoBulk d + 1
  | .map entries => uptoBulkEntries entries + 1
  | .held _ => 1
def uptoBulkAll {H : Type} : List (DataW H) → Nat
  | [] => 0
  | d :: r => uptoBulk d + uptoBulkAll r
def uptoBulkEntries {H : Type} : List (Lit × DataW H) → Nat
  | [] => 0
  | x :: r => uptoBulkEntry x + uptoBulkEntries r
def uptoBulkEntry {H : Type} : Lit × DataW H → Nat
  | (.string bytes, d) => bytes.length + uptoBulk d + 1
  | (_, d) => uptoBulk d + 1
 end
def uptoSmall : (H : Type) → List (DataW H) → Bool := fun _ ds => decide (uptoBulkAll ds ≤ 1048576)
def OpenSpec.upto (s : _root_.Go.ChangeSpec) : _root_.Go.OpenSpec := { _root_.Go.OpenSpec.ofChange s with cond := some uptoSmall }

/-- 'halationlaw12.ProveDecides', WHERE WHAT IT READS IS OF BULK AT MOST 1048576: true; the input reads as it did. -/
def proveDecidesUptoRow : OpenClaim := { program := "ytfhjkkjaaeohhaadoor", sum := "6bb011c396d86b2d29e93eb93ab25fb327b5d67c0719092c6ad00df031d68eb4", func := "halation/halationlaw12.ProveDecides", spec := "proveDecides", unfollowed := true, recurses := true, named := ["halation/prove.ways"], apart := false, laid := [("halation/prove.ways", laid_halation_prove_ways)], narrowed := true }
def ProveDecidesUptoSaid : Prop := proveDecidesUptoRow.holds Tryd.pinned (OpenSpec.upto proveDecidesSpec)

/-- 'halationlaw12.ProveHolds', WHERE WHAT IT READS IS OF BULK AT MOST 1048576: true; the input reads as it did. -/
def proveHoldsUptoRow : OpenClaim := { program := "ytfhjkkjaaeohhaadoor", sum := "6bb011c396d86b2d29e93eb93ab25fb327b5d67c0719092c6ad00df031d68eb4", func := "halation/halationlaw12.ProveHolds", spec := "proveHolds", unfollowed := true, recurses := true, named := ["halation/prove.ways"], apart := false, laid := [("halation/prove.ways", laid_halation_prove_ways)], narrowed := true }
def ProveHoldsUptoSaid : Prop := proveHoldsUptoRow.holds Tryd.pinned (OpenSpec.upto proveHoldsSpec)

/-- 'halationlaw12.ProveChecks', WHERE WHAT IT READS IS OF BULK AT MOST 1048576: true; the input reads as it did. -/
def proveChecksUptoRow : OpenClaim := { program := "ytfhjkkjaaeohhaadoor", sum := "6bb011c396d86b2d29e93eb93ab25fb327b5d67c0719092c6ad00df031d68eb4", func := "halation/halationlaw12.ProveChecks", spec := "proveChecks", unfollowed := true, recurses := true, named := ["halation/prove.ways"], apart := false, laid := [("halation/prove.ways", laid_halation_prove_ways)], narrowed := true }
def ProveChecksUptoSaid : Prop := proveChecksUptoRow.holds Tryd.pinned (OpenSpec.upto proveChecksSpec)

/-- 'halationlaw12.ProveValues', WHERE WHAT IT READS IS OF BULK AT MOST 1048576: true; the input reads as it did. -/
def proveValuesUptoRow : OpenClaim := { program := "ytfhjkkjaaeohhaadoor", sum := "6bb011c396d86b2d29e93eb93ab25fb327b5d67c0719092c6ad00df031d68eb4", func := "halation/halationlaw12.ProveValues", spec := "proveValues", unfollowed := true, recurses := true, named := ["halation/prove.ways"], apart := false, laid := [("halation/prove.ways", laid_halation_prove_ways)], narrowed := true }
def ProveValuesUptoSaid : Prop := proveValuesUptoRow.holds Tryd.pinned (OpenSpec.upto proveValuesSpec)

/-- 'halationlaw12.ProveEnds', WHERE WHAT IT READS IS OF BULK AT MOST 1048576: true; the input reads as it did. -/
def proveEndsUptoRow : OpenClaim := { program := "ytfhjkkjaaeohhaadoor", sum := "6bb011c396d86b2d29e93eb93ab25fb327b5d67c0719092c6ad00df031d68eb4", func := "halation/halationlaw12.ProveEnds", spec := "proveEnds", unfollowed := true, recurses := true, named := ["halation/prove.ways"], apart := false, laid := [("halation/prove.ways", laid_halation_prove_ways)], narrowed := true }
def ProveEndsUptoSaid : Prop := proveEndsUptoRow.holds Tryd.pinned (OpenSpec.upto proveEndsSpec)

end Rows
end Go.Proofs.YtfhjkkjaaeohhaaDoor
