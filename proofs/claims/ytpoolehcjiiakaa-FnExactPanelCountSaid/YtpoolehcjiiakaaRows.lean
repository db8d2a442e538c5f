/-
  No cell of these rows narrows 'for every input' (looked for: loops, veiled, ifaces, maps, wideKeys, modest, calm, conditions, laid).
  DERIVED. THE GIVEN ROWS OF THIS SEAT. 18 by the template 'for every input the law returns true; each argument reads behind the call as it read before'; 0 by the template 'total and deterministic' (their statements: YtpoolehcjiiakaaTotals.lean).
  GIVEN WITH THE SEED: the statements are not yours to turn. If you find one false, say at which input.
  Laid BY PROGRAM, IN A SANDBOX (cutbox-rows.mjs): the forced cells as the released guide's own fill.sh prints them over the translation 9b8e83fb79eed916… (all of the seat's roots in one cut). By AI agents, Wed Nov 11 2026. No macro, syntax, notation, axiom, sorry.
-/
import Derived.Test.YtpoolehcjiiakaaChecked
import GoSem.Claim
import GoSem.ClaimJoined
import GoSem.ClaimMapViews
import Derived.JoinedTies
import Derived.KernelRfl
namespace Go.Proofs.Ytpoolehcjiiakaa
/- THE CELL 'sum', in the pinned program and in every row, IS THE sha256 OF THE DUMP (.gsa) THAT YtpoolehcjiiakaaProg.lean LOADS. Nothing in Lean hashes anything: it is a label: what it is worth is what the hold of that sum in a sandbox is worth. -/
noncomputable def Try.pinned : Pinned := { name := "ytpoolehcjiiakaa", sum := "9b8e83fb79eed916f0e4e4bd5023f689495b29eab155a23796e730a4e1466c83", checked := Try.checked }
namespace Rows
def none {H : Type} : Left H := { results := [], args := [] }

/-- 'laws.FnExactPanelCount': WHATEVER THE INPUT: true; the input reads as it did. -/
def fnExactPanelCountSpec : ChangeSpec := { name := "fnExactPanelCount", fn := fun _ => fun
  | [d1, d2] => { results := [.lit (.bool true)], args := [d1, d2] }
  | _ => none }
def fnExactPanelCountRow : OpenClaim := { program := "ytpoolehcjiiakaa", sum := "9b8e83fb79eed916f0e4e4bd5023f689495b29eab155a23796e730a4e1466c83", func := "loop.example/g00931/laws.FnExactPanelCount", spec := "fnExactPanelCount", apart := false }
def FnExactPanelCountSaid : Prop := fnExactPanelCountRow.holds Try.pinned (OpenSpec.ofChange fnExactPanelCountSpec)

/-- ITS FALSE NEIGHBOUR: 'it returns false'. Refute it at one input. -/
def fnExactPanelCountWrong : ChangeSpec := { name := "fnExactPanelCount", fn := fun _ => fun
  | [d1, d2] => { results := [.lit (.bool false)], args := [d1, d2] }
  | _ => none }
def FnExactPanelCountWrongFalsely : Prop := fnExactPanelCountRow.holds Try.pinned (OpenSpec.ofChange fnExactPanelCountWrong)

/-- 'laws.FnExactCrossingsOf': WHATEVER THE INPUT: true; the input reads as it did. -/
def fnExactCrossingsOfSpec : ChangeSpec := { name := "fnExactCrossingsOf", fn := fun _ => fun
  | [d] => { results := [.lit (.bool true)], args := [d] }
  | _ => none }
def fnExactCrossingsOfRow : OpenClaim := { program := "ytpoolehcjiiakaa", sum := "9b8e83fb79eed916f0e4e4bd5023f689495b29eab155a23796e730a4e1466c83", func := "loop.example/g00931/laws.FnExactCrossingsOf", spec := "fnExactCrossingsOf", apart := false }
def FnExactCrossingsOfSaid : Prop := fnExactCrossingsOfRow.holds Try.pinned (OpenSpec.ofChange fnExactCrossingsOfSpec)

/-- ITS FALSE NEIGHBOUR: 'it returns false'. Refute it at one input. -/
def fnExactCrossingsOfWrong : ChangeSpec := { name := "fnExactCrossingsOf", fn := fun _ => fun
  | [d] => { results := [.lit (.bool false)], args := [d] }
  | _ => none }
def FnExactCrossingsOfWrongFalsely : Prop := fnExactCrossingsOfRow.holds Try.pinned (OpenSpec.ofChange fnExactCrossingsOfWrong)

/-- 'laws.FnExactPanelWith': WHATEVER THE INPUT: true; the input reads as it did. -/
def fnExactPanelWithSpec : ChangeSpec := { name := "fnExactPanelWith", fn := fun _ => fun
  | [d1, d2, d3] => { results := [.lit (.bool true)], args := [d1, d2, d3] }
  | _ => none }
def fnExactPanelWithRow : OpenClaim := { program := "ytpoolehcjiiakaa", sum := "9b8e83fb79eed916f0e4e4bd5023f689495b29eab155a23796e730a4e1466c83", func := "loop.example/g00931/laws.FnExactPanelWith", spec := "fnExactPanelWith", apart := false }
def FnExactPanelWithSaid : Prop := fnExactPanelWithRow.holds Try.pinned (OpenSpec.ofChange fnExactPanelWithSpec)

/-- ITS FALSE NEIGHBOUR: 'it returns false'. Refute it at one input. -/
def fnExactPanelWithWrong : ChangeSpec := { name := "fnExactPanelWith", fn := fun _ => fun
  | [d1, d2, d3] => { results := [.lit (.bool false)], args := [d1, d2, d3] }
  | _ => none }
def FnExactPanelWithWrongFalsely : Prop := fnExactPanelWithRow.holds Try.pinned (OpenSpec.ofChange fnExactPanelWithWrong)

/-- 'laws.FnExactIsCrossing': WHATEVER THE INPUT: true; the input reads as it did. -/
def fnExactIsCrossingSpec : ChangeSpec := { name := "fnExactIsCrossing", fn := fun _ => fun
  | [d1, d2] => { results := [.lit (.bool true)], args := [d1, d2] }
  | _ => none }
def fnExactIsCrossingRow : OpenClaim := { program := "ytpoolehcjiiakaa", sum := "9b8e83fb79eed916f0e4e4bd5023f689495b29eab155a23796e730a4e1466c83", func := "loop.example/g00931/laws.FnExactIsCrossing", spec := "fnExactIsCrossing", apart := false }
def FnExactIsCrossingSaid : Prop := fnExactIsCrossingRow.holds Try.pinned (OpenSpec.ofChange fnExactIsCrossingSpec)

/-- ITS FALSE NEIGHBOUR: 'it returns false'. Refute it at one input. -/
def fnExactIsCrossingWrong : ChangeSpec := { name := "fnExactIsCrossing", fn := fun _ => fun
  | [d1, d2] => { results := [.lit (.bool false)], args := [d1, d2] }
  | _ => none }
def FnExactIsCrossingWrongFalsely : Prop := fnExactIsCrossingRow.holds Try.pinned (OpenSpec.ofChange fnExactIsCrossingWrong)

/-- 'laws.FnExactPanelNumber': WHATEVER THE INPUT: true; the input reads as it did. -/
def fnExactPanelNumberSpec : ChangeSpec := { name := "fnExactPanelNumber", fn := fun _ => fun
  | [d] => { results := [.lit (.bool true)], args := [d] }
  | _ => none }
def fnExactPanelNumberRow : OpenClaim := { program := "ytpoolehcjiiakaa", sum := "9b8e83fb79eed916f0e4e4bd5023f689495b29eab155a23796e730a4e1466c83", func := "loop.example/g00931/laws.FnExactPanelNumber", spec := "fnExactPanelNumber", apart := false }
def FnExactPanelNumberSaid : Prop := fnExactPanelNumberRow.holds Try.pinned (OpenSpec.ofChange fnExactPanelNumberSpec)

/-- ITS FALSE NEIGHBOUR: 'it returns false'. Refute it at one input. -/
def fnExactPanelNumberWrong : ChangeSpec := { name := "fnExactPanelNumber", fn := fun _ => fun
  | [d] => { results := [.lit (.bool false)], args := [d] }
  | _ => none }
def FnExactPanelNumberWrongFalsely : Prop := fnExactPanelNumberRow.holds Try.pinned (OpenSpec.ofChange fnExactPanelNumberWrong)

/-- 'laws.FnExactValidEdits': WHATEVER THE INPUT: true; the input reads as it did. -/
def fnExactValidEditsSpec : ChangeSpec := { name := "fnExactValidEdits", fn := fun _ => fun
  | [d1, d2] => { results := [.lit (.bool true)], args := [d1, d2] }
  | _ => none }
def fnExactValidEditsRow : OpenClaim := { program := "ytpoolehcjiiakaa", sum := "9b8e83fb79eed916f0e4e4bd5023f689495b29eab155a23796e730a4e1466c83", func := "loop.example/g00931/laws.FnExactValidEdits", spec := "fnExactValidEdits", apart := false }
def FnExactValidEditsSaid : Prop := fnExactValidEditsRow.holds Try.pinned (OpenSpec.ofChange fnExactValidEditsSpec)

/-- ITS FALSE NEIGHBOUR: 'it returns false'. Refute it at one input. -/
def fnExactValidEditsWrong : ChangeSpec := { name := "fnExactValidEdits", fn := fun _ => fun
  | [d1, d2] => { results := [.lit (.bool false)], args := [d1, d2] }
  | _ => none }
def FnExactValidEditsWrongFalsely : Prop := fnExactValidEditsRow.holds Try.pinned (OpenSpec.ofChange fnExactValidEditsWrong)

/-- 'laws.FnExactEditsBetween': WHATEVER THE INPUT: true; the input reads as it did. -/
def fnExactEditsBetweenSpec : ChangeSpec := { name := "fnExactEditsBetween", fn := fun _ => fun
  | [d1, d2] => { results := [.lit (.bool true)], args := [d1, d2] }
  | _ => none }
def fnExactEditsBetweenRow : OpenClaim := { program := "ytpoolehcjiiakaa", sum := "9b8e83fb79eed916f0e4e4bd5023f689495b29eab155a23796e730a4e1466c83", func := "loop.example/g00931/laws.FnExactEditsBetween", spec := "fnExactEditsBetween", apart := false }
def FnExactEditsBetweenSaid : Prop := fnExactEditsBetweenRow.holds Try.pinned (OpenSpec.ofChange fnExactEditsBetweenSpec)

/-- ITS FALSE NEIGHBOUR: 'it returns false'. Refute it at one input. -/
def fnExactEditsBetweenWrong : ChangeSpec := { name := "fnExactEditsBetween", fn := fun _ => fun
  | [d1, d2] => { results := [.lit (.bool false)], args := [d1, d2] }
  | _ => none }
def FnExactEditsBetweenWrongFalsely : Prop := fnExactEditsBetweenRow.holds Try.pinned (OpenSpec.ofChange fnExactEditsBetweenWrong)

/-- 'laws.FnExactOverSlope': WHATEVER THE INPUT: true; the input reads as it did. -/
def fnExactOverSlopeSpec : ChangeSpec := { name := "fnExactOverSlope", fn := fun _ => fun
  | [d1, d2] => { results := [.lit (.bool true)], args := [d1, d2] }
  | _ => none }
def fnExactOverSlopeRow : OpenClaim := { program := "ytpoolehcjiiakaa", sum := "9b8e83fb79eed916f0e4e4bd5023f689495b29eab155a23796e730a4e1466c83", func := "loop.example/g00931/laws.FnExactOverSlope", spec := "fnExactOverSlope", apart := false }
def FnExactOverSlopeSaid : Prop := fnExactOverSlopeRow.holds Try.pinned (OpenSpec.ofChange fnExactOverSlopeSpec)

/-- ITS FALSE NEIGHBOUR: 'it returns false'. Refute it at one input. -/
def fnExactOverSlopeWrong : ChangeSpec := { name := "fnExactOverSlope", fn := fun _ => fun
  | [d1, d2] => { results := [.lit (.bool false)], args := [d1, d2] }
  | _ => none }
def FnExactOverSlopeWrongFalsely : Prop := fnExactOverSlopeRow.holds Try.pinned (OpenSpec.ofChange fnExactOverSlopeWrong)

/-- 'laws.FnExactPassesOver': WHATEVER THE INPUT: true; the input reads as it did. -/
def fnExactPassesOverSpec : ChangeSpec := { name := "fnExactPassesOver", fn := fun _ => fun
  | [d1, d2] => { results := [.lit (.bool true)], args := [d1, d2] }
  | _ => none }
def fnExactPassesOverRow : OpenClaim := { program := "ytpoolehcjiiakaa", sum := "9b8e83fb79eed916f0e4e4bd5023f689495b29eab155a23796e730a4e1466c83", func := "loop.example/g00931/laws.FnExactPassesOver", spec := "fnExactPassesOver", apart := false }
def FnExactPassesOverSaid : Prop := fnExactPassesOverRow.holds Try.pinned (OpenSpec.ofChange fnExactPassesOverSpec)

/-- ITS FALSE NEIGHBOUR: 'it returns false'. Refute it at one input. -/
def fnExactPassesOverWrong : ChangeSpec := { name := "fnExactPassesOver", fn := fun _ => fun
  | [d1, d2] => { results := [.lit (.bool false)], args := [d1, d2] }
  | _ => none }
def FnExactPassesOverWrongFalsely : Prop := fnExactPassesOverRow.holds Try.pinned (OpenSpec.ofChange fnExactPassesOverWrong)

/-- 'laws.FnExactCrossingIndex': WHATEVER THE INPUT: true; the input reads as it did. -/
def fnExactCrossingIndexSpec : ChangeSpec := { name := "fnExactCrossingIndex", fn := fun _ => fun
  | [d1, d2] => { results := [.lit (.bool true)], args := [d1, d2] }
  | _ => none }
def fnExactCrossingIndexRow : OpenClaim := { program := "ytpoolehcjiiakaa", sum := "9b8e83fb79eed916f0e4e4bd5023f689495b29eab155a23796e730a4e1466c83", func := "loop.example/g00931/laws.FnExactCrossingIndex", spec := "fnExactCrossingIndex", apart := false }
def FnExactCrossingIndexSaid : Prop := fnExactCrossingIndexRow.holds Try.pinned (OpenSpec.ofChange fnExactCrossingIndexSpec)

/-- ITS FALSE NEIGHBOUR: 'it returns false'. Refute it at one input. -/
def fnExactCrossingIndexWrong : ChangeSpec := { name := "fnExactCrossingIndex", fn := fun _ => fun
  | [d1, d2] => { results := [.lit (.bool false)], args := [d1, d2] }
  | _ => none }
def FnExactCrossingIndexWrongFalsely : Prop := fnExactCrossingIndexRow.holds Try.pinned (OpenSpec.ofChange fnExactCrossingIndexWrong)

/-- 'laws.FnExactUndoEdits': WHATEVER THE INPUT: true; the input reads as it did. -/
def fnExactUndoEditsSpec : ChangeSpec := { name := "fnExactUndoEdits", fn := fun _ => fun
  | [d1, d2] => { results := [.lit (.bool true)], args := [d1, d2] }
  | _ => none }
def fnExactUndoEditsRow : OpenClaim := { program := "ytpoolehcjiiakaa", sum := "9b8e83fb79eed916f0e4e4bd5023f689495b29eab155a23796e730a4e1466c83", func := "loop.example/g00931/laws.FnExactUndoEdits", spec := "fnExactUndoEdits", apart := false }
def FnExactUndoEditsSaid : Prop := fnExactUndoEditsRow.holds Try.pinned (OpenSpec.ofChange fnExactUndoEditsSpec)

/-- ITS FALSE NEIGHBOUR: 'it returns false'. Refute it at one input. -/
def fnExactUndoEditsWrong : ChangeSpec := { name := "fnExactUndoEdits", fn := fun _ => fun
  | [d1, d2] => { results := [.lit (.bool false)], args := [d1, d2] }
  | _ => none }
def FnExactUndoEditsWrongFalsely : Prop := fnExactUndoEditsRow.holds Try.pinned (OpenSpec.ofChange fnExactUndoEditsWrong)

/-- 'laws.FnExactEditsText': WHATEVER THE INPUT: true; the input reads as it did. -/
def fnExactEditsTextSpec : ChangeSpec := { name := "fnExactEditsText", fn := fun _ => fun
  | [d1, d2] => { results := [.lit (.bool true)], args := [d1, d2] }
  | _ => none }
def fnExactEditsTextRow : OpenClaim := { program := "ytpoolehcjiiakaa", sum := "9b8e83fb79eed916f0e4e4bd5023f689495b29eab155a23796e730a4e1466c83", func := "loop.example/g00931/laws.FnExactEditsText", spec := "fnExactEditsText", apart := false }
def FnExactEditsTextSaid : Prop := fnExactEditsTextRow.holds Try.pinned (OpenSpec.ofChange fnExactEditsTextSpec)

/-- ITS FALSE NEIGHBOUR: 'it returns false'. Refute it at one input. -/
def fnExactEditsTextWrong : ChangeSpec := { name := "fnExactEditsText", fn := fun _ => fun
  | [d1, d2] => { results := [.lit (.bool false)], args := [d1, d2] }
  | _ => none }
def FnExactEditsTextWrongFalsely : Prop := fnExactEditsTextRow.holds Try.pinned (OpenSpec.ofChange fnExactEditsTextWrong)

/-- 'laws.FnExactApplyEdits': WHATEVER THE INPUT: true; the input reads as it did. -/
def fnExactApplyEditsSpec : ChangeSpec := { name := "fnExactApplyEdits", fn := fun _ => fun
  | [d1, d2] => { results := [.lit (.bool true)], args := [d1, d2] }
  | _ => none }
def fnExactApplyEditsRow : OpenClaim := { program := "ytpoolehcjiiakaa", sum := "9b8e83fb79eed916f0e4e4bd5023f689495b29eab155a23796e730a4e1466c83", func := "loop.example/g00931/laws.FnExactApplyEdits", spec := "fnExactApplyEdits", apart := false }
def FnExactApplyEditsSaid : Prop := fnExactApplyEditsRow.holds Try.pinned (OpenSpec.ofChange fnExactApplyEditsSpec)

/-- ITS FALSE NEIGHBOUR: 'it returns false'. Refute it at one input. -/
def fnExactApplyEditsWrong : ChangeSpec := { name := "fnExactApplyEdits", fn := fun _ => fun
  | [d1, d2] => { results := [.lit (.bool false)], args := [d1, d2] }
  | _ => none }
def FnExactApplyEditsWrongFalsely : Prop := fnExactApplyEditsRow.holds Try.pinned (OpenSpec.ofChange fnExactApplyEditsWrong)

/-- 'laws.FnExactReadEdits': WHATEVER THE INPUT: true; the input reads as it did. -/
def fnExactReadEditsSpec : ChangeSpec := { name := "fnExactReadEdits", fn := fun _ => fun
  | [d1, d2] => { results := [.lit (.bool true)], args := [d1, d2] }
  | _ => none }
def fnExactReadEditsRow : OpenClaim := { program := "ytpoolehcjiiakaa", sum := "9b8e83fb79eed916f0e4e4bd5023f689495b29eab155a23796e730a4e1466c83", func := "loop.example/g00931/laws.FnExactReadEdits", spec := "fnExactReadEdits", apart := false }
def FnExactReadEditsSaid : Prop := fnExactReadEditsRow.holds Try.pinned (OpenSpec.ofChange fnExactReadEditsSpec)

/-- ITS FALSE NEIGHBOUR: 'it returns false'. Refute it at one input. -/
def fnExactReadEditsWrong : ChangeSpec := { name := "fnExactReadEdits", fn := fun _ => fun
  | [d1, d2] => { results := [.lit (.bool false)], args := [d1, d2] }
  | _ => none }
def FnExactReadEditsWrongFalsely : Prop := fnExactReadEditsRow.holds Try.pinned (OpenSpec.ofChange fnExactReadEditsWrong)

/-- 'laws.FnPassing': WHATEVER THE INPUT: true; the input reads as it did. -/
def fnPassingSpec : ChangeSpec := { name := "fnPassing", fn := fun _ => fun
  | [d] => { results := [.lit (.bool true)], args := [d] }
  | _ => none }
def fnPassingRow : OpenClaim := { program := "ytpoolehcjiiakaa", sum := "9b8e83fb79eed916f0e4e4bd5023f689495b29eab155a23796e730a4e1466c83", func := "loop.example/g00931/laws.FnPassing", spec := "fnPassing", apart := false }
def FnPassingSaid : Prop := fnPassingRow.holds Try.pinned (OpenSpec.ofChange fnPassingSpec)

/-- ITS FALSE NEIGHBOUR: 'it returns false'. Refute it at one input. -/
def fnPassingWrong : ChangeSpec := { name := "fnPassing", fn := fun _ => fun
  | [d] => { results := [.lit (.bool false)], args := [d] }
  | _ => none }
def FnPassingWrongFalsely : Prop := fnPassingRow.holds Try.pinned (OpenSpec.ofChange fnPassingWrong)

/-- 'laws.FnEdits': WHATEVER THE INPUT: true; the input reads as it did. -/
def fnEditsSpec : ChangeSpec := { name := "fnEdits", fn := fun _ => fun
  | [d] => { results := [.lit (.bool true)], args := [d] }
  | _ => none }
def fnEditsRow : OpenClaim := { program := "ytpoolehcjiiakaa", sum := "9b8e83fb79eed916f0e4e4bd5023f689495b29eab155a23796e730a4e1466c83", func := "loop.example/g00931/laws.FnEdits", spec := "fnEdits", apart := false }
def FnEditsSaid : Prop := fnEditsRow.holds Try.pinned (OpenSpec.ofChange fnEditsSpec)

/-- ITS FALSE NEIGHBOUR: 'it returns false'. Refute it at one input. -/
def fnEditsWrong : ChangeSpec := { name := "fnEdits", fn := fun _ => fun
  | [d] => { results := [.lit (.bool false)], args := [d] }
  | _ => none }
def FnEditsWrongFalsely : Prop := fnEditsRow.holds Try.pinned (OpenSpec.ofChange fnEditsWrong)

/-- 'laws.FnTurnedCodes': WHATEVER THE INPUT: true; the input reads as it did. -/
def fnTurnedCodesSpec : ChangeSpec := { name := "fnTurnedCodes", fn := fun _ => fun
  | [d1, d2] => { results := [.lit (.bool true)], args := [d1, d2] }
  | _ => none }
def fnTurnedCodesRow : OpenClaim := { program := "ytpoolehcjiiakaa", sum := "9b8e83fb79eed916f0e4e4bd5023f689495b29eab155a23796e730a4e1466c83", func := "loop.example/g00931/laws.FnTurnedCodes", spec := "fnTurnedCodes", apart := false }
def FnTurnedCodesSaid : Prop := fnTurnedCodesRow.holds Try.pinned (OpenSpec.ofChange fnTurnedCodesSpec)

/-- ITS FALSE NEIGHBOUR: 'it returns false'. Refute it at one input. -/
def fnTurnedCodesWrong : ChangeSpec := { name := "fnTurnedCodes", fn := fun _ => fun
  | [d1, d2] => { results := [.lit (.bool false)], args := [d1, d2] }
  | _ => none }
def FnTurnedCodesWrongFalsely : Prop := fnTurnedCodesRow.holds Try.pinned (OpenSpec.ofChange fnTurnedCodesWrong)

/-- 'laws.FnExactCanonicalCount': WHATEVER THE INPUT: true; the input reads as it did. -/
def fnExactCanonicalCountSpec : ChangeSpec := { name := "fnExactCanonicalCount", fn := fun _ => fun
  | [d1, d2] => { results := [.lit (.bool true)], args := [d1, d2] }
  | _ => none }
def fnExactCanonicalCountRow : OpenClaim := { program := "ytpoolehcjiiakaa", sum := "9b8e83fb79eed916f0e4e4bd5023f689495b29eab155a23796e730a4e1466c83", func := "loop.example/g00931/laws.FnExactCanonicalCount", spec := "fnExactCanonicalCount", apart := false }
def FnExactCanonicalCountSaid : Prop := fnExactCanonicalCountRow.holds Try.pinned (OpenSpec.ofChange fnExactCanonicalCountSpec)

/-- ITS FALSE NEIGHBOUR: 'it returns false'. Refute it at one input. -/
def fnExactCanonicalCountWrong : ChangeSpec := { name := "fnExactCanonicalCount", fn := fun _ => fun
  | [d1, d2] => { results := [.lit (.bool false)], args := [d1, d2] }
  | _ => none }
def FnExactCanonicalCountWrongFalsely : Prop := fnExactCanonicalCountRow.holds Try.pinned (OpenSpec.ofChange fnExactCanonicalCountWrong)

/- THE SECOND FORM. 'bulk': how many values and letters a reading holds, each counted each time it is reached (what is shared counts as often as it is met; a slice's spare places count too). A statement '..UptoSaid' is the law's where the arguments, and the package variables that the reading takes, are together of bulk at most 1048576: NARROWER than '..Said'. Prove '..Said' where nothing that the law and all that it calls make is longer than what came in: it says more and counts as full. Else prove '..UptoSaid'. A law counts once. -/
mutual
def uptoBulk {H : Type} : DataW H → Nat
  | .lit (.string bytes) => bytes.length + 1
  | .lit _ => 1
  | .nil => 1
  | .ptr d => uptoBulk d + 1
  | .slice elems spare => uptoBulkAll elems + uptoBulkAll spare + 1
  | .agg parts => uptoBulkAll parts + 1
  | .iface _ d => uptoBulk d + 1
  | .map entries => uptoBulkEntries entries + 1
  | .held _ => 1
def uptoBulkAll {H : Type} : List (DataW H) → Nat
  | [] => 0
  | d :: r => uptoBulk d + uptoBulkAll r
def uptoBulkEntries {H : Type} : List (Lit × DataW H) → Nat
  | [] => 0
  | x :: r => uptoBulkEntry x + uptoBulkEntries r
def uptoBulkEntry {H : Type} : Lit × DataW H → Nat
  | (.string bytes, d) => bytes.length + uptoBulk d + 1
  | (_, d) => uptoBulk d + 1
 end
def uptoSmall : (H : Type) → List (DataW H) → Bool := fun _ ds => decide (uptoBulkAll ds ≤ 1048576)
def OpenSpec.upto (s : _root_.Go.ChangeSpec) : _root_.Go.OpenSpec := { _root_.Go.OpenSpec.ofChange s with cond := some uptoSmall }

/-- 'laws.FnExactPanelCount', WHERE WHAT IT READS IS OF BULK AT MOST 1048576: true; the input reads as it did. -/
def fnExactPanelCountUptoRow : OpenClaim := { program := "ytpoolehcjiiakaa", sum := "9b8e83fb79eed916f0e4e4bd5023f689495b29eab155a23796e730a4e1466c83", func := "loop.example/g00931/laws.FnExactPanelCount", spec := "fnExactPanelCount", apart := false, narrowed := true }
def FnExactPanelCountUptoSaid : Prop := fnExactPanelCountUptoRow.holds Try.pinned (OpenSpec.upto fnExactPanelCountSpec)

/-- 'laws.FnExactCrossingsOf', WHERE WHAT IT READS IS OF BULK AT MOST 1048576: true; the input reads as it did. -/
def fnExactCrossingsOfUptoRow : OpenClaim := { program := "ytpoolehcjiiakaa", sum := "9b8e83fb79eed916f0e4e4bd5023f689495b29eab155a23796e730a4e1466c83", func := "loop.example/g00931/laws.FnExactCrossingsOf", spec := "fnExactCrossingsOf", apart := false, narrowed := true }
def FnExactCrossingsOfUptoSaid : Prop := fnExactCrossingsOfUptoRow.holds Try.pinned (OpenSpec.upto fnExactCrossingsOfSpec)

/-- 'laws.FnExactPanelWith', WHERE WHAT IT READS IS OF BULK AT MOST 1048576: true; the input reads as it did. -/
def fnExactPanelWithUptoRow : OpenClaim := { program := "ytpoolehcjiiakaa", sum := "9b8e83fb79eed916f0e4e4bd5023f689495b29eab155a23796e730a4e1466c83", func := "loop.example/g00931/laws.FnExactPanelWith", spec := "fnExactPanelWith", apart := false, narrowed := true }
def FnExactPanelWithUptoSaid : Prop := fnExactPanelWithUptoRow.holds Try.pinned (OpenSpec.upto fnExactPanelWithSpec)

/-- 'laws.FnExactIsCrossing', WHERE WHAT IT READS IS OF BULK AT MOST 1048576: true; the input reads as it did. -/
def fnExactIsCrossingUptoRow : OpenClaim := { program := "ytpoolehcjiiakaa", sum := "9b8e83fb79eed916f0e4e4bd5023f689495b29eab155a23796e730a4e1466c83", func := "loop.example/g00931/laws.FnExactIsCrossing", spec := "fnExactIsCrossing", apart := false, narrowed := true }
def FnExactIsCrossingUptoSaid : Prop := fnExactIsCrossingUptoRow.holds Try.pinned (OpenSpec.upto fnExactIsCrossingSpec)

/-- 'laws.FnExactPanelNumber', WHERE WHAT IT READS IS OF BULK AT MOST 1048576: true; the input reads as it did. -/
def fnExactPanelNumberUptoRow : OpenClaim := { program := "ytpoolehcjiiakaa", sum := "9b8e83fb79eed916f0e4e4bd5023f689495b29eab155a23796e730a4e1466c83", func := "loop.example/g00931/laws.FnExactPanelNumber", spec := "fnExactPanelNumber", apart := false, narrowed := true }
def FnExactPanelNumberUptoSaid : Prop := fnExactPanelNumberUptoRow.holds Try.pinned (OpenSpec.upto fnExactPanelNumberSpec)

/-- 'laws.FnExactValidEdits', WHERE WHAT IT READS IS OF BULK AT MOST 1048576: true; the input reads as it did. -/
def fnExactValidEditsUptoRow : OpenClaim := { program := "ytpoolehcjiiakaa", sum := "9b8e83fb79eed916f0e4e4bd5023f689495b29eab155a23796e730a4e1466c83", func := "loop.example/g00931/laws.FnExactValidEdits", spec := "fnExactValidEdits", apart := false, narrowed := true }
def FnExactValidEditsUptoSaid : Prop := fnExactValidEditsUptoRow.holds Try.pinned (OpenSpec.upto fnExactValidEditsSpec)

/-- 'laws.FnExactEditsBetween', WHERE WHAT IT READS IS OF BULK AT MOST 1048576: true; the input reads as it did. -/
def fnExactEditsBetweenUptoRow : OpenClaim := { program := "ytpoolehcjiiakaa", sum := "9b8e83fb79eed916f0e4e4bd5023f689495b29eab155a23796e730a4e1466c83", func := "loop.example/g00931/laws.FnExactEditsBetween", spec := "fnExactEditsBetween", apart := false, narrowed := true }
def FnExactEditsBetweenUptoSaid : Prop := fnExactEditsBetweenUptoRow.holds Try.pinned (OpenSpec.upto fnExactEditsBetweenSpec)

/-- 'laws.FnExactOverSlope', WHERE WHAT IT READS IS OF BULK AT MOST 1048576: true; the input reads as it did. -/
def fnExactOverSlopeUptoRow : OpenClaim := { program := "ytpoolehcjiiakaa", sum := "9b8e83fb79eed916f0e4e4bd5023f689495b29eab155a23796e730a4e1466c83", func := "loop.example/g00931/laws.FnExactOverSlope", spec := "fnExactOverSlope", apart := false, narrowed := true }
def FnExactOverSlopeUptoSaid : Prop := fnExactOverSlopeUptoRow.holds Try.pinned (OpenSpec.upto fnExactOverSlopeSpec)

/-- 'laws.FnExactPassesOver', WHERE WHAT IT READS IS OF BULK AT MOST 1048576: true; the input reads as it did. -/
def fnExactPassesOverUptoRow : OpenClaim := { program := "ytpoolehcjiiakaa", sum := "9b8e83fb79eed916f0e4e4bd5023f689495b29eab155a23796e730a4e1466c83", func := "loop.example/g00931/laws.FnExactPassesOver", spec := "fnExactPassesOver", apart := false, narrowed := true }
def FnExactPassesOverUptoSaid : Prop := fnExactPassesOverUptoRow.holds Try.pinned (OpenSpec.upto fnExactPassesOverSpec)

/-- 'laws.FnExactCrossingIndex', WHERE WHAT IT READS IS OF BULK AT MOST 1048576: true; the input reads as it did. -/
def fnExactCrossingIndexUptoRow : OpenClaim := { program := "ytpoolehcjiiakaa", sum := "9b8e83fb79eed916f0e4e4bd5023f689495b29eab155a23796e730a4e1466c83", func := "loop.example/g00931/laws.FnExactCrossingIndex", spec := "fnExactCrossingIndex", apart := false, narrowed := true }
def FnExactCrossingIndexUptoSaid : Prop := fnExactCrossingIndexUptoRow.holds Try.pinned (OpenSpec.upto fnExactCrossingIndexSpec)

/-- 'laws.FnExactUndoEdits', WHERE WHAT IT READS IS OF BULK AT MOST 1048576: true; the input reads as it did. -/
def fnExactUndoEditsUptoRow : OpenClaim := { program := "ytpoolehcjiiakaa", sum := "9b8e83fb79eed916f0e4e4bd5023f689495b29eab155a23796e730a4e1466c83", func := "loop.example/g00931/laws.FnExactUndoEdits", spec := "fnExactUndoEdits", apart := false, narrowed := true }
def FnExactUndoEditsUptoSaid : Prop := fnExactUndoEditsUptoRow.holds Try.pinned (OpenSpec.upto fnExactUndoEditsSpec)

/-- 'laws.FnExactEditsText', WHERE WHAT IT READS IS OF BULK AT MOST 1048576: true; the input reads as it did. -/
def fnExactEditsTextUptoRow : OpenClaim := { program := "ytpoolehcjiiakaa", sum := "9b8e83fb79eed916f0e4e4bd5023f689495b29eab155a23796e730a4e1466c83", func := "loop.example/g00931/laws.FnExactEditsText", spec := "fnExactEditsText", apart := false, narrowed := true }
def FnExactEditsTextUptoSaid : Prop := fnExactEditsTextUptoRow.holds Try.pinned (OpenSpec.upto fnExactEditsTextSpec)

/-- 'laws.FnExactApplyEdits', WHERE WHAT IT READS IS OF BULK AT MOST 1048576: true; the input reads as it did. -/
def fnExactApplyEditsUptoRow : OpenClaim := { program := "ytpoolehcjiiakaa", sum := "9b8e83fb79eed916f0e4e4bd5023f689495b29eab155a23796e730a4e1466c83", func := "loop.example/g00931/laws.FnExactApplyEdits", spec := "fnExactApplyEdits", apart := false, narrowed := true }
def FnExactApplyEditsUptoSaid : Prop := fnExactApplyEditsUptoRow.holds Try.pinned (OpenSpec.upto fnExactApplyEditsSpec)

/-- 'laws.FnExactReadEdits', WHERE WHAT IT READS IS OF BULK AT MOST 1048576: true; the input reads as it did. -/
def fnExactReadEditsUptoRow : OpenClaim := { program := "ytpoolehcjiiakaa", sum := "9b8e83fb79eed916f0e4e4bd5023f689495b29eab155a23796e730a4e1466c83", func := "loop.example/g00931/laws.FnExactReadEdits", spec := "fnExactReadEdits", apart := false, narrowed := true }
def FnExactReadEditsUptoSaid : Prop := fnExactReadEditsUptoRow.holds Try.pinned (OpenSpec.upto fnExactReadEditsSpec)

/-- 'laws.FnPassing', WHERE WHAT IT READS IS OF BULK AT MOST 1048576: true; the input reads as it did. -/
def fnPassingUptoRow : OpenClaim := { program := "ytpoolehcjiiakaa", sum := "9b8e83fb79eed916f0e4e4bd5023f689495b29eab155a23796e730a4e1466c83", func := "loop.example/g00931/laws.FnPassing", spec := "fnPassing", apart := false, narrowed := true }
def FnPassingUptoSaid : Prop := fnPassingUptoRow.holds Try.pinned (OpenSpec.upto fnPassingSpec)

/-- 'laws.FnEdits', WHERE WHAT IT READS IS OF BULK AT MOST 1048576: true; the input reads as it did. -/
def fnEditsUptoRow : OpenClaim := { program := "ytpoolehcjiiakaa", sum := "9b8e83fb79eed916f0e4e4bd5023f689495b29eab155a23796e730a4e1466c83", func := "loop.example/g00931/laws.FnEdits", spec := "fnEdits", apart := false, narrowed := true }
def FnEditsUptoSaid : Prop := fnEditsUptoRow.holds Try.pinned (OpenSpec.upto fnEditsSpec)

/-- 'laws.FnTurnedCodes', WHERE WHAT IT READS IS OF BULK AT MOST 1048576: true; the input reads as it did. -/
def fnTurnedCodesUptoRow : OpenClaim := { program := "ytpoolehcjiiakaa", sum := "9b8e83fb79eed916f0e4e4bd5023f689495b29eab155a23796e730a4e1466c83", func := "loop.example/g00931/laws.FnTurnedCodes", spec := "fnTurnedCodes", apart := false, narrowed := true }
def FnTurnedCodesUptoSaid : Prop := fnTurnedCodesUptoRow.holds Try.pinned (OpenSpec.upto fnTurnedCodesSpec)

/-- 'laws.FnExactCanonicalCount', WHERE WHAT IT READS IS OF BULK AT MOST 1048576: true; the input reads as it did. -/
def fnExactCanonicalCountUptoRow : OpenClaim := { program := "ytpoolehcjiiakaa", sum := "9b8e83fb79eed916f0e4e4bd5023f689495b29eab155a23796e730a4e1466c83", func := "loop.example/g00931/laws.FnExactCanonicalCount", spec := "fnExactCanonicalCount", apart := false, narrowed := true }
def FnExactCanonicalCountUptoSaid : Prop := fnExactCanonicalCountUptoRow.holds Try.pinned (OpenSpec.upto fnExactCanonicalCountSpec)

end Rows
end Go.Proofs.Ytpoolehcjiiakaa
