/-
  No cell of these rows narrows 'for every input' (looked for: loops, veiled, ifaces, maps, wideKeys, modest, calm, conditions, laid).
  DERIVED. THE GIVEN ROWS OF THIS SEAT. 10 by the template 'for every input the law returns true; each argument reads behind the call as it read before'; 0 by the template 'total and deterministic' (their statements: YtkplanpcmkbfiaaTotals.lean).
  GIVEN WITH THE SEED: the statements are not yours to turn. If you find one false, say at which input.
  Laid BY PROGRAM, IN A SANDBOX (cutbox-rows.mjs): the forced cells as the released guide's own fill.sh prints them over the translation ca5345a055ed08b0… (all of the seat's roots in one cut). By AI agents, Wed Nov 11 2026. No macro, syntax, notation, axiom, sorry.
-/
import Derived.Test.YtkplanpcmkbfiaaChecked
import GoSem.Claim
import GoSem.ClaimJoined
import GoSem.ClaimMapViews
import Derived.JoinedTies
import Derived.KernelRfl
namespace Go.Proofs.Ytkplanpcmkbfiaa
/- THE CELL 'sum', in the pinned program and in every row, IS THE sha256 OF THE DUMP (.gsa) THAT YtkplanpcmkbfiaaProg.lean LOADS. Nothing in Lean hashes anything: it is a label: what it is worth is what the hold of that sum in a sandbox is worth. -/
noncomputable def Try.pinned : Pinned := { name := "ytkplanpcmkbfiaa", sum := "ca5345a055ed08b0f41131689d76cf55b23f45ef1adff7267ba440ff33c87e19", checked := Try.checked }
namespace Rows
def none {H : Type} : Left H := { results := [], args := [] }

/-- 'laws.FnExactCurvesAfter': WHATEVER THE INPUT: true; the input reads as it did. -/
def fnExactCurvesAfterSpec : ChangeSpec := { name := "fnExactCurvesAfter", fn := fun _ => fun
  | [d] => { results := [.lit (.bool true)], args := [d] }
  | _ => none }
def fnExactCurvesAfterRow : OpenClaim := { program := "ytkplanpcmkbfiaa", sum := "ca5345a055ed08b0f41131689d76cf55b23f45ef1adff7267ba440ff33c87e19", func := "loop.example/g00931/laws.FnExactCurvesAfter", spec := "fnExactCurvesAfter", unfollowed := true, recurses := true, apart := false }
def FnExactCurvesAfterSaid : Prop := fnExactCurvesAfterRow.holds Try.pinned (OpenSpec.ofChange fnExactCurvesAfterSpec)

/-- ITS FALSE NEIGHBOUR: 'it returns false'. Refute it at one input. -/
def fnExactCurvesAfterWrong : ChangeSpec := { name := "fnExactCurvesAfter", fn := fun _ => fun
  | [d] => { results := [.lit (.bool false)], args := [d] }
  | _ => none }
def FnExactCurvesAfterWrongFalsely : Prop := fnExactCurvesAfterRow.holds Try.pinned (OpenSpec.ofChange fnExactCurvesAfterWrong)

/-- 'laws.FnExactCurveRange': WHATEVER THE INPUT: true; the input reads as it did. -/
def fnExactCurveRangeSpec : ChangeSpec := { name := "fnExactCurveRange", fn := fun _ => fun
  | [d1, d2] => { results := [.lit (.bool true)], args := [d1, d2] }
  | _ => none }
def fnExactCurveRangeRow : OpenClaim := { program := "ytkplanpcmkbfiaa", sum := "ca5345a055ed08b0f41131689d76cf55b23f45ef1adff7267ba440ff33c87e19", func := "loop.example/g00931/laws.FnExactCurveRange", spec := "fnExactCurveRange", unfollowed := true, recurses := true, apart := false }
def FnExactCurveRangeSaid : Prop := fnExactCurveRangeRow.holds Try.pinned (OpenSpec.ofChange fnExactCurveRangeSpec)

/-- ITS FALSE NEIGHBOUR: 'it returns false'. Refute it at one input. -/
def fnExactCurveRangeWrong : ChangeSpec := { name := "fnExactCurveRange", fn := fun _ => fun
  | [d1, d2] => { results := [.lit (.bool false)], args := [d1, d2] }
  | _ => none }
def FnExactCurveRangeWrongFalsely : Prop := fnExactCurveRangeRow.holds Try.pinned (OpenSpec.ofChange fnExactCurveRangeWrong)

/-- 'laws.FnExactCountEdits': WHATEVER THE INPUT: true; the input reads as it did. -/
def fnExactCountEditsSpec : ChangeSpec := { name := "fnExactCountEdits", fn := fun _ => fun
  | [d1, d2, d3] => { results := [.lit (.bool true)], args := [d1, d2, d3] }
  | _ => none }
def fnExactCountEditsRow : OpenClaim := { program := "ytkplanpcmkbfiaa", sum := "ca5345a055ed08b0f41131689d76cf55b23f45ef1adff7267ba440ff33c87e19", func := "loop.example/g00931/laws.FnExactCountEdits", spec := "fnExactCountEdits", unfollowed := true, recurses := true, apart := false }
def FnExactCountEditsSaid : Prop := fnExactCountEditsRow.holds Try.pinned (OpenSpec.ofChange fnExactCountEditsSpec)

/-- ITS FALSE NEIGHBOUR: 'it returns false'. Refute it at one input. -/
def fnExactCountEditsWrong : ChangeSpec := { name := "fnExactCountEdits", fn := fun _ => fun
  | [d1, d2, d3] => { results := [.lit (.bool false)], args := [d1, d2, d3] }
  | _ => none }
def FnExactCountEditsWrongFalsely : Prop := fnExactCountEditsRow.holds Try.pinned (OpenSpec.ofChange fnExactCountEditsWrong)

/-- 'laws.FnExactFewestEdits': WHATEVER THE INPUT: true; the input reads as it did. -/
def fnExactFewestEditsSpec : ChangeSpec := { name := "fnExactFewestEdits", fn := fun _ => fun
  | [d1, d2, d3] => { results := [.lit (.bool true)], args := [d1, d2, d3] }
  | _ => none }
def fnExactFewestEditsRow : OpenClaim := { program := "ytkplanpcmkbfiaa", sum := "ca5345a055ed08b0f41131689d76cf55b23f45ef1adff7267ba440ff33c87e19", func := "loop.example/g00931/laws.FnExactFewestEdits", spec := "fnExactFewestEdits", unfollowed := true, recurses := true, apart := false }
def FnExactFewestEditsSaid : Prop := fnExactFewestEditsRow.holds Try.pinned (OpenSpec.ofChange fnExactFewestEditsSpec)

/-- ITS FALSE NEIGHBOUR: 'it returns false'. Refute it at one input. -/
def fnExactFewestEditsWrong : ChangeSpec := { name := "fnExactFewestEdits", fn := fun _ => fun
  | [d1, d2, d3] => { results := [.lit (.bool false)], args := [d1, d2, d3] }
  | _ => none }
def FnExactFewestEditsWrongFalsely : Prop := fnExactFewestEditsRow.holds Try.pinned (OpenSpec.ofChange fnExactFewestEditsWrong)

/-- 'laws.FnRanges': WHATEVER THE INPUT: true; the input reads as it did. -/
def fnRangesSpec : ChangeSpec := { name := "fnRanges", fn := fun _ => fun
  | [d] => { results := [.lit (.bool true)], args := [d] }
  | _ => none }
def fnRangesRow : OpenClaim := { program := "ytkplanpcmkbfiaa", sum := "ca5345a055ed08b0f41131689d76cf55b23f45ef1adff7267ba440ff33c87e19", func := "loop.example/g00931/laws.FnRanges", spec := "fnRanges", unfollowed := true, recurses := true, apart := false }
def FnRangesSaid : Prop := fnRangesRow.holds Try.pinned (OpenSpec.ofChange fnRangesSpec)

/-- ITS FALSE NEIGHBOUR: 'it returns false'. Refute it at one input. -/
def fnRangesWrong : ChangeSpec := { name := "fnRanges", fn := fun _ => fun
  | [d] => { results := [.lit (.bool false)], args := [d] }
  | _ => none }
def FnRangesWrongFalsely : Prop := fnRangesRow.holds Try.pinned (OpenSpec.ofChange fnRangesWrong)

/-- 'laws.FnFewest': WHATEVER THE INPUT: true; the input reads as it did. -/
def fnFewestSpec : ChangeSpec := { name := "fnFewest", fn := fun _ => fun
  | [d1, d2] => { results := [.lit (.bool true)], args := [d1, d2] }
  | _ => none }
def fnFewestRow : OpenClaim := { program := "ytkplanpcmkbfiaa", sum := "ca5345a055ed08b0f41131689d76cf55b23f45ef1adff7267ba440ff33c87e19", func := "loop.example/g00931/laws.FnFewest", spec := "fnFewest", unfollowed := true, recurses := true, apart := false }
def FnFewestSaid : Prop := fnFewestRow.holds Try.pinned (OpenSpec.ofChange fnFewestSpec)

/-- ITS FALSE NEIGHBOUR: 'it returns false'. Refute it at one input. -/
def fnFewestWrong : ChangeSpec := { name := "fnFewest", fn := fun _ => fun
  | [d1, d2] => { results := [.lit (.bool false)], args := [d1, d2] }
  | _ => none }
def FnFewestWrongFalsely : Prop := fnFewestRow.holds Try.pinned (OpenSpec.ofChange fnFewestWrong)

/-- 'laws.FnPassing': WHATEVER THE INPUT: true; the input reads as it did. -/
def fnPassingSpec : ChangeSpec := { name := "fnPassing", fn := fun _ => fun
  | [d] => { results := [.lit (.bool true)], args := [d] }
  | _ => none }
def fnPassingRow : OpenClaim := { program := "ytkplanpcmkbfiaa", sum := "ca5345a055ed08b0f41131689d76cf55b23f45ef1adff7267ba440ff33c87e19", func := "loop.example/g00931/laws.FnPassing", spec := "fnPassing", apart := false }
def FnPassingSaid : Prop := fnPassingRow.holds Try.pinned (OpenSpec.ofChange fnPassingSpec)

/-- ITS FALSE NEIGHBOUR: 'it returns false'. Refute it at one input. -/
def fnPassingWrong : ChangeSpec := { name := "fnPassing", fn := fun _ => fun
  | [d] => { results := [.lit (.bool false)], args := [d] }
  | _ => none }
def FnPassingWrongFalsely : Prop := fnPassingRow.holds Try.pinned (OpenSpec.ofChange fnPassingWrong)

/-- 'laws.FnEdits': WHATEVER THE INPUT: true; the input reads as it did. -/
def fnEditsSpec : ChangeSpec := { name := "fnEdits", fn := fun _ => fun
  | [d] => { results := [.lit (.bool true)], args := [d] }
  | _ => none }
def fnEditsRow : OpenClaim := { program := "ytkplanpcmkbfiaa", sum := "ca5345a055ed08b0f41131689d76cf55b23f45ef1adff7267ba440ff33c87e19", func := "loop.example/g00931/laws.FnEdits", spec := "fnEdits", apart := false }
def FnEditsSaid : Prop := fnEditsRow.holds Try.pinned (OpenSpec.ofChange fnEditsSpec)

/-- ITS FALSE NEIGHBOUR: 'it returns false'. Refute it at one input. -/
def fnEditsWrong : ChangeSpec := { name := "fnEdits", fn := fun _ => fun
  | [d] => { results := [.lit (.bool false)], args := [d] }
  | _ => none }
def FnEditsWrongFalsely : Prop := fnEditsRow.holds Try.pinned (OpenSpec.ofChange fnEditsWrong)

/-- 'laws.FnStepsTo': WHATEVER THE INPUT: true; the input reads as it did. -/
def fnStepsToSpec : ChangeSpec := { name := "fnStepsTo", fn := fun _ => fun
  | [d] => { results := [.lit (.bool true)], args := [d] }
  | _ => none }
def fnStepsToRow : OpenClaim := { program := "ytkplanpcmkbfiaa", sum := "ca5345a055ed08b0f41131689d76cf55b23f45ef1adff7267ba440ff33c87e19", func := "loop.example/g00931/laws.FnStepsTo", spec := "fnStepsTo", apart := false }
def FnStepsToSaid : Prop := fnStepsToRow.holds Try.pinned (OpenSpec.ofChange fnStepsToSpec)

/-- ITS FALSE NEIGHBOUR: 'it returns false'. Refute it at one input. -/
def fnStepsToWrong : ChangeSpec := { name := "fnStepsTo", fn := fun _ => fun
  | [d] => { results := [.lit (.bool false)], args := [d] }
  | _ => none }
def FnStepsToWrongFalsely : Prop := fnStepsToRow.holds Try.pinned (OpenSpec.ofChange fnStepsToWrong)

/-- 'laws.FnCrossings': WHATEVER THE INPUT: true; the input reads as it did. -/
def fnCrossingsSpec : ChangeSpec := { name := "fnCrossings", fn := fun _ => fun
  | [d] => { results := [.lit (.bool true)], args := [d] }
  | _ => none }
def fnCrossingsRow : OpenClaim := { program := "ytkplanpcmkbfiaa", sum := "ca5345a055ed08b0f41131689d76cf55b23f45ef1adff7267ba440ff33c87e19", func := "loop.example/g00931/laws.FnCrossings", spec := "fnCrossings", apart := false }
def FnCrossingsSaid : Prop := fnCrossingsRow.holds Try.pinned (OpenSpec.ofChange fnCrossingsSpec)

/-- ITS FALSE NEIGHBOUR: 'it returns false'. Refute it at one input. -/
def fnCrossingsWrong : ChangeSpec := { name := "fnCrossings", fn := fun _ => fun
  | [d] => { results := [.lit (.bool false)], args := [d] }
  | _ => none }
def FnCrossingsWrongFalsely : Prop := fnCrossingsRow.holds Try.pinned (OpenSpec.ofChange fnCrossingsWrong)

/- THE SECOND FORM. 'bulk': how many values and letters a reading holds, each counted each time it is reached (what is shared counts as often as it is met; a slice's spare places count too). A statement '..UptoSaid' is the law's where the arguments, and the package variables that the reading takes, are together of bulk at most 1048576: NARROWER than '..Said'. Prove '..Said' where nothing that the law and all that it calls make is longer than what came in: it says more and counts as full. Else prove '..UptoSaid'. A law counts once. -/
mutual
def uptoBulk {H : Type} : DataW H → Nat
  | .lit (.string bytes) => bytes.length + 1
  | .lit _ => 1
  | .nil => 1
  | .ptr d => uptoBulk d + 1
  | .slice elems spare => uptoBulkAll elems + uptoBulkAll spare + 1
  | .agg parts => uptoBulkAll parts + 1
  | .iface _ d => uptoBulk d + 1
  | .map entries => uptoBulkEntries entries + 1
  | .held _ => 1
def uptoBulkAll {H : Type} : List (DataW H) → Nat
  | [] => 0
  | d :: r => uptoBulk d + uptoBulkAll r
def uptoBulkEntries {H : Type} : List (Lit × DataW H) → Nat
  | [] => 0
  | x :: r => uptoBulkEntry x + uptoBulkEntries r
def uptoBulkEntry {H : Type} : Lit × DataW H → Nat
  | (.string bytes, d) => bytes.length + uptoBulk d + 1
  | (_, d) => uptoBulk d + 1
 end
def uptoSmall : (H : Type) → List (DataW H) → Bool := fun _ ds => decide (uptoBulkAll ds ≤ 1048576)
def OpenSpec.upto (s : _root_.Go.ChangeSpec) : _root_.Go.OpenSpec := { _root_.Go.OpenSpec.ofChange s with cond := some uptoSmall }

/-- 'laws.FnExactCurvesAfter', WHERE WHAT IT READS IS OF BULK AT MOST 1048576: true; the input reads as it did. -/
def fnExactCurvesAfterUptoRow : OpenClaim := { program := "ytkplanpcmkbfiaa", sum := "ca5345a055ed08b0f41131689d76cf55b23f45ef1adff7267ba440ff33c87e19", func := "loop.example/g00931/laws.FnExactCurvesAfter", spec := "fnExactCurvesAfter", unfollowed := true, recurses := true, apart := false, narrowed := true }
def FnExactCurvesAfterUptoSaid : Prop := fnExactCurvesAfterUptoRow.holds Try.pinned (OpenSpec.upto fnExactCurvesAfterSpec)

/-- 'laws.FnExactCurveRange', WHERE WHAT IT READS IS OF BULK AT MOST 1048576: true; the input reads as it did. -/
def fnExactCurveRangeUptoRow : OpenClaim := { program := "ytkplanpcmkbfiaa", sum := "ca5345a055ed08b0f41131689d76cf55b23f45ef1adff7267ba440ff33c87e19", func := "loop.example/g00931/laws.FnExactCurveRange", spec := "fnExactCurveRange", unfollowed := true, recurses := true, apart := false, narrowed := true }
def FnExactCurveRangeUptoSaid : Prop := fnExactCurveRangeUptoRow.holds Try.pinned (OpenSpec.upto fnExactCurveRangeSpec)

/-- 'laws.FnExactCountEdits', WHERE WHAT IT READS IS OF BULK AT MOST 1048576: true; the input reads as it did. -/
def fnExactCountEditsUptoRow : OpenClaim := { program := "ytkplanpcmkbfiaa", sum := "ca5345a055ed08b0f41131689d76cf55b23f45ef1adff7267ba440ff33c87e19", func := "loop.example/g00931/laws.FnExactCountEdits", spec := "fnExactCountEdits", unfollowed := true, recurses := true, apart := false, narrowed := true }
def FnExactCountEditsUptoSaid : Prop := fnExactCountEditsUptoRow.holds Try.pinned (OpenSpec.upto fnExactCountEditsSpec)

/-- 'laws.FnExactFewestEdits', WHERE WHAT IT READS IS OF BULK AT MOST 1048576: true; the input reads as it did. -/
def fnExactFewestEditsUptoRow : OpenClaim := { program := "ytkplanpcmkbfiaa", sum := "ca5345a055ed08b0f41131689d76cf55b23f45ef1adff7267ba440ff33c87e19", func := "loop.example/g00931/laws.FnExactFewestEdits", spec := "fnExactFewestEdits", unfollowed := true, recurses := true, apart := false, narrowed := true }
def FnExactFewestEditsUptoSaid : Prop := fnExactFewestEditsUptoRow.holds Try.pinned (OpenSpec.upto fnExactFewestEditsSpec)

/-- 'laws.FnRanges', WHERE WHAT IT READS IS OF BULK AT MOST 1048576: true; the input reads as it did. -/
def fnRangesUptoRow : OpenClaim := { program := "ytkplanpcmkbfiaa", sum := "ca5345a055ed08b0f41131689d76cf55b23f45ef1adff7267ba440ff33c87e19", func := "loop.example/g00931/laws.FnRanges", spec := "fnRanges", unfollowed := true, recurses := true, apart := false, narrowed := true }
def FnRangesUptoSaid : Prop := fnRangesUptoRow.holds Try.pinned (OpenSpec.upto fnRangesSpec)

/-- 'laws.FnFewest', WHERE WHAT IT READS IS OF BULK AT MOST 1048576: true; the input reads as it did. -/
def fnFewestUptoRow : OpenClaim := { program := "ytkplanpcmkbfiaa", sum := "ca5345a055ed08b0f41131689d76cf55b23f45ef1adff7267ba440ff33c87e19", func := "loop.example/g00931/laws.FnFewest", spec := "fnFewest", unfollowed := true, recurses := true, apart := false, narrowed := true }
def FnFewestUptoSaid : Prop := fnFewestUptoRow.holds Try.pinned (OpenSpec.upto fnFewestSpec)

/-- 'laws.FnPassing', WHERE WHAT IT READS IS OF BULK AT MOST 1048576: true; the input reads as it did. -/
def fnPassingUptoRow : OpenClaim := { program := "ytkplanpcmkbfiaa", sum := "ca5345a055ed08b0f41131689d76cf55b23f45ef1adff7267ba440ff33c87e19", func := "loop.example/g00931/laws.FnPassing", spec := "fnPassing", apart := false, narrowed := true }
def FnPassingUptoSaid : Prop := fnPassingUptoRow.holds Try.pinned (OpenSpec.upto fnPassingSpec)

/-- 'laws.FnEdits', WHERE WHAT IT READS IS OF BULK AT MOST 1048576: true; the input reads as it did. -/
def fnEditsUptoRow : OpenClaim := { program := "ytkplanpcmkbfiaa", sum := "ca5345a055ed08b0f41131689d76cf55b23f45ef1adff7267ba440ff33c87e19", func := "loop.example/g00931/laws.FnEdits", spec := "fnEdits", apart := false, narrowed := true }
def FnEditsUptoSaid : Prop := fnEditsUptoRow.holds Try.pinned (OpenSpec.upto fnEditsSpec)

/-- 'laws.FnStepsTo', WHERE WHAT IT READS IS OF BULK AT MOST 1048576: true; the input reads as it did. -/
def fnStepsToUptoRow : OpenClaim := { program := "ytkplanpcmkbfiaa", sum := "ca5345a055ed08b0f41131689d76cf55b23f45ef1adff7267ba440ff33c87e19", func := "loop.example/g00931/laws.FnStepsTo", spec := "fnStepsTo", apart := false, narrowed := true }
def FnStepsToUptoSaid : Prop := fnStepsToUptoRow.holds Try.pinned (OpenSpec.upto fnStepsToSpec)

/-- 'laws.FnCrossings', WHERE WHAT IT READS IS OF BULK AT MOST 1048576: true; the input reads as it did. -/
def fnCrossingsUptoRow : OpenClaim := { program := "ytkplanpcmkbfiaa", sum := "ca5345a055ed08b0f41131689d76cf55b23f45ef1adff7267ba440ff33c87e19", func := "loop.example/g00931/laws.FnCrossings", spec := "fnCrossings", apart := false, narrowed := true }
def FnCrossingsUptoSaid : Prop := fnCrossingsUptoRow.holds Try.pinned (OpenSpec.upto fnCrossingsSpec)

end Rows
end Go.Proofs.Ytkplanpcmkbfiaa
