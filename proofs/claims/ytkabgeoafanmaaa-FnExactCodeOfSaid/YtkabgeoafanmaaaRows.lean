/-
  No cell of these rows narrows 'for every input' (looked for: loops, veiled, ifaces, maps, wideKeys, modest, calm, conditions, laid).
  DERIVED. THE GIVEN ROWS OF THIS SEAT. 10 by the template 'for every input the law returns true; each argument reads behind the call as it read before'; 0 by the template 'total and deterministic' (their statements: YtkabgeoafanmaaaTotals.lean).
  GIVEN WITH THE SEED: the statements are not yours to turn. If you find one false, say at which input.
  Laid BY PROGRAM, IN A SANDBOX (cutbox-rows.mjs): the forced cells as the released guide's own fill.sh prints them over the translation 3a003e752c6d5407… (all of the seat's roots in one cut). By AI agents, Wed Nov 11 2026. No macro, syntax, notation, axiom, sorry.
-/
import Derived.Test.YtkabgeoafanmaaaChecked
import GoSem.Claim
import GoSem.ClaimJoined
import GoSem.ClaimMapViews
import Derived.JoinedTies
import Derived.KernelRfl
namespace Go.Proofs.Ytkabgeoafanmaaa
/- THE CELL 'sum', in the pinned program and in every row, IS THE sha256 OF THE DUMP (.gsa) THAT YtkabgeoafanmaaaProg.lean LOADS. Nothing in Lean hashes anything: it is a label: what it is worth is what the hold of that sum in a sandbox is worth. -/
noncomputable def Try.pinned : Pinned := { name := "ytkabgeoafanmaaa", sum := "3a003e752c6d54070d19e7aa7ebf60c668b84e40c4534378a9e0513dd4707aca", checked := Try.checked }
namespace Rows
def none {H : Type} : Left H := { results := [], args := [] }

/-- 'laws.FnExactMeanCurves': WHATEVER THE INPUT: true; the input reads as it did. -/
def fnExactMeanCurvesSpec : ChangeSpec := { name := "fnExactMeanCurves", fn := fun _ => fun
  | [d1, d2] => { results := [.lit (.bool true)], args := [d1, d2] }
  | _ => none }
def fnExactMeanCurvesRow : OpenClaim := { program := "ytkabgeoafanmaaa", sum := "3a003e752c6d54070d19e7aa7ebf60c668b84e40c4534378a9e0513dd4707aca", func := "loop.example/g00931/laws.FnExactMeanCurves", spec := "fnExactMeanCurves", apart := false }
def FnExactMeanCurvesSaid : Prop := fnExactMeanCurvesRow.holds Try.pinned (OpenSpec.ofChange fnExactMeanCurvesSpec)

/-- ITS FALSE NEIGHBOUR: 'it returns false'. Refute it at one input. -/
def fnExactMeanCurvesWrong : ChangeSpec := { name := "fnExactMeanCurves", fn := fun _ => fun
  | [d1, d2] => { results := [.lit (.bool false)], args := [d1, d2] }
  | _ => none }
def FnExactMeanCurvesWrongFalsely : Prop := fnExactMeanCurvesRow.holds Try.pinned (OpenSpec.ofChange fnExactMeanCurvesWrong)

/-- 'laws.FnExactCurveTable': WHATEVER THE INPUT: true; the input reads as it did. -/
def fnExactCurveTableSpec : ChangeSpec := { name := "fnExactCurveTable", fn := fun _ => fun
  | [d1, d2] => { results := [.lit (.bool true)], args := [d1, d2] }
  | _ => none }
def fnExactCurveTableRow : OpenClaim := { program := "ytkabgeoafanmaaa", sum := "3a003e752c6d54070d19e7aa7ebf60c668b84e40c4534378a9e0513dd4707aca", func := "loop.example/g00931/laws.FnExactCurveTable", spec := "fnExactCurveTable", apart := false }
def FnExactCurveTableSaid : Prop := fnExactCurveTableRow.holds Try.pinned (OpenSpec.ofChange fnExactCurveTableSpec)

/-- ITS FALSE NEIGHBOUR: 'it returns false'. Refute it at one input. -/
def fnExactCurveTableWrong : ChangeSpec := { name := "fnExactCurveTable", fn := fun _ => fun
  | [d1, d2] => { results := [.lit (.bool false)], args := [d1, d2] }
  | _ => none }
def FnExactCurveTableWrongFalsely : Prop := fnExactCurveTableRow.holds Try.pinned (OpenSpec.ofChange fnExactCurveTableWrong)

/-- 'laws.FnExactFirstWith': WHATEVER THE INPUT: true; the input reads as it did. -/
def fnExactFirstWithSpec : ChangeSpec := { name := "fnExactFirstWith", fn := fun _ => fun
  | [d1, d2, d3] => { results := [.lit (.bool true)], args := [d1, d2, d3] }
  | _ => none }
def fnExactFirstWithRow : OpenClaim := { program := "ytkabgeoafanmaaa", sum := "3a003e752c6d54070d19e7aa7ebf60c668b84e40c4534378a9e0513dd4707aca", func := "loop.example/g00931/laws.FnExactFirstWith", spec := "fnExactFirstWith", apart := false }
def FnExactFirstWithSaid : Prop := fnExactFirstWithRow.holds Try.pinned (OpenSpec.ofChange fnExactFirstWithSpec)

/-- ITS FALSE NEIGHBOUR: 'it returns false'. Refute it at one input. -/
def fnExactFirstWithWrong : ChangeSpec := { name := "fnExactFirstWith", fn := fun _ => fun
  | [d1, d2, d3] => { results := [.lit (.bool false)], args := [d1, d2, d3] }
  | _ => none }
def FnExactFirstWithWrongFalsely : Prop := fnExactFirstWithRow.holds Try.pinned (OpenSpec.ofChange fnExactFirstWithWrong)

/-- 'laws.FnExactMirrorTable': WHATEVER THE INPUT: true; the input reads as it did. -/
def fnExactMirrorTableSpec : ChangeSpec := { name := "fnExactMirrorTable", fn := fun _ => fun
  | [d1, d2] => { results := [.lit (.bool true)], args := [d1, d2] }
  | _ => none }
def fnExactMirrorTableRow : OpenClaim := { program := "ytkabgeoafanmaaa", sum := "3a003e752c6d54070d19e7aa7ebf60c668b84e40c4534378a9e0513dd4707aca", func := "loop.example/g00931/laws.FnExactMirrorTable", spec := "fnExactMirrorTable", apart := false }
def FnExactMirrorTableSaid : Prop := fnExactMirrorTableRow.holds Try.pinned (OpenSpec.ofChange fnExactMirrorTableSpec)

/-- ITS FALSE NEIGHBOUR: 'it returns false'. Refute it at one input. -/
def fnExactMirrorTableWrong : ChangeSpec := { name := "fnExactMirrorTable", fn := fun _ => fun
  | [d1, d2] => { results := [.lit (.bool false)], args := [d1, d2] }
  | _ => none }
def FnExactMirrorTableWrongFalsely : Prop := fnExactMirrorTableRow.holds Try.pinned (OpenSpec.ofChange fnExactMirrorTableWrong)

/-- 'laws.FnExactTableLines': WHATEVER THE INPUT: true; the input reads as it did. -/
def fnExactTableLinesSpec : ChangeSpec := { name := "fnExactTableLines", fn := fun _ => fun
  | [d1, d2] => { results := [.lit (.bool true)], args := [d1, d2] }
  | _ => none }
def fnExactTableLinesRow : OpenClaim := { program := "ytkabgeoafanmaaa", sum := "3a003e752c6d54070d19e7aa7ebf60c668b84e40c4534378a9e0513dd4707aca", func := "loop.example/g00931/laws.FnExactTableLines", spec := "fnExactTableLines", apart := false }
def FnExactTableLinesSaid : Prop := fnExactTableLinesRow.holds Try.pinned (OpenSpec.ofChange fnExactTableLinesSpec)

/-- ITS FALSE NEIGHBOUR: 'it returns false'. Refute it at one input. -/
def fnExactTableLinesWrong : ChangeSpec := { name := "fnExactTableLines", fn := fun _ => fun
  | [d1, d2] => { results := [.lit (.bool false)], args := [d1, d2] }
  | _ => none }
def FnExactTableLinesWrongFalsely : Prop := fnExactTableLinesRow.holds Try.pinned (OpenSpec.ofChange fnExactTableLinesWrong)

/-- 'laws.FnExactCountOver': WHATEVER THE INPUT: true; the input reads as it did. -/
def fnExactCountOverSpec : ChangeSpec := { name := "fnExactCountOver", fn := fun _ => fun
  | [d1, d2] => { results := [.lit (.bool true)], args := [d1, d2] }
  | _ => none }
def fnExactCountOverRow : OpenClaim := { program := "ytkabgeoafanmaaa", sum := "3a003e752c6d54070d19e7aa7ebf60c668b84e40c4534378a9e0513dd4707aca", func := "loop.example/g00931/laws.FnExactCountOver", spec := "fnExactCountOver", apart := false }
def FnExactCountOverSaid : Prop := fnExactCountOverRow.holds Try.pinned (OpenSpec.ofChange fnExactCountOverSpec)

/-- ITS FALSE NEIGHBOUR: 'it returns false'. Refute it at one input. -/
def fnExactCountOverWrong : ChangeSpec := { name := "fnExactCountOver", fn := fun _ => fun
  | [d1, d2] => { results := [.lit (.bool false)], args := [d1, d2] }
  | _ => none }
def FnExactCountOverWrongFalsely : Prop := fnExactCountOverRow.holds Try.pinned (OpenSpec.ofChange fnExactCountOverWrong)

/-- 'laws.FnExactPassesOf': WHATEVER THE INPUT: true; the input reads as it did. -/
def fnExactPassesOfSpec : ChangeSpec := { name := "fnExactPassesOf", fn := fun _ => fun
  | [d1, d2] => { results := [.lit (.bool true)], args := [d1, d2] }
  | _ => none }
def fnExactPassesOfRow : OpenClaim := { program := "ytkabgeoafanmaaa", sum := "3a003e752c6d54070d19e7aa7ebf60c668b84e40c4534378a9e0513dd4707aca", func := "loop.example/g00931/laws.FnExactPassesOf", spec := "fnExactPassesOf", apart := false }
def FnExactPassesOfSaid : Prop := fnExactPassesOfRow.holds Try.pinned (OpenSpec.ofChange fnExactPassesOfSpec)

/-- ITS FALSE NEIGHBOUR: 'it returns false'. Refute it at one input. -/
def fnExactPassesOfWrong : ChangeSpec := { name := "fnExactPassesOf", fn := fun _ => fun
  | [d1, d2] => { results := [.lit (.bool false)], args := [d1, d2] }
  | _ => none }
def FnExactPassesOfWrongFalsely : Prop := fnExactPassesOfRow.holds Try.pinned (OpenSpec.ofChange fnExactPassesOfWrong)

/-- 'laws.FnExactCodeOf': WHATEVER THE INPUT: true; the input reads as it did. -/
def fnExactCodeOfSpec : ChangeSpec := { name := "fnExactCodeOf", fn := fun _ => fun
  | [d] => { results := [.lit (.bool true)], args := [d] }
  | _ => none }
def fnExactCodeOfRow : OpenClaim := { program := "ytkabgeoafanmaaa", sum := "3a003e752c6d54070d19e7aa7ebf60c668b84e40c4534378a9e0513dd4707aca", func := "loop.example/g00931/laws.FnExactCodeOf", spec := "fnExactCodeOf", apart := false }
def FnExactCodeOfSaid : Prop := fnExactCodeOfRow.holds Try.pinned (OpenSpec.ofChange fnExactCodeOfSpec)

/-- ITS FALSE NEIGHBOUR: 'it returns false'. Refute it at one input. -/
def fnExactCodeOfWrong : ChangeSpec := { name := "fnExactCodeOf", fn := fun _ => fun
  | [d] => { results := [.lit (.bool false)], args := [d] }
  | _ => none }
def FnExactCodeOfWrongFalsely : Prop := fnExactCodeOfRow.holds Try.pinned (OpenSpec.ofChange fnExactCodeOfWrong)

/-- 'laws.FnExactStepsTo': WHATEVER THE INPUT: true; the input reads as it did. -/
def fnExactStepsToSpec : ChangeSpec := { name := "fnExactStepsTo", fn := fun _ => fun
  | [d1, d2] => { results := [.lit (.bool true)], args := [d1, d2] }
  | _ => none }
def fnExactStepsToRow : OpenClaim := { program := "ytkabgeoafanmaaa", sum := "3a003e752c6d54070d19e7aa7ebf60c668b84e40c4534378a9e0513dd4707aca", func := "loop.example/g00931/laws.FnExactStepsTo", spec := "fnExactStepsTo", apart := false }
def FnExactStepsToSaid : Prop := fnExactStepsToRow.holds Try.pinned (OpenSpec.ofChange fnExactStepsToSpec)

/-- ITS FALSE NEIGHBOUR: 'it returns false'. Refute it at one input. -/
def fnExactStepsToWrong : ChangeSpec := { name := "fnExactStepsTo", fn := fun _ => fun
  | [d1, d2] => { results := [.lit (.bool false)], args := [d1, d2] }
  | _ => none }
def FnExactStepsToWrongFalsely : Prop := fnExactStepsToRow.holds Try.pinned (OpenSpec.ofChange fnExactStepsToWrong)

/-- 'laws.FnExactFirstChange': WHATEVER THE INPUT: true; the input reads as it did. -/
def fnExactFirstChangeSpec : ChangeSpec := { name := "fnExactFirstChange", fn := fun _ => fun
  | [d1, d2] => { results := [.lit (.bool true)], args := [d1, d2] }
  | _ => none }
def fnExactFirstChangeRow : OpenClaim := { program := "ytkabgeoafanmaaa", sum := "3a003e752c6d54070d19e7aa7ebf60c668b84e40c4534378a9e0513dd4707aca", func := "loop.example/g00931/laws.FnExactFirstChange", spec := "fnExactFirstChange", apart := false }
def FnExactFirstChangeSaid : Prop := fnExactFirstChangeRow.holds Try.pinned (OpenSpec.ofChange fnExactFirstChangeSpec)

/-- ITS FALSE NEIGHBOUR: 'it returns false'. Refute it at one input. -/
def fnExactFirstChangeWrong : ChangeSpec := { name := "fnExactFirstChange", fn := fun _ => fun
  | [d1, d2] => { results := [.lit (.bool false)], args := [d1, d2] }
  | _ => none }
def FnExactFirstChangeWrongFalsely : Prop := fnExactFirstChangeRow.holds Try.pinned (OpenSpec.ofChange fnExactFirstChangeWrong)

/- THE SECOND FORM. 'bulk': how many values and letters a reading holds, each counted each time it is reached (what is shared counts as often as it is met; a slice's spare places count too). A statement '..UptoSaid' is the law's where the arguments, and the package variables that the reading takes, are together of bulk at most 1048576: NARROWER than '..Said'. Prove '..Said' where nothing that the law and all that it calls make is longer than what came in: it says more and counts as full. Else prove '..UptoSaid'. A law counts once. -/
mutual
def uptoBulk {H : Type} : DataW H → Nat
  | .lit (.string bytes) => bytes.length + 1
  | .lit _ => 1
  | .nil => 1
  | .ptr d => uptoBulk d + 1
  | .slice elems spare => uptoBulkAll elems + uptoBulkAll spare + 1
  | .agg parts => uptoBulkAll parts + 1
  | .iface _ d => uptoBulk d + 1
  | .map entries => uptoBulkEntries entries + 1
  | .held _ => 1
def uptoBulkAll {H : Type} : List (DataW H) → Nat
  | [] => 0
  | d :: r => uptoBulk d + uptoBulkAll r
def uptoBulkEntries {H : Type} : List (Lit × DataW H) → Nat
  | [] => 0
  | x :: r => uptoBulkEntry x + uptoBulkEntries r
def uptoBulkEntry {H : Type} : Lit × DataW H → Nat
  | (.string bytes, d) => bytes.length + uptoBulk d + 1
  | (_, d) => uptoBulk d + 1
 end
def uptoSmall : (H : Type) → List (DataW H) → Bool := fun _ ds => decide (uptoBulkAll ds ≤ 1048576)
def OpenSpec.upto (s : _root_.Go.ChangeSpec) : _root_.Go.OpenSpec := { _root_.Go.OpenSpec.ofChange s with cond := some uptoSmall }

/-- 'laws.FnExactMeanCurves', WHERE WHAT IT READS IS OF BULK AT MOST 1048576: true; the input reads as it did. -/
def fnExactMeanCurvesUptoRow : OpenClaim := { program := "ytkabgeoafanmaaa", sum := "3a003e752c6d54070d19e7aa7ebf60c668b84e40c4534378a9e0513dd4707aca", func := "loop.example/g00931/laws.FnExactMeanCurves", spec := "fnExactMeanCurves", apart := false, narrowed := true }
def FnExactMeanCurvesUptoSaid : Prop := fnExactMeanCurvesUptoRow.holds Try.pinned (OpenSpec.upto fnExactMeanCurvesSpec)

/-- 'laws.FnExactCurveTable', WHERE WHAT IT READS IS OF BULK AT MOST 1048576: true; the input reads as it did. -/
def fnExactCurveTableUptoRow : OpenClaim := { program := "ytkabgeoafanmaaa", sum := "3a003e752c6d54070d19e7aa7ebf60c668b84e40c4534378a9e0513dd4707aca", func := "loop.example/g00931/laws.FnExactCurveTable", spec := "fnExactCurveTable", apart := false, narrowed := true }
def FnExactCurveTableUptoSaid : Prop := fnExactCurveTableUptoRow.holds Try.pinned (OpenSpec.upto fnExactCurveTableSpec)

/-- 'laws.FnExactFirstWith', WHERE WHAT IT READS IS OF BULK AT MOST 1048576: true; the input reads as it did. -/
def fnExactFirstWithUptoRow : OpenClaim := { program := "ytkabgeoafanmaaa", sum := "3a003e752c6d54070d19e7aa7ebf60c668b84e40c4534378a9e0513dd4707aca", func := "loop.example/g00931/laws.FnExactFirstWith", spec := "fnExactFirstWith", apart := false, narrowed := true }
def FnExactFirstWithUptoSaid : Prop := fnExactFirstWithUptoRow.holds Try.pinned (OpenSpec.upto fnExactFirstWithSpec)

/-- 'laws.FnExactMirrorTable', WHERE WHAT IT READS IS OF BULK AT MOST 1048576: true; the input reads as it did. -/
def fnExactMirrorTableUptoRow : OpenClaim := { program := "ytkabgeoafanmaaa", sum := "3a003e752c6d54070d19e7aa7ebf60c668b84e40c4534378a9e0513dd4707aca", func := "loop.example/g00931/laws.FnExactMirrorTable", spec := "fnExactMirrorTable", apart := false, narrowed := true }
def FnExactMirrorTableUptoSaid : Prop := fnExactMirrorTableUptoRow.holds Try.pinned (OpenSpec.upto fnExactMirrorTableSpec)

/-- 'laws.FnExactTableLines', WHERE WHAT IT READS IS OF BULK AT MOST 1048576: true; the input reads as it did. -/
def fnExactTableLinesUptoRow : OpenClaim := { program := "ytkabgeoafanmaaa", sum := "3a003e752c6d54070d19e7aa7ebf60c668b84e40c4534378a9e0513dd4707aca", func := "loop.example/g00931/laws.FnExactTableLines", spec := "fnExactTableLines", apart := false, narrowed := true }
def FnExactTableLinesUptoSaid : Prop := fnExactTableLinesUptoRow.holds Try.pinned (OpenSpec.upto fnExactTableLinesSpec)

/-- 'laws.FnExactCountOver', WHERE WHAT IT READS IS OF BULK AT MOST 1048576: true; the input reads as it did. -/
def fnExactCountOverUptoRow : OpenClaim := { program := "ytkabgeoafanmaaa", sum := "3a003e752c6d54070d19e7aa7ebf60c668b84e40c4534378a9e0513dd4707aca", func := "loop.example/g00931/laws.FnExactCountOver", spec := "fnExactCountOver", apart := false, narrowed := true }
def FnExactCountOverUptoSaid : Prop := fnExactCountOverUptoRow.holds Try.pinned (OpenSpec.upto fnExactCountOverSpec)

/-- 'laws.FnExactPassesOf', WHERE WHAT IT READS IS OF BULK AT MOST 1048576: true; the input reads as it did. -/
def fnExactPassesOfUptoRow : OpenClaim := { program := "ytkabgeoafanmaaa", sum := "3a003e752c6d54070d19e7aa7ebf60c668b84e40c4534378a9e0513dd4707aca", func := "loop.example/g00931/laws.FnExactPassesOf", spec := "fnExactPassesOf", apart := false, narrowed := true }
def FnExactPassesOfUptoSaid : Prop := fnExactPassesOfUptoRow.holds Try.pinned (OpenSpec.upto fnExactPassesOfSpec)

/-- 'laws.FnExactCodeOf', WHERE WHAT IT READS IS OF BULK AT MOST 1048576: true; the input reads as it did. -/
def fnExactCodeOfUptoRow : OpenClaim := { program := "ytkabgeoafanmaaa", sum := "3a003e752c6d54070d19e7aa7ebf60c668b84e40c4534378a9e0513dd4707aca", func := "loop.example/g00931/laws.FnExactCodeOf", spec := "fnExactCodeOf", apart := false, narrowed := true }
def FnExactCodeOfUptoSaid : Prop := fnExactCodeOfUptoRow.holds Try.pinned (OpenSpec.upto fnExactCodeOfSpec)

/-- 'laws.FnExactStepsTo', WHERE WHAT IT READS IS OF BULK AT MOST 1048576: true; the input reads as it did. -/
def fnExactStepsToUptoRow : OpenClaim := { program := "ytkabgeoafanmaaa", sum := "3a003e752c6d54070d19e7aa7ebf60c668b84e40c4534378a9e0513dd4707aca", func := "loop.example/g00931/laws.FnExactStepsTo", spec := "fnExactStepsTo", apart := false, narrowed := true }
def FnExactStepsToUptoSaid : Prop := fnExactStepsToUptoRow.holds Try.pinned (OpenSpec.upto fnExactStepsToSpec)

/-- 'laws.FnExactFirstChange', WHERE WHAT IT READS IS OF BULK AT MOST 1048576: true; the input reads as it did. -/
def fnExactFirstChangeUptoRow : OpenClaim := { program := "ytkabgeoafanmaaa", sum := "3a003e752c6d54070d19e7aa7ebf60c668b84e40c4534378a9e0513dd4707aca", func := "loop.example/g00931/laws.FnExactFirstChange", spec := "fnExactFirstChange", apart := false, narrowed := true }
def FnExactFirstChangeUptoSaid : Prop := fnExactFirstChangeUptoRow.holds Try.pinned (OpenSpec.upto fnExactFirstChangeSpec)

end Rows
end Go.Proofs.Ytkabgeoafanmaaa
