/-
  No cell of these rows narrows 'for every input' (looked for: loops, veiled, ifaces, maps, wideKeys, modest, calm, conditions, laid).
  DERIVED. THE GIVEN ROWS OF THIS SEAT. 9 by the template 'for every input the law returns true; each argument reads behind the call as it read before'; 0 by the template 'total and deterministic' (their statements: YthomfbmgiokdbaaTotals.lean).
  GIVEN WITH THE SEED: the statements are not yours to turn. If you find one false, say at which input.
  Laid BY PROGRAM, IN A SANDBOX (cutbox-rows.mjs): the forced cells as the released guide's own fill.sh prints them over the translation e36c148a42db48b4… (all of the seat's roots in one cut). By AI agents, Wed Nov 11 2026. No macro, syntax, notation, axiom, sorry.
-/
import Derived.Test.YthomfbmgiokdbaaChecked
import GoSem.Claim
import GoSem.ClaimJoined
import GoSem.ClaimMapViews
import Derived.JoinedTies
import Derived.KernelRfl
namespace Go.Proofs.Ythomfbmgiokdbaa
/- THE CELL 'sum', in the pinned program and in every row, IS THE sha256 OF THE DUMP (.gsa) THAT YthomfbmgiokdbaaProg.lean LOADS. Nothing in Lean hashes anything: it is a label: what it is worth is what the hold of that sum in a sandbox is worth. -/
noncomputable def Try.pinned : Pinned := { name := "ythomfbmgiokdbaa", sum := "e36c148a42db48b455149a47a7741870d21730ad887502722936cb987ee951aa", checked := Try.checked }
namespace Rows
def none {H : Type} : Left H := { results := [], args := [] }

/-- 'laws.FnExactPanelCount': WHATEVER THE INPUT: true; the input reads as it did. -/
def fnExactPanelCountSpec : ChangeSpec := { name := "fnExactPanelCount", fn := fun _ => fun
  | [d1, d2] => { results := [.lit (.bool true)], args := [d1, d2] }
  | _ => none }
def fnExactPanelCountRow : OpenClaim := { program := "ythomfbmgiokdbaa", sum := "e36c148a42db48b455149a47a7741870d21730ad887502722936cb987ee951aa", func := "loop.example/g00931/laws.FnExactPanelCount", spec := "fnExactPanelCount", apart := false }
def FnExactPanelCountSaid : Prop := fnExactPanelCountRow.holds Try.pinned (OpenSpec.ofChange fnExactPanelCountSpec)

/-- ITS FALSE NEIGHBOUR: 'it returns false'. Refute it at one input. -/
def fnExactPanelCountWrong : ChangeSpec := { name := "fnExactPanelCount", fn := fun _ => fun
  | [d1, d2] => { results := [.lit (.bool false)], args := [d1, d2] }
  | _ => none }
def FnExactPanelCountWrongFalsely : Prop := fnExactPanelCountRow.holds Try.pinned (OpenSpec.ofChange fnExactPanelCountWrong)

/-- 'laws.FnExactPanelNumber': WHATEVER THE INPUT: true; the input reads as it did. -/
def fnExactPanelNumberSpec : ChangeSpec := { name := "fnExactPanelNumber", fn := fun _ => fun
  | [d] => { results := [.lit (.bool true)], args := [d] }
  | _ => none }
def fnExactPanelNumberRow : OpenClaim := { program := "ythomfbmgiokdbaa", sum := "e36c148a42db48b455149a47a7741870d21730ad887502722936cb987ee951aa", func := "loop.example/g00931/laws.FnExactPanelNumber", spec := "fnExactPanelNumber", apart := false }
def FnExactPanelNumberSaid : Prop := fnExactPanelNumberRow.holds Try.pinned (OpenSpec.ofChange fnExactPanelNumberSpec)

/-- ITS FALSE NEIGHBOUR: 'it returns false'. Refute it at one input. -/
def fnExactPanelNumberWrong : ChangeSpec := { name := "fnExactPanelNumber", fn := fun _ => fun
  | [d] => { results := [.lit (.bool false)], args := [d] }
  | _ => none }
def FnExactPanelNumberWrongFalsely : Prop := fnExactPanelNumberRow.holds Try.pinned (OpenSpec.ofChange fnExactPanelNumberWrong)

/-- 'laws.FnExactCrossingsOf': WHATEVER THE INPUT: true; the input reads as it did. -/
def fnExactCrossingsOfSpec : ChangeSpec := { name := "fnExactCrossingsOf", fn := fun _ => fun
  | [d] => { results := [.lit (.bool true)], args := [d] }
  | _ => none }
def fnExactCrossingsOfRow : OpenClaim := { program := "ythomfbmgiokdbaa", sum := "e36c148a42db48b455149a47a7741870d21730ad887502722936cb987ee951aa", func := "loop.example/g00931/laws.FnExactCrossingsOf", spec := "fnExactCrossingsOf", apart := false }
def FnExactCrossingsOfSaid : Prop := fnExactCrossingsOfRow.holds Try.pinned (OpenSpec.ofChange fnExactCrossingsOfSpec)

/-- ITS FALSE NEIGHBOUR: 'it returns false'. Refute it at one input. -/
def fnExactCrossingsOfWrong : ChangeSpec := { name := "fnExactCrossingsOf", fn := fun _ => fun
  | [d] => { results := [.lit (.bool false)], args := [d] }
  | _ => none }
def FnExactCrossingsOfWrongFalsely : Prop := fnExactCrossingsOfRow.holds Try.pinned (OpenSpec.ofChange fnExactCrossingsOfWrong)

/-- 'laws.FnExactPanelWith': WHATEVER THE INPUT: true; the input reads as it did. -/
def fnExactPanelWithSpec : ChangeSpec := { name := "fnExactPanelWith", fn := fun _ => fun
  | [d1, d2, d3] => { results := [.lit (.bool true)], args := [d1, d2, d3] }
  | _ => none }
def fnExactPanelWithRow : OpenClaim := { program := "ythomfbmgiokdbaa", sum := "e36c148a42db48b455149a47a7741870d21730ad887502722936cb987ee951aa", func := "loop.example/g00931/laws.FnExactPanelWith", spec := "fnExactPanelWith", apart := false }
def FnExactPanelWithSaid : Prop := fnExactPanelWithRow.holds Try.pinned (OpenSpec.ofChange fnExactPanelWithSpec)

/-- ITS FALSE NEIGHBOUR: 'it returns false'. Refute it at one input. -/
def fnExactPanelWithWrong : ChangeSpec := { name := "fnExactPanelWith", fn := fun _ => fun
  | [d1, d2, d3] => { results := [.lit (.bool false)], args := [d1, d2, d3] }
  | _ => none }
def FnExactPanelWithWrongFalsely : Prop := fnExactPanelWithRow.holds Try.pinned (OpenSpec.ofChange fnExactPanelWithWrong)

/-- 'laws.FnExactIsCrossing': WHATEVER THE INPUT: true; the input reads as it did. -/
def fnExactIsCrossingSpec : ChangeSpec := { name := "fnExactIsCrossing", fn := fun _ => fun
  | [d1, d2] => { results := [.lit (.bool true)], args := [d1, d2] }
  | _ => none }
def fnExactIsCrossingRow : OpenClaim := { program := "ythomfbmgiokdbaa", sum := "e36c148a42db48b455149a47a7741870d21730ad887502722936cb987ee951aa", func := "loop.example/g00931/laws.FnExactIsCrossing", spec := "fnExactIsCrossing", apart := false }
def FnExactIsCrossingSaid : Prop := fnExactIsCrossingRow.holds Try.pinned (OpenSpec.ofChange fnExactIsCrossingSpec)

/-- ITS FALSE NEIGHBOUR: 'it returns false'. Refute it at one input. -/
def fnExactIsCrossingWrong : ChangeSpec := { name := "fnExactIsCrossing", fn := fun _ => fun
  | [d1, d2] => { results := [.lit (.bool false)], args := [d1, d2] }
  | _ => none }
def FnExactIsCrossingWrongFalsely : Prop := fnExactIsCrossingRow.holds Try.pinned (OpenSpec.ofChange fnExactIsCrossingWrong)

/-- 'laws.FnExactOverSlope': WHATEVER THE INPUT: true; the input reads as it did. -/
def fnExactOverSlopeSpec : ChangeSpec := { name := "fnExactOverSlope", fn := fun _ => fun
  | [d1, d2] => { results := [.lit (.bool true)], args := [d1, d2] }
  | _ => none }
def fnExactOverSlopeRow : OpenClaim := { program := "ythomfbmgiokdbaa", sum := "e36c148a42db48b455149a47a7741870d21730ad887502722936cb987ee951aa", func := "loop.example/g00931/laws.FnExactOverSlope", spec := "fnExactOverSlope", apart := false }
def FnExactOverSlopeSaid : Prop := fnExactOverSlopeRow.holds Try.pinned (OpenSpec.ofChange fnExactOverSlopeSpec)

/-- ITS FALSE NEIGHBOUR: 'it returns false'. Refute it at one input. -/
def fnExactOverSlopeWrong : ChangeSpec := { name := "fnExactOverSlope", fn := fun _ => fun
  | [d1, d2] => { results := [.lit (.bool false)], args := [d1, d2] }
  | _ => none }
def FnExactOverSlopeWrongFalsely : Prop := fnExactOverSlopeRow.holds Try.pinned (OpenSpec.ofChange fnExactOverSlopeWrong)

/-- 'laws.FnExactCrossingIndex': WHATEVER THE INPUT: true; the input reads as it did. -/
def fnExactCrossingIndexSpec : ChangeSpec := { name := "fnExactCrossingIndex", fn := fun _ => fun
  | [d1, d2] => { results := [.lit (.bool true)], args := [d1, d2] }
  | _ => none }
def fnExactCrossingIndexRow : OpenClaim := { program := "ythomfbmgiokdbaa", sum := "e36c148a42db48b455149a47a7741870d21730ad887502722936cb987ee951aa", func := "loop.example/g00931/laws.FnExactCrossingIndex", spec := "fnExactCrossingIndex", apart := false }
def FnExactCrossingIndexSaid : Prop := fnExactCrossingIndexRow.holds Try.pinned (OpenSpec.ofChange fnExactCrossingIndexSpec)

/-- ITS FALSE NEIGHBOUR: 'it returns false'. Refute it at one input. -/
def fnExactCrossingIndexWrong : ChangeSpec := { name := "fnExactCrossingIndex", fn := fun _ => fun
  | [d1, d2] => { results := [.lit (.bool false)], args := [d1, d2] }
  | _ => none }
def FnExactCrossingIndexWrongFalsely : Prop := fnExactCrossingIndexRow.holds Try.pinned (OpenSpec.ofChange fnExactCrossingIndexWrong)

/-- 'laws.FnExactPassesOver': WHATEVER THE INPUT: true; the input reads as it did. -/
def fnExactPassesOverSpec : ChangeSpec := { name := "fnExactPassesOver", fn := fun _ => fun
  | [d1, d2] => { results := [.lit (.bool true)], args := [d1, d2] }
  | _ => none }
def fnExactPassesOverRow : OpenClaim := { program := "ythomfbmgiokdbaa", sum := "e36c148a42db48b455149a47a7741870d21730ad887502722936cb987ee951aa", func := "loop.example/g00931/laws.FnExactPassesOver", spec := "fnExactPassesOver", apart := false }
def FnExactPassesOverSaid : Prop := fnExactPassesOverRow.holds Try.pinned (OpenSpec.ofChange fnExactPassesOverSpec)

/-- ITS FALSE NEIGHBOUR: 'it returns false'. Refute it at one input. -/
def fnExactPassesOverWrong : ChangeSpec := { name := "fnExactPassesOver", fn := fun _ => fun
  | [d1, d2] => { results := [.lit (.bool false)], args := [d1, d2] }
  | _ => none }
def FnExactPassesOverWrongFalsely : Prop := fnExactPassesOverRow.holds Try.pinned (OpenSpec.ofChange fnExactPassesOverWrong)

/-- 'laws.FnPassing': WHATEVER THE INPUT: true; the input reads as it did. -/
def fnPassingSpec : ChangeSpec := { name := "fnPassing", fn := fun _ => fun
  | [d] => { results := [.lit (.bool true)], args := [d] }
  | _ => none }
def fnPassingRow : OpenClaim := { program := "ythomfbmgiokdbaa", sum := "e36c148a42db48b455149a47a7741870d21730ad887502722936cb987ee951aa", func := "loop.example/g00931/laws.FnPassing", spec := "fnPassing", apart := false }
def FnPassingSaid : Prop := fnPassingRow.holds Try.pinned (OpenSpec.ofChange fnPassingSpec)

/-- ITS FALSE NEIGHBOUR: 'it returns false'. Refute it at one input. -/
def fnPassingWrong : ChangeSpec := { name := "fnPassing", fn := fun _ => fun
  | [d] => { results := [.lit (.bool false)], args := [d] }
  | _ => none }
def FnPassingWrongFalsely : Prop := fnPassingRow.holds Try.pinned (OpenSpec.ofChange fnPassingWrong)

/- THE SECOND FORM. 'bulk': how many values and letters a reading holds, each counted each time it is reached (what is shared counts as often as it is met; a slice's spare places count too). A statement '..UptoSaid' is the law's where the arguments, and the package variables that the reading takes, are together of bulk at most 1048576: NARROWER than '..Said'. Prove '..Said' where nothing that the law and all that it calls make is longer than what came in: it says more and counts as full. Else prove '..UptoSaid'. A law counts once. -/
mutual
def uptoBulk {H : Type} : DataW H → Nat
  | .lit (.string bytes) => bytes.length + 1
  | .lit _ => 1
  | .nil => 1
  | .ptr d => uptoBulk d + 1
  | .slice elems spare => uptoBulkAll elems + uptoBulkAll spare + 1
  | .agg parts => uptoBulkAll parts + 1
  | .iface _ d => uptoBulk d + 1
  | .map entries => uptoBulkEntries entries + 1
  | .held _ => 1
def uptoBulkAll {H : Type} : List (DataW H) → Nat
  | [] => 0
  | d :: r => uptoBulk d + uptoBulkAll r
def uptoBulkEntries {H : Type} : List (Lit × DataW H) → Nat
  | [] => 0
  | x :: r => uptoBulkEntry x + uptoBulkEntries r
def uptoBulkEntry {H : Type} : Lit × DataW H → Nat
  | (.string bytes, d) => bytes.length + uptoBulk d + 1
  | (_, d) => uptoBulk d + 1
 end
def uptoSmall : (H : Type) → List (DataW H) → Bool := fun _ ds => decide (uptoBulkAll ds ≤ 1048576)
def OpenSpec.upto (s : _root_.Go.ChangeSpec) : _root_.Go.OpenSpec := { _root_.Go.OpenSpec.ofChange s with cond := some uptoSmall }

/-- 'laws.FnExactPanelCount', WHERE WHAT IT READS IS OF BULK AT MOST 1048576: true; the input reads as it did. -/
def fnExactPanelCountUptoRow : OpenClaim := { program := "ythomfbmgiokdbaa", sum := "e36c148a42db48b455149a47a7741870d21730ad887502722936cb987ee951aa", func := "loop.example/g00931/laws.FnExactPanelCount", spec := "fnExactPanelCount", apart := false, narrowed := true }
def FnExactPanelCountUptoSaid : Prop := fnExactPanelCountUptoRow.holds Try.pinned (OpenSpec.upto fnExactPanelCountSpec)

/-- 'laws.FnExactPanelNumber', WHERE WHAT IT READS IS OF BULK AT MOST 1048576: true; the input reads as it did. -/
def fnExactPanelNumberUptoRow : OpenClaim := { program := "ythomfbmgiokdbaa", sum := "e36c148a42db48b455149a47a7741870d21730ad887502722936cb987ee951aa", func := "loop.example/g00931/laws.FnExactPanelNumber", spec := "fnExactPanelNumber", apart := false, narrowed := true }
def FnExactPanelNumberUptoSaid : Prop := fnExactPanelNumberUptoRow.holds Try.pinned (OpenSpec.upto fnExactPanelNumberSpec)

/-- 'laws.FnExactCrossingsOf', WHERE WHAT IT READS IS OF BULK AT MOST 1048576: true; the input reads as it did. -/
def fnExactCrossingsOfUptoRow : OpenClaim := { program := "ythomfbmgiokdbaa", sum := "e36c148a42db48b455149a47a7741870d21730ad887502722936cb987ee951aa", func := "loop.example/g00931/laws.FnExactCrossingsOf", spec := "fnExactCrossingsOf", apart := false, narrowed := true }
def FnExactCrossingsOfUptoSaid : Prop := fnExactCrossingsOfUptoRow.holds Try.pinned (OpenSpec.upto fnExactCrossingsOfSpec)

/-- 'laws.FnExactPanelWith', WHERE WHAT IT READS IS OF BULK AT MOST 1048576: true; the input reads as it did. -/
def fnExactPanelWithUptoRow : OpenClaim := { program := "ythomfbmgiokdbaa", sum := "e36c148a42db48b455149a47a7741870d21730ad887502722936cb987ee951aa", func := "loop.example/g00931/laws.FnExactPanelWith", spec := "fnExactPanelWith", apart := false, narrowed := true }
def FnExactPanelWithUptoSaid : Prop := fnExactPanelWithUptoRow.holds Try.pinned (OpenSpec.upto fnExactPanelWithSpec)

/-- 'laws.FnExactIsCrossing', WHERE WHAT IT READS IS OF BULK AT MOST 1048576: true; the input reads as it did. -/
def fnExactIsCrossingUptoRow : OpenClaim := { program := "ythomfbmgiokdbaa", sum := "e36c148a42db48b455149a47a7741870d21730ad887502722936cb987ee951aa", func := "loop.example/g00931/laws.FnExactIsCrossing", spec := "fnExactIsCrossing", apart := false, narrowed := true }
def FnExactIsCrossingUptoSaid : Prop := fnExactIsCrossingUptoRow.holds Try.pinned (OpenSpec.upto fnExactIsCrossingSpec)

/-- 'laws.FnExactOverSlope', WHERE WHAT IT READS IS OF BULK AT MOST 1048576: true; the input reads as it did. -/
def fnExactOverSlopeUptoRow : OpenClaim := { program := "ythomfbmgiokdbaa", sum := "e36c148a42db48b455149a47a7741870d21730ad887502722936cb987ee951aa", func := "loop.example/g00931/laws.FnExactOverSlope", spec := "fnExactOverSlope", apart := false, narrowed := true }
def FnExactOverSlopeUptoSaid : Prop := fnExactOverSlopeUptoRow.holds Try.pinned (OpenSpec.upto fnExactOverSlopeSpec)

/-- 'laws.FnExactCrossingIndex', WHERE WHAT IT READS IS OF BULK AT MOST 1048576: true; the input reads as it did. -/
def fnExactCrossingIndexUptoRow : OpenClaim := { program := "ythomfbmgiokdbaa", sum := "e36c148a42db48b455149a47a7741870d21730ad887502722936cb987ee951aa", func := "loop.example/g00931/laws.FnExactCrossingIndex", spec := "fnExactCrossingIndex", apart := false, narrowed := true }
def FnExactCrossingIndexUptoSaid : Prop := fnExactCrossingIndexUptoRow.holds Try.pinned (OpenSpec.upto fnExactCrossingIndexSpec)

/-- 'laws.FnExactPassesOver', WHERE WHAT IT READS IS OF BULK AT MOST 1048576: true; the input reads as it did. -/
def fnExactPassesOverUptoRow : OpenClaim := { program := "ythomfbmgiokdbaa", sum := "e36c148a42db48b455149a47a7741870d21730ad887502722936cb987ee951aa", func := "loop.example/g00931/laws.FnExactPassesOver", spec := "fnExactPassesOver", apart := false, narrowed := true }
def FnExactPassesOverUptoSaid : Prop := fnExactPassesOverUptoRow.holds Try.pinned (OpenSpec.upto fnExactPassesOverSpec)

/-- 'laws.FnPassing', WHERE WHAT IT READS IS OF BULK AT MOST 1048576: true; the input reads as it did. -/
def fnPassingUptoRow : OpenClaim := { program := "ythomfbmgiokdbaa", sum := "e36c148a42db48b455149a47a7741870d21730ad887502722936cb987ee951aa", func := "loop.example/g00931/laws.FnPassing", spec := "fnPassing", apart := false, narrowed := true }
def FnPassingUptoSaid : Prop := fnPassingUptoRow.holds Try.pinned (OpenSpec.upto fnPassingSpec)

end Rows
end Go.Proofs.Ythomfbmgiokdbaa
