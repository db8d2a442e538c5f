/-
  No cell of these rows narrows 'for every input' (looked for: loops, veiled, ifaces, maps, wideKeys, modest, calm, conditions, laid).
  DERIVED. THE GIVEN ROWS OF THIS SEAT. 8 by the template 'for every input the law returns true; each argument reads behind the call as it read before'; 0 by the template 'total and deterministic' (their statements: YtmfinopdokkjcaaTotals.lean).
  GIVEN WITH THE SEED: the statements are not yours to turn. If you find one false, say at which input.
  Laid BY PROGRAM, IN A SANDBOX (cutbox-rows.mjs): the forced cells as the released guide's own fill.sh prints them over the translation 9871836cce7494c0… (all of the seat's roots in one cut). By AI agents, Wed Nov 11 2026. No macro, syntax, notation, axiom, sorry.
-/
import Derived.Test.YtmfinopdokkjcaaChecked
import GoSem.Claim
import GoSem.ClaimJoined
import GoSem.ClaimMapViews
import Derived.JoinedTies
import Derived.KernelRfl
namespace Go.Proofs.Ytmfinopdokkjcaa
/- THE CELL 'sum', in the pinned program and in every row, IS THE sha256 OF THE DUMP (.gsa) THAT YtmfinopdokkjcaaProg.lean LOADS. Nothing in Lean hashes anything: it is a label: what it is worth is what the hold of that sum in a sandbox is worth. -/
noncomputable def Try.pinned : Pinned := { name := "ytmfinopdokkjcaa", sum := "9871836cce7494c01ed01696413b25f78ae34b8de60beafa241ea2eca864a273", checked := Try.checked }
namespace Rows
def none {H : Type} : Left H := { results := [], args := [] }

/-- 'laws.FnTurnedCodes': WHATEVER THE INPUT: true; the input reads as it did. -/
def fnTurnedCodesSpec : ChangeSpec := { name := "fnTurnedCodes", fn := fun _ => fun
  | [d1, d2] => { results := [.lit (.bool true)], args := [d1, d2] }
  | _ => none }
def fnTurnedCodesRow : OpenClaim := { program := "ytmfinopdokkjcaa", sum := "9871836cce7494c01ed01696413b25f78ae34b8de60beafa241ea2eca864a273", func := "loop.example/g00931/laws.FnTurnedCodes", spec := "fnTurnedCodes", apart := false }
def FnTurnedCodesSaid : Prop := fnTurnedCodesRow.holds Try.pinned (OpenSpec.ofChange fnTurnedCodesSpec)

/-- ITS FALSE NEIGHBOUR: 'it returns false'. Refute it at one input. -/
def fnTurnedCodesWrong : ChangeSpec := { name := "fnTurnedCodes", fn := fun _ => fun
  | [d1, d2] => { results := [.lit (.bool false)], args := [d1, d2] }
  | _ => none }
def FnTurnedCodesWrongFalsely : Prop := fnTurnedCodesRow.holds Try.pinned (OpenSpec.ofChange fnTurnedCodesWrong)

/-- 'laws.FnCodes': WHATEVER THE INPUT: true; the input reads as it did. -/
def fnCodesSpec : ChangeSpec := { name := "fnCodes", fn := fun _ => fun
  | [d1, d2] => { results := [.lit (.bool true)], args := [d1, d2] }
  | _ => none }
def fnCodesRow : OpenClaim := { program := "ytmfinopdokkjcaa", sum := "9871836cce7494c01ed01696413b25f78ae34b8de60beafa241ea2eca864a273", func := "loop.example/g00931/laws.FnCodes", spec := "fnCodes", unfollowed := true, recurses := true, apart := false }
def FnCodesSaid : Prop := fnCodesRow.holds Try.pinned (OpenSpec.ofChange fnCodesSpec)

/-- ITS FALSE NEIGHBOUR: 'it returns false'. Refute it at one input. -/
def fnCodesWrong : ChangeSpec := { name := "fnCodes", fn := fun _ => fun
  | [d1, d2] => { results := [.lit (.bool false)], args := [d1, d2] }
  | _ => none }
def FnCodesWrongFalsely : Prop := fnCodesRow.holds Try.pinned (OpenSpec.ofChange fnCodesWrong)

/-- 'laws.FnExactCanonicalCount': WHATEVER THE INPUT: true; the input reads as it did. -/
def fnExactCanonicalCountSpec : ChangeSpec := { name := "fnExactCanonicalCount", fn := fun _ => fun
  | [d1, d2] => { results := [.lit (.bool true)], args := [d1, d2] }
  | _ => none }
def fnExactCanonicalCountRow : OpenClaim := { program := "ytmfinopdokkjcaa", sum := "9871836cce7494c01ed01696413b25f78ae34b8de60beafa241ea2eca864a273", func := "loop.example/g00931/laws.FnExactCanonicalCount", spec := "fnExactCanonicalCount", apart := false }
def FnExactCanonicalCountSaid : Prop := fnExactCanonicalCountRow.holds Try.pinned (OpenSpec.ofChange fnExactCanonicalCountSpec)

/-- ITS FALSE NEIGHBOUR: 'it returns false'. Refute it at one input. -/
def fnExactCanonicalCountWrong : ChangeSpec := { name := "fnExactCanonicalCount", fn := fun _ => fun
  | [d1, d2] => { results := [.lit (.bool false)], args := [d1, d2] }
  | _ => none }
def FnExactCanonicalCountWrongFalsely : Prop := fnExactCanonicalCountRow.holds Try.pinned (OpenSpec.ofChange fnExactCanonicalCountWrong)

/-- 'laws.FnTabled': WHATEVER THE INPUT: true; the input reads as it did. -/
def fnTabledSpec : ChangeSpec := { name := "fnTabled", fn := fun _ => fun
  | [d] => { results := [.lit (.bool true)], args := [d] }
  | _ => none }
def fnTabledRow : OpenClaim := { program := "ytmfinopdokkjcaa", sum := "9871836cce7494c01ed01696413b25f78ae34b8de60beafa241ea2eca864a273", func := "loop.example/g00931/laws.FnTabled", spec := "fnTabled", apart := false }
def FnTabledSaid : Prop := fnTabledRow.holds Try.pinned (OpenSpec.ofChange fnTabledSpec)

/-- ITS FALSE NEIGHBOUR: 'it returns false'. Refute it at one input. -/
def fnTabledWrong : ChangeSpec := { name := "fnTabled", fn := fun _ => fun
  | [d] => { results := [.lit (.bool false)], args := [d] }
  | _ => none }
def FnTabledWrongFalsely : Prop := fnTabledRow.holds Try.pinned (OpenSpec.ofChange fnTabledWrong)

/-- 'laws.FnCurveTables': WHATEVER THE INPUT: true; the input reads as it did. -/
def fnCurveTablesSpec : ChangeSpec := { name := "fnCurveTables", fn := fun _ => fun
  | [d] => { results := [.lit (.bool true)], args := [d] }
  | _ => none }
def fnCurveTablesRow : OpenClaim := { program := "ytmfinopdokkjcaa", sum := "9871836cce7494c01ed01696413b25f78ae34b8de60beafa241ea2eca864a273", func := "loop.example/g00931/laws.FnCurveTables", spec := "fnCurveTables", apart := false }
def FnCurveTablesSaid : Prop := fnCurveTablesRow.holds Try.pinned (OpenSpec.ofChange fnCurveTablesSpec)

/-- ITS FALSE NEIGHBOUR: 'it returns false'. Refute it at one input. -/
def fnCurveTablesWrong : ChangeSpec := { name := "fnCurveTables", fn := fun _ => fun
  | [d] => { results := [.lit (.bool false)], args := [d] }
  | _ => none }
def FnCurveTablesWrongFalsely : Prop := fnCurveTablesRow.holds Try.pinned (OpenSpec.ofChange fnCurveTablesWrong)

/-- 'laws.FnSharedPoints': WHATEVER THE INPUT: true; the input reads as it did. -/
def fnSharedPointsSpec : ChangeSpec := { name := "fnSharedPoints", fn := fun _ => fun
  | [d] => { results := [.lit (.bool true)], args := [d] }
  | _ => none }
def fnSharedPointsRow : OpenClaim := { program := "ytmfinopdokkjcaa", sum := "9871836cce7494c01ed01696413b25f78ae34b8de60beafa241ea2eca864a273", func := "loop.example/g00931/laws.FnSharedPoints", spec := "fnSharedPoints", apart := false }
def FnSharedPointsSaid : Prop := fnSharedPointsRow.holds Try.pinned (OpenSpec.ofChange fnSharedPointsSpec)

/-- ITS FALSE NEIGHBOUR: 'it returns false'. Refute it at one input. -/
def fnSharedPointsWrong : ChangeSpec := { name := "fnSharedPoints", fn := fun _ => fun
  | [d] => { results := [.lit (.bool false)], args := [d] }
  | _ => none }
def FnSharedPointsWrongFalsely : Prop := fnSharedPointsRow.holds Try.pinned (OpenSpec.ofChange fnSharedPointsWrong)

/-- 'laws.FnEffects': WHATEVER THE INPUT: true; the input reads as it did. -/
def fnEffectsSpec : ChangeSpec := { name := "fnEffects", fn := fun _ => fun
  | [d] => { results := [.lit (.bool true)], args := [d] }
  | _ => none }
def fnEffectsRow : OpenClaim := { program := "ytmfinopdokkjcaa", sum := "9871836cce7494c01ed01696413b25f78ae34b8de60beafa241ea2eca864a273", func := "loop.example/g00931/laws.FnEffects", spec := "fnEffects", unfollowed := true, recurses := true, apart := false }
def FnEffectsSaid : Prop := fnEffectsRow.holds Try.pinned (OpenSpec.ofChange fnEffectsSpec)

/-- ITS FALSE NEIGHBOUR: 'it returns false'. Refute it at one input. -/
def fnEffectsWrong : ChangeSpec := { name := "fnEffects", fn := fun _ => fun
  | [d] => { results := [.lit (.bool false)], args := [d] }
  | _ => none }
def FnEffectsWrongFalsely : Prop := fnEffectsRow.holds Try.pinned (OpenSpec.ofChange fnEffectsWrong)

/-- 'laws.FnTop': WHATEVER THE INPUT: true; the input reads as it did. -/
def fnTopSpec : ChangeSpec := { name := "fnTop", fn := fun _ => fun
  | [d1, d2] => { results := [.lit (.bool true)], args := [d1, d2] }
  | _ => none }
def fnTopRow : OpenClaim := { program := "ytmfinopdokkjcaa", sum := "9871836cce7494c01ed01696413b25f78ae34b8de60beafa241ea2eca864a273", func := "loop.example/g00931/laws.FnTop", spec := "fnTop", unfollowed := true, recurses := true, apart := false }
def FnTopSaid : Prop := fnTopRow.holds Try.pinned (OpenSpec.ofChange fnTopSpec)

/-- ITS FALSE NEIGHBOUR: 'it returns false'. Refute it at one input. -/
def fnTopWrong : ChangeSpec := { name := "fnTop", fn := fun _ => fun
  | [d1, d2] => { results := [.lit (.bool false)], args := [d1, d2] }
  | _ => none }
def FnTopWrongFalsely : Prop := fnTopRow.holds Try.pinned (OpenSpec.ofChange fnTopWrong)

/- THE SECOND FORM. 'bulk': how many values and letters a reading holds, each counted each time it is reached (what is shared counts as often as it is met; a slice's spare places count too). A statement '..UptoSaid' is the law's where the arguments, and the package variables that the reading takes, are together of bulk at most 1048576: NARROWER than '..Said'. Prove '..Said' where nothing that the law and all that it calls make is longer than what came in: it says more and counts as full. Else prove '..UptoSaid'. A law counts once. -/
mutual
def uptoBulk {H : Type} : DataW H → Nat
  | .lit (.string bytes) => bytes.length + 1
  | .lit _ => 1
  | .nil => 1
  | .ptr d => uptoBulk d + 1
  | .slice elems spare => uptoBulkAll elems + uptoBulkAll spare + 1
  | .agg parts => uptoBulkAll parts + 1
  | .iface _ d => uptoBulk d + 1
  | .map entries => uptoBulkEntries entries + 1
  | .held _ => 1
def uptoBulkAll {H : Type} : List (DataW H) → Nat
  | [] => 0
  | d :: r => uptoBulk d + uptoBulkAll r
def uptoBulkEntries {H : Type} : List (Lit × DataW H) → Nat
  | [] => 0
  | x :: r => uptoBulkEntry x + uptoBulkEntries r
def uptoBulkEntry {H : Type} : Lit × DataW H → Nat
  | (.string bytes, d) => bytes.length + uptoBulk d + 1
  | (_, d) => uptoBulk d + 1
 end
def uptoSmall : (H : Type) → List (DataW H) → Bool := fun _ ds => decide (uptoBulkAll ds ≤ 1048576)
def OpenSpec.upto (s : _root_.Go.ChangeSpec) : _root_.Go.OpenSpec := { _root_.Go.OpenSpec.ofChange s with cond := some uptoSmall }

/-- 'laws.FnTurnedCodes', WHERE WHAT IT READS IS OF BULK AT MOST 1048576: true; the input reads as it did. -/
def fnTurnedCodesUptoRow : OpenClaim := { program := "ytmfinopdokkjcaa", sum := "9871836cce7494c01ed01696413b25f78ae34b8de60beafa241ea2eca864a273", func := "loop.example/g00931/laws.FnTurnedCodes", spec := "fnTurnedCodes", apart := false, narrowed := true }
def FnTurnedCodesUptoSaid : Prop := fnTurnedCodesUptoRow.holds Try.pinned (OpenSpec.upto fnTurnedCodesSpec)

/-- 'laws.FnCodes', WHERE WHAT IT READS IS OF BULK AT MOST 1048576: true; the input reads as it did. -/
def fnCodesUptoRow : OpenClaim := { program := "ytmfinopdokkjcaa", sum := "9871836cce7494c01ed01696413b25f78ae34b8de60beafa241ea2eca864a273", func := "loop.example/g00931/laws.FnCodes", spec := "fnCodes", unfollowed := true, recurses := true, apart := false, narrowed := true }
def FnCodesUptoSaid : Prop := fnCodesUptoRow.holds Try.pinned (OpenSpec.upto fnCodesSpec)

/-- 'laws.FnExactCanonicalCount', WHERE WHAT IT READS IS OF BULK AT MOST 1048576: true; the input reads as it did. -/
def fnExactCanonicalCountUptoRow : OpenClaim := { program := "ytmfinopdokkjcaa", sum := "9871836cce7494c01ed01696413b25f78ae34b8de60beafa241ea2eca864a273", func := "loop.example/g00931/laws.FnExactCanonicalCount", spec := "fnExactCanonicalCount", apart := false, narrowed := true }
def FnExactCanonicalCountUptoSaid : Prop := fnExactCanonicalCountUptoRow.holds Try.pinned (OpenSpec.upto fnExactCanonicalCountSpec)

/-- 'laws.FnTabled', WHERE WHAT IT READS IS OF BULK AT MOST 1048576: true; the input reads as it did. -/
def fnTabledUptoRow : OpenClaim := { program := "ytmfinopdokkjcaa", sum := "9871836cce7494c01ed01696413b25f78ae34b8de60beafa241ea2eca864a273", func := "loop.example/g00931/laws.FnTabled", spec := "fnTabled", apart := false, narrowed := true }
def FnTabledUptoSaid : Prop := fnTabledUptoRow.holds Try.pinned (OpenSpec.upto fnTabledSpec)

/-- 'laws.FnCurveTables', WHERE WHAT IT READS IS OF BULK AT MOST 1048576: true; the input reads as it did. -/
def fnCurveTablesUptoRow : OpenClaim := { program := "ytmfinopdokkjcaa", sum := "9871836cce7494c01ed01696413b25f78ae34b8de60beafa241ea2eca864a273", func := "loop.example/g00931/laws.FnCurveTables", spec := "fnCurveTables", apart := false, narrowed := true }
def FnCurveTablesUptoSaid : Prop := fnCurveTablesUptoRow.holds Try.pinned (OpenSpec.upto fnCurveTablesSpec)

/-- 'laws.FnSharedPoints', WHERE WHAT IT READS IS OF BULK AT MOST 1048576: true; the input reads as it did. -/
def fnSharedPointsUptoRow : OpenClaim := { program := "ytmfinopdokkjcaa", sum := "9871836cce7494c01ed01696413b25f78ae34b8de60beafa241ea2eca864a273", func := "loop.example/g00931/laws.FnSharedPoints", spec := "fnSharedPoints", apart := false, narrowed := true }
def FnSharedPointsUptoSaid : Prop := fnSharedPointsUptoRow.holds Try.pinned (OpenSpec.upto fnSharedPointsSpec)

/-- 'laws.FnEffects', WHERE WHAT IT READS IS OF BULK AT MOST 1048576: true; the input reads as it did. -/
def fnEffectsUptoRow : OpenClaim := { program := "ytmfinopdokkjcaa", sum := "9871836cce7494c01ed01696413b25f78ae34b8de60beafa241ea2eca864a273", func := "loop.example/g00931/laws.FnEffects", spec := "fnEffects", unfollowed := true, recurses := true, apart := false, narrowed := true }
def FnEffectsUptoSaid : Prop := fnEffectsUptoRow.holds Try.pinned (OpenSpec.upto fnEffectsSpec)

/-- 'laws.FnTop', WHERE WHAT IT READS IS OF BULK AT MOST 1048576: true; the input reads as it did. -/
def fnTopUptoRow : OpenClaim := { program := "ytmfinopdokkjcaa", sum := "9871836cce7494c01ed01696413b25f78ae34b8de60beafa241ea2eca864a273", func := "loop.example/g00931/laws.FnTop", spec := "fnTop", unfollowed := true, recurses := true, apart := false, narrowed := true }
def FnTopUptoSaid : Prop := fnTopUptoRow.holds Try.pinned (OpenSpec.upto fnTopSpec)

end Rows
end Go.Proofs.Ytmfinopdokkjcaa
