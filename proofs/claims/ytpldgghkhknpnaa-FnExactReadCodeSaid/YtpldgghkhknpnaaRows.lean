/-
  No cell of these rows narrows 'for every input' (looked for: loops, veiled, ifaces, maps, wideKeys, modest, calm, conditions, laid).
  DERIVED. THE GIVEN ROWS OF THIS SEAT. 12 by the template 'for every input the law returns true; each argument reads behind the call as it read before'; 0 by the template 'total and deterministic' (their statements: YtpldgghkhknpnaaTotals.lean).
  GIVEN WITH THE SEED: the statements are not yours to turn. If you find one false, say at which input.
  Laid BY PROGRAM, IN A SANDBOX (cutbox-rows.mjs): the forced cells as the released guide's own fill.sh prints them over the translation acc241d0196398af… (all of the seat's roots in one cut). By AI agents, Wed Nov 11 2026. No macro, syntax, notation, axiom, sorry.
-/
import Derived.Test.YtpldgghkhknpnaaChecked
import GoSem.Claim
import GoSem.ClaimJoined
import GoSem.ClaimMapViews
import Derived.JoinedTies
import Derived.KernelRfl
namespace Go.Proofs.Ytpldgghkhknpnaa
/- THE CELL 'sum', in the pinned program and in every row, IS THE sha256 OF THE DUMP (.gsa) THAT YtpldgghkhknpnaaProg.lean LOADS. Nothing in Lean hashes anything: it is a label: what it is worth is what the hold of that sum in a sandbox is worth. -/
noncomputable def Try.pinned : Pinned := { name := "ytpldgghkhknpnaa", sum := "acc241d0196398af4d5e2eeb8eeeafdfbcca681beefa8db283c45b03ed9caf2d", checked := Try.checked }
namespace Rows
def none {H : Type} : Left H := { results := [], args := [] }

/-- 'laws.FnExactAlternatesOn': WHATEVER THE INPUT: true; the input reads as it did. -/
def fnExactAlternatesOnSpec : ChangeSpec := { name := "fnExactAlternatesOn", fn := fun _ => fun
  | [d] => { results := [.lit (.bool true)], args := [d] }
  | _ => none }
def fnExactAlternatesOnRow : OpenClaim := { program := "ytpldgghkhknpnaa", sum := "acc241d0196398af4d5e2eeb8eeeafdfbcca681beefa8db283c45b03ed9caf2d", func := "loop.example/g00931/laws.FnExactAlternatesOn", spec := "fnExactAlternatesOn", apart := false }
def FnExactAlternatesOnSaid : Prop := fnExactAlternatesOnRow.holds Try.pinned (OpenSpec.ofChange fnExactAlternatesOnSpec)

/-- ITS FALSE NEIGHBOUR: 'it returns false'. Refute it at one input. -/
def fnExactAlternatesOnWrong : ChangeSpec := { name := "fnExactAlternatesOn", fn := fun _ => fun
  | [d] => { results := [.lit (.bool false)], args := [d] }
  | _ => none }
def FnExactAlternatesOnWrongFalsely : Prop := fnExactAlternatesOnRow.holds Try.pinned (OpenSpec.ofChange fnExactAlternatesOnWrong)

/-- 'laws.FnExactPassesText': WHATEVER THE INPUT: true; the input reads as it did. -/
def fnExactPassesTextSpec : ChangeSpec := { name := "fnExactPassesText", fn := fun _ => fun
  | [d] => { results := [.lit (.bool true)], args := [d] }
  | _ => none }
def fnExactPassesTextRow : OpenClaim := { program := "ytpldgghkhknpnaa", sum := "acc241d0196398af4d5e2eeb8eeeafdfbcca681beefa8db283c45b03ed9caf2d", func := "loop.example/g00931/laws.FnExactPassesText", spec := "fnExactPassesText", apart := false }
def FnExactPassesTextSaid : Prop := fnExactPassesTextRow.holds Try.pinned (OpenSpec.ofChange fnExactPassesTextSpec)

/-- ITS FALSE NEIGHBOUR: 'it returns false'. Refute it at one input. -/
def fnExactPassesTextWrong : ChangeSpec := { name := "fnExactPassesText", fn := fun _ => fun
  | [d] => { results := [.lit (.bool false)], args := [d] }
  | _ => none }
def FnExactPassesTextWrongFalsely : Prop := fnExactPassesTextRow.holds Try.pinned (OpenSpec.ofChange fnExactPassesTextWrong)

/-- 'laws.FnExactSameCode': WHATEVER THE INPUT: true; the input reads as it did. -/
def fnExactSameCodeSpec : ChangeSpec := { name := "fnExactSameCode", fn := fun _ => fun
  | [d1, d2] => { results := [.lit (.bool true)], args := [d1, d2] }
  | _ => none }
def fnExactSameCodeRow : OpenClaim := { program := "ytpldgghkhknpnaa", sum := "acc241d0196398af4d5e2eeb8eeeafdfbcca681beefa8db283c45b03ed9caf2d", func := "loop.example/g00931/laws.FnExactSameCode", spec := "fnExactSameCode", unfollowed := true, recurses := true, apart := false }
def FnExactSameCodeSaid : Prop := fnExactSameCodeRow.holds Try.pinned (OpenSpec.ofChange fnExactSameCodeSpec)

/-- ITS FALSE NEIGHBOUR: 'it returns false'. Refute it at one input. -/
def fnExactSameCodeWrong : ChangeSpec := { name := "fnExactSameCode", fn := fun _ => fun
  | [d1, d2] => { results := [.lit (.bool false)], args := [d1, d2] }
  | _ => none }
def FnExactSameCodeWrongFalsely : Prop := fnExactSameCodeRow.holds Try.pinned (OpenSpec.ofChange fnExactSameCodeWrong)

/-- 'laws.FnExactValidCode': WHATEVER THE INPUT: true; the input reads as it did. -/
def fnExactValidCodeSpec : ChangeSpec := { name := "fnExactValidCode", fn := fun _ => fun
  | [d] => { results := [.lit (.bool true)], args := [d] }
  | _ => none }
def fnExactValidCodeRow : OpenClaim := { program := "ytpldgghkhknpnaa", sum := "acc241d0196398af4d5e2eeb8eeeafdfbcca681beefa8db283c45b03ed9caf2d", func := "loop.example/g00931/laws.FnExactValidCode", spec := "fnExactValidCode", apart := false }
def FnExactValidCodeSaid : Prop := fnExactValidCodeRow.holds Try.pinned (OpenSpec.ofChange fnExactValidCodeSpec)

/-- ITS FALSE NEIGHBOUR: 'it returns false'. Refute it at one input. -/
def fnExactValidCodeWrong : ChangeSpec := { name := "fnExactValidCode", fn := fun _ => fun
  | [d] => { results := [.lit (.bool false)], args := [d] }
  | _ => none }
def FnExactValidCodeWrongFalsely : Prop := fnExactValidCodeRow.holds Try.pinned (OpenSpec.ofChange fnExactValidCodeWrong)

/-- 'laws.FnExactCountCoded': WHATEVER THE INPUT: true; the input reads as it did. -/
def fnExactCountCodedSpec : ChangeSpec := { name := "fnExactCountCoded", fn := fun _ => fun
  | [d] => { results := [.lit (.bool true)], args := [d] }
  | _ => none }
def fnExactCountCodedRow : OpenClaim := { program := "ytpldgghkhknpnaa", sum := "acc241d0196398af4d5e2eeb8eeeafdfbcca681beefa8db283c45b03ed9caf2d", func := "loop.example/g00931/laws.FnExactCountCoded", spec := "fnExactCountCoded", apart := false }
def FnExactCountCodedSaid : Prop := fnExactCountCodedRow.holds Try.pinned (OpenSpec.ofChange fnExactCountCodedSpec)

/-- ITS FALSE NEIGHBOUR: 'it returns false'. Refute it at one input. -/
def fnExactCountCodedWrong : ChangeSpec := { name := "fnExactCountCoded", fn := fun _ => fun
  | [d] => { results := [.lit (.bool false)], args := [d] }
  | _ => none }
def FnExactCountCodedWrongFalsely : Prop := fnExactCountCodedRow.holds Try.pinned (OpenSpec.ofChange fnExactCountCodedWrong)

/-- 'laws.FnExactAlternatingCode': WHATEVER THE INPUT: true; the input reads as it did. -/
def fnExactAlternatingCodeSpec : ChangeSpec := { name := "fnExactAlternatingCode", fn := fun _ => fun
  | [d] => { results := [.lit (.bool true)], args := [d] }
  | _ => none }
def fnExactAlternatingCodeRow : OpenClaim := { program := "ytpldgghkhknpnaa", sum := "acc241d0196398af4d5e2eeb8eeeafdfbcca681beefa8db283c45b03ed9caf2d", func := "loop.example/g00931/laws.FnExactAlternatingCode", spec := "fnExactAlternatingCode", apart := false }
def FnExactAlternatingCodeSaid : Prop := fnExactAlternatingCodeRow.holds Try.pinned (OpenSpec.ofChange fnExactAlternatingCodeSpec)

/-- ITS FALSE NEIGHBOUR: 'it returns false'. Refute it at one input. -/
def fnExactAlternatingCodeWrong : ChangeSpec := { name := "fnExactAlternatingCode", fn := fun _ => fun
  | [d] => { results := [.lit (.bool false)], args := [d] }
  | _ => none }
def FnExactAlternatingCodeWrongFalsely : Prop := fnExactAlternatingCodeRow.holds Try.pinned (OpenSpec.ofChange fnExactAlternatingCodeWrong)

/-- 'laws.FnExactCurvesAt': WHATEVER THE INPUT: true; the input reads as it did. -/
def fnExactCurvesAtSpec : ChangeSpec := { name := "fnExactCurvesAt", fn := fun _ => fun
  | [d1, d2] => { results := [.lit (.bool true)], args := [d1, d2] }
  | _ => none }
def fnExactCurvesAtRow : OpenClaim := { program := "ytpldgghkhknpnaa", sum := "acc241d0196398af4d5e2eeb8eeeafdfbcca681beefa8db283c45b03ed9caf2d", func := "loop.example/g00931/laws.FnExactCurvesAt", spec := "fnExactCurvesAt", unfollowed := true, recurses := true, apart := false }
def FnExactCurvesAtSaid : Prop := fnExactCurvesAtRow.holds Try.pinned (OpenSpec.ofChange fnExactCurvesAtSpec)

/-- ITS FALSE NEIGHBOUR: 'it returns false'. Refute it at one input. -/
def fnExactCurvesAtWrong : ChangeSpec := { name := "fnExactCurvesAt", fn := fun _ => fun
  | [d1, d2] => { results := [.lit (.bool false)], args := [d1, d2] }
  | _ => none }
def FnExactCurvesAtWrongFalsely : Prop := fnExactCurvesAtRow.holds Try.pinned (OpenSpec.ofChange fnExactCurvesAtWrong)

/-- 'laws.FnExactMirrorCode': WHATEVER THE INPUT: true; the input reads as it did. -/
def fnExactMirrorCodeSpec : ChangeSpec := { name := "fnExactMirrorCode", fn := fun _ => fun
  | [d] => { results := [.lit (.bool true)], args := [d] }
  | _ => none }
def fnExactMirrorCodeRow : OpenClaim := { program := "ytpldgghkhknpnaa", sum := "acc241d0196398af4d5e2eeb8eeeafdfbcca681beefa8db283c45b03ed9caf2d", func := "loop.example/g00931/laws.FnExactMirrorCode", spec := "fnExactMirrorCode", apart := false }
def FnExactMirrorCodeSaid : Prop := fnExactMirrorCodeRow.holds Try.pinned (OpenSpec.ofChange fnExactMirrorCodeSpec)

/-- ITS FALSE NEIGHBOUR: 'it returns false'. Refute it at one input. -/
def fnExactMirrorCodeWrong : ChangeSpec := { name := "fnExactMirrorCode", fn := fun _ => fun
  | [d] => { results := [.lit (.bool false)], args := [d] }
  | _ => none }
def FnExactMirrorCodeWrongFalsely : Prop := fnExactMirrorCodeRow.holds Try.pinned (OpenSpec.ofChange fnExactMirrorCodeWrong)

/-- 'laws.FnExactCodeText': WHATEVER THE INPUT: true; the input reads as it did. -/
def fnExactCodeTextSpec : ChangeSpec := { name := "fnExactCodeText", fn := fun _ => fun
  | [d] => { results := [.lit (.bool true)], args := [d] }
  | _ => none }
def fnExactCodeTextRow : OpenClaim := { program := "ytpldgghkhknpnaa", sum := "acc241d0196398af4d5e2eeb8eeeafdfbcca681beefa8db283c45b03ed9caf2d", func := "loop.example/g00931/laws.FnExactCodeText", spec := "fnExactCodeText", apart := false }
def FnExactCodeTextSaid : Prop := fnExactCodeTextRow.holds Try.pinned (OpenSpec.ofChange fnExactCodeTextSpec)

/-- ITS FALSE NEIGHBOUR: 'it returns false'. Refute it at one input. -/
def fnExactCodeTextWrong : ChangeSpec := { name := "fnExactCodeText", fn := fun _ => fun
  | [d] => { results := [.lit (.bool false)], args := [d] }
  | _ => none }
def FnExactCodeTextWrongFalsely : Prop := fnExactCodeTextRow.holds Try.pinned (OpenSpec.ofChange fnExactCodeTextWrong)

/-- 'laws.FnExactBackCurve': WHATEVER THE INPUT: true; the input reads as it did. -/
def fnExactBackCurveSpec : ChangeSpec := { name := "fnExactBackCurve", fn := fun _ => fun
  | [d1, d2] => { results := [.lit (.bool true)], args := [d1, d2] }
  | _ => none }
def fnExactBackCurveRow : OpenClaim := { program := "ytpldgghkhknpnaa", sum := "acc241d0196398af4d5e2eeb8eeeafdfbcca681beefa8db283c45b03ed9caf2d", func := "loop.example/g00931/laws.FnExactBackCurve", spec := "fnExactBackCurve", apart := false }
def FnExactBackCurveSaid : Prop := fnExactBackCurveRow.holds Try.pinned (OpenSpec.ofChange fnExactBackCurveSpec)

/-- ITS FALSE NEIGHBOUR: 'it returns false'. Refute it at one input. -/
def fnExactBackCurveWrong : ChangeSpec := { name := "fnExactBackCurve", fn := fun _ => fun
  | [d1, d2] => { results := [.lit (.bool false)], args := [d1, d2] }
  | _ => none }
def FnExactBackCurveWrongFalsely : Prop := fnExactBackCurveRow.holds Try.pinned (OpenSpec.ofChange fnExactBackCurveWrong)

/-- 'laws.FnExactTurnCurve': WHATEVER THE INPUT: true; the input reads as it did. -/
def fnExactTurnCurveSpec : ChangeSpec := { name := "fnExactTurnCurve", fn := fun _ => fun
  | [d1, d2, d3] => { results := [.lit (.bool true)], args := [d1, d2, d3] }
  | _ => none }
def fnExactTurnCurveRow : OpenClaim := { program := "ytpldgghkhknpnaa", sum := "acc241d0196398af4d5e2eeb8eeeafdfbcca681beefa8db283c45b03ed9caf2d", func := "loop.example/g00931/laws.FnExactTurnCurve", spec := "fnExactTurnCurve", apart := false }
def FnExactTurnCurveSaid : Prop := fnExactTurnCurveRow.holds Try.pinned (OpenSpec.ofChange fnExactTurnCurveSpec)

/-- ITS FALSE NEIGHBOUR: 'it returns false'. Refute it at one input. -/
def fnExactTurnCurveWrong : ChangeSpec := { name := "fnExactTurnCurve", fn := fun _ => fun
  | [d1, d2, d3] => { results := [.lit (.bool false)], args := [d1, d2, d3] }
  | _ => none }
def FnExactTurnCurveWrongFalsely : Prop := fnExactTurnCurveRow.holds Try.pinned (OpenSpec.ofChange fnExactTurnCurveWrong)

/-- 'laws.FnExactReadCode': WHATEVER THE INPUT: true; the input reads as it did. -/
def fnExactReadCodeSpec : ChangeSpec := { name := "fnExactReadCode", fn := fun _ => fun
  | [d] => { results := [.lit (.bool true)], args := [d] }
  | _ => none }
def fnExactReadCodeRow : OpenClaim := { program := "ytpldgghkhknpnaa", sum := "acc241d0196398af4d5e2eeb8eeeafdfbcca681beefa8db283c45b03ed9caf2d", func := "loop.example/g00931/laws.FnExactReadCode", spec := "fnExactReadCode", apart := false }
def FnExactReadCodeSaid : Prop := fnExactReadCodeRow.holds Try.pinned (OpenSpec.ofChange fnExactReadCodeSpec)

/-- ITS FALSE NEIGHBOUR: 'it returns false'. Refute it at one input. -/
def fnExactReadCodeWrong : ChangeSpec := { name := "fnExactReadCode", fn := fun _ => fun
  | [d] => { results := [.lit (.bool false)], args := [d] }
  | _ => none }
def FnExactReadCodeWrongFalsely : Prop := fnExactReadCodeRow.holds Try.pinned (OpenSpec.ofChange fnExactReadCodeWrong)

/- THE SECOND FORM. 'bulk': how many values and letters a reading holds, each counted each time it is reached (what is shared counts as often as it is met; a slice's spare places count too). A statement '..UptoSaid' is the law's where the arguments, and the package variables that the reading takes, are together of bulk at most 1048576: NARROWER than '..Said'. Prove '..Said' where nothing that the law and all that it calls make is longer than what came in: it says more and counts as full. Else prove '..UptoSaid'. A law counts once. -/
mutual
def uptoBulk {H : Type} : DataW H → Nat
  | .lit (.string bytes) => bytes.length + 1
  | .lit _ => 1
  | .nil => 1
  | .ptr d => uptoBulk d + 1
  | .slice elems spare => uptoBulkAll elems + uptoBulkAll spare + 1
  | .agg parts => uptoBulkAll parts + 1
  | .iface _ d => uptoBulk d + 1
  | .map entries => uptoBulkEntries entries + 1
  | .held _ => 1
def uptoBulkAll {H : Type} : List (DataW H) → Nat
  | [] => 0
  | d :: r => uptoBulk d + uptoBulkAll r
def uptoBulkEntries {H : Type} : List (Lit × DataW H) → Nat
  | [] => 0
  | x :: r => uptoBulkEntry x + uptoBulkEntries r
def uptoBulkEntry {H : Type} : Lit × DataW H → Nat
  | (.string bytes, d) => bytes.length + uptoBulk d + 1
  | (_, d) => uptoBulk d + 1
 end
def uptoSmall : (H : Type) → List (DataW H) → Bool := fun _ ds => decide (uptoBulkAll ds ≤ 1048576)
def OpenSpec.upto (s : _root_.Go.ChangeSpec) : _root_.Go.OpenSpec := { _root_.Go.OpenSpec.ofChange s with cond := some uptoSmall }

/-- 'laws.FnExactAlternatesOn', WHERE WHAT IT READS IS OF BULK AT MOST 1048576: true; the input reads as it did. -/
def fnExactAlternatesOnUptoRow : OpenClaim := { program := "ytpldgghkhknpnaa", sum := "acc241d0196398af4d5e2eeb8eeeafdfbcca681beefa8db283c45b03ed9caf2d", func := "loop.example/g00931/laws.FnExactAlternatesOn", spec := "fnExactAlternatesOn", apart := false, narrowed := true }
def FnExactAlternatesOnUptoSaid : Prop := fnExactAlternatesOnUptoRow.holds Try.pinned (OpenSpec.upto fnExactAlternatesOnSpec)

/-- 'laws.FnExactPassesText', WHERE WHAT IT READS IS OF BULK AT MOST 1048576: true; the input reads as it did. -/
def fnExactPassesTextUptoRow : OpenClaim := { program := "ytpldgghkhknpnaa", sum := "acc241d0196398af4d5e2eeb8eeeafdfbcca681beefa8db283c45b03ed9caf2d", func := "loop.example/g00931/laws.FnExactPassesText", spec := "fnExactPassesText", apart := false, narrowed := true }
def FnExactPassesTextUptoSaid : Prop := fnExactPassesTextUptoRow.holds Try.pinned (OpenSpec.upto fnExactPassesTextSpec)

/-- 'laws.FnExactSameCode', WHERE WHAT IT READS IS OF BULK AT MOST 1048576: true; the input reads as it did. -/
def fnExactSameCodeUptoRow : OpenClaim := { program := "ytpldgghkhknpnaa", sum := "acc241d0196398af4d5e2eeb8eeeafdfbcca681beefa8db283c45b03ed9caf2d", func := "loop.example/g00931/laws.FnExactSameCode", spec := "fnExactSameCode", unfollowed := true, recurses := true, apart := false, narrowed := true }
def FnExactSameCodeUptoSaid : Prop := fnExactSameCodeUptoRow.holds Try.pinned (OpenSpec.upto fnExactSameCodeSpec)

/-- 'laws.FnExactValidCode', WHERE WHAT IT READS IS OF BULK AT MOST 1048576: true; the input reads as it did. -/
def fnExactValidCodeUptoRow : OpenClaim := { program := "ytpldgghkhknpnaa", sum := "acc241d0196398af4d5e2eeb8eeeafdfbcca681beefa8db283c45b03ed9caf2d", func := "loop.example/g00931/laws.FnExactValidCode", spec := "fnExactValidCode", apart := false, narrowed := true }
def FnExactValidCodeUptoSaid : Prop := fnExactValidCodeUptoRow.holds Try.pinned (OpenSpec.upto fnExactValidCodeSpec)

/-- 'laws.FnExactCountCoded', WHERE WHAT IT READS IS OF BULK AT MOST 1048576: true; the input reads as it did. -/
def fnExactCountCodedUptoRow : OpenClaim := { program := "ytpldgghkhknpnaa", sum := "acc241d0196398af4d5e2eeb8eeeafdfbcca681beefa8db283c45b03ed9caf2d", func := "loop.example/g00931/laws.FnExactCountCoded", spec := "fnExactCountCoded", apart := false, narrowed := true }
def FnExactCountCodedUptoSaid : Prop := fnExactCountCodedUptoRow.holds Try.pinned (OpenSpec.upto fnExactCountCodedSpec)

/-- 'laws.FnExactAlternatingCode', WHERE WHAT IT READS IS OF BULK AT MOST 1048576: true; the input reads as it did. -/
def fnExactAlternatingCodeUptoRow : OpenClaim := { program := "ytpldgghkhknpnaa", sum := "acc241d0196398af4d5e2eeb8eeeafdfbcca681beefa8db283c45b03ed9caf2d", func := "loop.example/g00931/laws.FnExactAlternatingCode", spec := "fnExactAlternatingCode", apart := false, narrowed := true }
def FnExactAlternatingCodeUptoSaid : Prop := fnExactAlternatingCodeUptoRow.holds Try.pinned (OpenSpec.upto fnExactAlternatingCodeSpec)

/-- 'laws.FnExactCurvesAt', WHERE WHAT IT READS IS OF BULK AT MOST 1048576: true; the input reads as it did. -/
def fnExactCurvesAtUptoRow : OpenClaim := { program := "ytpldgghkhknpnaa", sum := "acc241d0196398af4d5e2eeb8eeeafdfbcca681beefa8db283c45b03ed9caf2d", func := "loop.example/g00931/laws.FnExactCurvesAt", spec := "fnExactCurvesAt", unfollowed := true, recurses := true, apart := false, narrowed := true }
def FnExactCurvesAtUptoSaid : Prop := fnExactCurvesAtUptoRow.holds Try.pinned (OpenSpec.upto fnExactCurvesAtSpec)

/-- 'laws.FnExactMirrorCode', WHERE WHAT IT READS IS OF BULK AT MOST 1048576: true; the input reads as it did. -/
def fnExactMirrorCodeUptoRow : OpenClaim := { program := "ytpldgghkhknpnaa", sum := "acc241d0196398af4d5e2eeb8eeeafdfbcca681beefa8db283c45b03ed9caf2d", func := "loop.example/g00931/laws.FnExactMirrorCode", spec := "fnExactMirrorCode", apart := false, narrowed := true }
def FnExactMirrorCodeUptoSaid : Prop := fnExactMirrorCodeUptoRow.holds Try.pinned (OpenSpec.upto fnExactMirrorCodeSpec)

/-- 'laws.FnExactCodeText', WHERE WHAT IT READS IS OF BULK AT MOST 1048576: true; the input reads as it did. -/
def fnExactCodeTextUptoRow : OpenClaim := { program := "ytpldgghkhknpnaa", sum := "acc241d0196398af4d5e2eeb8eeeafdfbcca681beefa8db283c45b03ed9caf2d", func := "loop.example/g00931/laws.FnExactCodeText", spec := "fnExactCodeText", apart := false, narrowed := true }
def FnExactCodeTextUptoSaid : Prop := fnExactCodeTextUptoRow.holds Try.pinned (OpenSpec.upto fnExactCodeTextSpec)

/-- 'laws.FnExactBackCurve', WHERE WHAT IT READS IS OF BULK AT MOST 1048576: true; the input reads as it did. -/
def fnExactBackCurveUptoRow : OpenClaim := { program := "ytpldgghkhknpnaa", sum := "acc241d0196398af4d5e2eeb8eeeafdfbcca681beefa8db283c45b03ed9caf2d", func := "loop.example/g00931/laws.FnExactBackCurve", spec := "fnExactBackCurve", apart := false, narrowed := true }
def FnExactBackCurveUptoSaid : Prop := fnExactBackCurveUptoRow.holds Try.pinned (OpenSpec.upto fnExactBackCurveSpec)

/-- 'laws.FnExactTurnCurve', WHERE WHAT IT READS IS OF BULK AT MOST 1048576: true; the input reads as it did. -/
def fnExactTurnCurveUptoRow : OpenClaim := { program := "ytpldgghkhknpnaa", sum := "acc241d0196398af4d5e2eeb8eeeafdfbcca681beefa8db283c45b03ed9caf2d", func := "loop.example/g00931/laws.FnExactTurnCurve", spec := "fnExactTurnCurve", apart := false, narrowed := true }
def FnExactTurnCurveUptoSaid : Prop := fnExactTurnCurveUptoRow.holds Try.pinned (OpenSpec.upto fnExactTurnCurveSpec)

/-- 'laws.FnExactReadCode', WHERE WHAT IT READS IS OF BULK AT MOST 1048576: true; the input reads as it did. -/
def fnExactReadCodeUptoRow : OpenClaim := { program := "ytpldgghkhknpnaa", sum := "acc241d0196398af4d5e2eeb8eeeafdfbcca681beefa8db283c45b03ed9caf2d", func := "loop.example/g00931/laws.FnExactReadCode", spec := "fnExactReadCode", apart := false, narrowed := true }
def FnExactReadCodeUptoSaid : Prop := fnExactReadCodeUptoRow.holds Try.pinned (OpenSpec.upto fnExactReadCodeSpec)

end Rows
end Go.Proofs.Ytpldgghkhknpnaa
