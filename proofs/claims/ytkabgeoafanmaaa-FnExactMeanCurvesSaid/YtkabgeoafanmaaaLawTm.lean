/- Contracts of functions, printed by program from annotations. -/
import Derived.Test.YtkabgeoafanmaaaTab
namespace Go.Proofs.Ytkabgeoafanmaaa
open Go Go.AW Go.RowKit
set_option linter.unusedVariables false
set_option linter.unusedSimpArgs false

set_option maxRecDepth 4000 in
/-- laws.FnExactMeanCurves -/
theorem f_l_FnExactMeanCurves (w : World) (a : Int) (b : Int) (haa : -9223372036854775808 ≤ a) (hba : a ≤ 9223372036854775807) (hab : -9223372036854775808 ≤ b) (hbb : b ≤ 9223372036854775807) : RetV Try.prog 3 [.int .i64 a, .int .i64 b] w (.bool true) := by
  refine Ret.enter Try.func3 rfl Try.ntmps3 rfl ?_
  refine Run.seq ?_
  refine Run.region ?_
  refine Ops.pure rfl (Pure.assign rfl) ?_
  refine Ops.nil ?_
  refine Run.seq ?_
  refine Run.region ?_
  refine Ops.pure rfl (Pure.move rfl) ?_
  refine Ops.pure rfl (Pure.move rfl) ?_
  refine Ops.q rfl (QOp.call fn13 rfl (fun w hw => f_s_MeanCurves w _ _ (by assumption) (by assumption) (by assumption) (by assumption))) ?_
  refine Ops.pure rfl (Pure.move rfl) ?_
  refine Ops.pure rfl (Pure.extract rfl rfl) ?_
  refine Ops.pure rfl (Pure.extract rfl rfl) ?_
  refine Ops.pure rfl (Pure.assign rfl) ?_
  refine Ops.pure rfl (Pure.assign rfl) ?_
  refine Ops.nil ?_
  refine Run.seq ?_
  refine Run.region ?_
  refine Ops.pure rfl (Pure.move rfl) ?_
  refine Ops.pure rfl (Pure.move rfl) ?_
  refine Ops.q rfl (QOp.call fn14 rfl (fun w hw => f_i_MeanCurves w _ _ (by assumption) (by assumption) (by assumption) (by assumption))) ?_
  refine Ops.pure rfl (Pure.move rfl) ?_
  refine Ops.pure rfl (Pure.extract rfl rfl) ?_
  refine Ops.pure rfl (Pure.extract rfl rfl) ?_
  refine Ops.pure rfl (Pure.assign rfl) ?_
  refine Ops.pure rfl (Pure.assign rfl) ?_
  refine Ops.nil ?_
  refine Run.seq ?_
  refine Run.seq ?_
  refine Run.region ?_
  refine Ops.pure rfl (Pure.move rfl) ?_
  refine Ops.pure rfl (Pure.move rfl) ?_
  refine Ops.pure rfl (Pure.neq rfl rfl) ?_
  refine Ops.pure rfl (Pure.move rfl) ?_
  refine Ops.guardY rfl rfl rfl (by simp) ?_
  refine Ops.pure rfl (Pure.move rfl) ?_
  refine Ops.guardY rfl rfl rfl (by simp) ?_
  refine Ops.pure rfl (Pure.move rfl) ?_
  refine Ops.guardY rfl rfl rfl (by simp) ?_
  refine Ops.pure rfl (Pure.neq rfl rfl) ?_
  refine Ops.pure rfl (Pure.pickF rfl (by simp) rfl) ?_
  refine Ops.nil ?_
  refine Run.condEF rfl (by simp) ?_
  refine Run.skip ?_
  refine Run.seq ?_
  refine Run.region ?_
  refine Ops.pure rfl (Pure.assign rfl) ?_
  refine Ops.nil ?_
  refine Run.ret1 rfl rfl ?_
  rfl

end Go.Proofs.Ytkabgeoafanmaaa
