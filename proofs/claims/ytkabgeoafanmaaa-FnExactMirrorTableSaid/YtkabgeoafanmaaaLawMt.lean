/- Contracts of functions, printed by program from annotations. -/
import Derived.Test.YtkabgeoafanmaaaTab4
namespace Go.Proofs.Ytkabgeoafanmaaa
open Go Go.AW Go.RowKit
set_option linter.unusedVariables false
set_option linter.unusedSimpArgs false

set_option maxRecDepth 4000 in
/-- laws.FnExactMirrorTable -/
theorem f_l_FnExactMirrorTable (w : World) (a : Int) (b : Int) (haa : -9223372036854775808 ≤ a) (hba : a ≤ 9223372036854775807) (hab : -9223372036854775808 ≤ b) (hbb : b ≤ 9223372036854775807) : RetV Try.prog 6 [.int .i64 a, .int .i64 b] w (.bool true) := by
  refine Ret.enter Try.func6 rfl Try.ntmps6 rfl ?_
  refine Run.seq ?_
  refine Run.region ?_
  refine Ops.pure rfl (Pure.assign rfl) ?_
  refine Ops.nil ?_
  refine Run.seq ?_
  have hcz := mtE_size a b
  refine Run.region ?_
  refine Ops.pure rfl (Pure.move rfl) ?_
  refine Ops.pure rfl (Pure.move rfl) ?_
  refine Ops.go rfl (Loud.callR fn25 rfl (fun w hw => f_s_MirrorTable w _ _ (by assumption) (by assumption) (by assumption) (by assumption))) ?_
  rintro v16 _ ⟨L16, hQ16, rfl⟩
  obtain ⟨x16, rfl, rfl⟩ := hQ16
  refine Ops.pure rfl (Pure.move rfl) ?_
  refine Ops.pure rfl (Pure.extract rfl rfl) ?_
  refine Ops.pure rfl (Pure.extract rfl rfl) ?_
  refine Ops.pure rfl (Pure.assign rfl) ?_
  refine Ops.pure rfl (Pure.assign rfl) ?_
  refine Ops.nil ?_
  refine Run.seq ?_
  refine Run.region ?_
  refine Ops.pure rfl (Pure.move rfl) ?_
  refine Ops.pure rfl (Pure.move rfl) ?_
  refine Ops.go rfl (Loud.callR fn26 rfl (fun w hw => f_i_MirrorTable w _ _ (by assumption) (by assumption) (by assumption) (by assumption))) ?_
  rintro v22 _ ⟨L22, hQ22, rfl⟩
  obtain ⟨x22, rfl, rfl⟩ := hQ22
  refine Ops.pure rfl (Pure.move rfl) ?_
  refine Ops.pure rfl (Pure.extract rfl rfl) ?_
  refine Ops.pure rfl (Pure.extract rfl rfl) ?_
  refine Ops.pure rfl (Pure.assign rfl) ?_
  refine Ops.pure rfl (Pure.assign rfl) ?_
  refine Ops.nil ?_
  refine Run.seq ?_
  refine Run.seq ?_
  refine Run.region ?_
  refine Ops.pure rfl (Pure.move rfl) ?_
  refine Ops.pure rfl (Pure.move rfl) ?_
  refine Ops.q rfl (QOp.call fn17 rfl (fun w hw => f_l_eqInt64S w _ _ _ _ (by exact RdL.own 0 rfl w hw) (by exact RdL.own 1 rfl w hw) (by omega) (by omega))) ?_
  refine Ops.pure rfl (Pure.not rfl) ?_
  refine Ops.pure rfl (Pure.move rfl) ?_
  refine Ops.guardY rfl rfl rfl (by simp) ?_
  refine Ops.pure rfl (Pure.move rfl) ?_
  refine Ops.guardY rfl rfl rfl (by simp) ?_
  refine Ops.pure rfl (Pure.move rfl) ?_
  refine Ops.guardY rfl rfl rfl (by simp) ?_
  refine Ops.pure rfl (Pure.neq rfl rfl) ?_
  refine Ops.pure rfl (Pure.pickF rfl (by simp) rfl) ?_
  refine Ops.nil ?_
  refine Run.condEF rfl (by simp) ?_
  refine Run.skip ?_
  refine Run.seq ?_
  refine Run.region ?_
  refine Ops.pure rfl (Pure.assign rfl) ?_
  refine Ops.nil ?_
  refine Run.seq ?_
  refine Run.region ?_
  refine Ops.pure rfl (Pure.move rfl) ?_
  refine Ops.pure rfl (Pure.move rfl) ?_
  refine Ops.go rfl (Loud.callO fn18 rfl (fun w hw => f_l_markInt64S _ w _ _ _ _ (by assumption) (by omega) (by omega) (by omega))) ?_
  rintro v36 L36 hQ36
  obtain ⟨rfl, rfl⟩ := hQ36
  refine Ops.pure rfl (Pure.assign rfl) ?_
  refine Ops.nil ?_
  refine Run.seq ?_
  refine Run.region ?_
  refine Ops.pure rfl (Pure.assign rfl) ?_
  refine Ops.nil ?_
  refine Run.seq ?_
  refine Run.region ?_
  refine Ops.pure rfl (Pure.move rfl) ?_
  refine Ops.pure rfl (Pure.move rfl) ?_
  refine Ops.q rfl (QOp.call fn19 rfl (fun w hw => (f_l_heldInt64S w _ _ _ (by exact heldRd (RdL.own 0 rfl w hw)) (by (rw [length_marks]; omega)) (by omega) (by omega)).cong (by rw [heldInt64S_again]))) ?_
  refine Ops.pure rfl (Pure.assign rfl) ?_
  refine Ops.nil ?_
  refine Run.seq ?_
  refine Run.seq ?_
  refine Run.region ?_
  refine Ops.pure rfl (Pure.move rfl) ?_
  refine Ops.pure rfl (Pure.lss rfl rfl) ?_
  refine Ops.nil ?_
  refine Run.condEF rfl (decide_eq_false (by omega)) ?_
  refine Run.skip ?_
  refine Run.seq ?_
  refine Run.seq ?_
  refine Run.region ?_
  refine Ops.pure rfl (Pure.move rfl) ?_
  refine Ops.pure rfl (Pure.move rfl) ?_
  refine Ops.pure rfl (Pure.neq rfl rfl) ?_
  refine Ops.nil ?_
  refine Run.condEF rfl (by simp) ?_
  refine Run.skip ?_
  refine Run.seq ?_
  refine Run.region ?_
  refine Ops.pure rfl (Pure.move rfl) ?_
  refine Ops.pure rfl (Pure.move rfl) ?_
  refine Ops.go rfl (Loud.callR fn26 rfl (fun w hw => f_i_MirrorTable w _ _ (by assumption) (by assumption) (by assumption) (by assumption))) ?_
  rintro v48 _ ⟨L48, hQ48, rfl⟩
  obtain ⟨x48, rfl, rfl⟩ := hQ48
  refine Ops.pure rfl (Pure.move rfl) ?_
  refine Ops.pure rfl (Pure.extract rfl rfl) ?_
  refine Ops.pure rfl (Pure.extract rfl rfl) ?_
  refine Ops.pure rfl (Pure.assign rfl) ?_
  refine Ops.pure rfl (Pure.assign rfl) ?_
  refine Ops.nil ?_
  refine Run.seq ?_
  refine Run.seq ?_
  refine Run.region ?_
  refine Ops.pure rfl (Pure.move rfl) ?_
  refine Ops.pure rfl (Pure.move rfl) ?_
  refine Ops.q rfl (QOp.call fn17 rfl (fun w hw => f_l_eqInt64S w _ _ _ _ (by exact RdL.own 0 rfl w hw) (by exact RdL.own 2 rfl w hw) (by omega) (by omega))) ?_
  refine Ops.pure rfl (Pure.not rfl) ?_
  refine Ops.pure rfl (Pure.move rfl) ?_
  refine Ops.guardY rfl rfl rfl (by simp) ?_
  refine Ops.pure rfl (Pure.move rfl) ?_
  refine Ops.guardY rfl rfl rfl (by simp) ?_
  refine Ops.pure rfl (Pure.move rfl) ?_
  refine Ops.guardY rfl rfl rfl (by simp) ?_
  refine Ops.pure rfl (Pure.neq rfl rfl) ?_
  refine Ops.pure rfl (Pure.pickF rfl (by simp) rfl) ?_
  refine Ops.nil ?_
  refine Run.condEF rfl (by simp) ?_
  refine Run.skip ?_
  refine Run.seq ?_
  refine Run.region ?_
  refine Ops.pure rfl (Pure.assign rfl) ?_
  refine Ops.nil ?_
  refine Run.seq ?_
  refine Run.region ?_
  refine Ops.pure rfl (Pure.move rfl) ?_
  refine Ops.pure rfl (Pure.move rfl) ?_
  refine Ops.q rfl (QOp.call fn19 rfl (fun w hw => (f_l_heldInt64S w _ _ _ (by exact heldRd (RdL.own 1 rfl w hw)) (by (rw [length_marks]; omega)) (by omega) (by omega)).cong (by rw [heldInt64S_again]))) ?_
  refine Ops.pure rfl (Pure.assign rfl) ?_
  refine Ops.nil ?_
  refine Run.seq ?_
  refine Run.seq ?_
  refine Run.region ?_
  refine Ops.pure rfl (Pure.move rfl) ?_
  refine Ops.pure rfl (Pure.lss rfl rfl) ?_
  refine Ops.nil ?_
  refine Run.condEF rfl (decide_eq_false (by omega)) ?_
  refine Run.skip ?_
  refine Run.seq ?_
  refine Run.seq ?_
  refine Run.region ?_
  refine Ops.pure rfl (Pure.move rfl) ?_
  refine Ops.pure rfl (Pure.move rfl) ?_
  refine Ops.pure rfl (Pure.neq rfl rfl) ?_
  refine Ops.nil ?_
  refine Run.condEF rfl (by simp) ?_
  refine Run.skip ?_
  refine Run.seq ?_
  refine Run.region ?_
  refine Ops.pure rfl (Pure.assign rfl) ?_
  refine Ops.nil ?_
  refine Run.ret1 rfl rfl ?_
  rfl

end Go.Proofs.Ytkabgeoafanmaaa
