/- Contracts of functions, printed by program from annotations. -/
import Derived.Test.YtkabgeoafanmaaaTab2
namespace Go.Proofs.Ytkabgeoafanmaaa
open Go Go.AW Go.RowKit
set_option linter.unusedVariables false
set_option linter.unusedSimpArgs false

theorem heldPanel_again (k : Int) (l : List Int) : (if marks k l.length = marks k (marks k l.length).length then k + ((marks k l.length).length : Int) else -1) = k + l.length := heldInt64S_again k l

set_option maxRecDepth 4000 in
/-- laws.FnExactFirstWith -/
theorem f_l_FnExactFirstWith (w : World) (a : Int) (b : Int) (c : Int) (haa : -9223372036854775808 ≤ a) (hba : a ≤ 9223372036854775807) (hab : -9223372036854775808 ≤ b) (hbb : b ≤ 9223372036854775807) (hac : -9223372036854775808 ≤ c) (hbc : c ≤ 9223372036854775807) : RetV Try.prog 5 [.int .i64 a, .int .i64 b, .int .i64 c] w (.bool true) := by
  refine Ret.enter Try.func5 rfl Try.ntmps5 rfl ?_
  refine Run.seq ?_
  refine Run.region ?_
  refine Ops.pure rfl (Pure.assign rfl) ?_
  refine Ops.nil ?_
  refine Run.seq ?_
  have hpz := fwL_size a b c
  refine Run.region ?_
  refine Ops.pure rfl (Pure.move rfl) ?_
  refine Ops.pure rfl (Pure.move rfl) ?_
  refine Ops.pure rfl (Pure.move rfl) ?_
  refine Ops.go rfl (Loud.callR fn20 rfl (fun w hw => f_s_FirstWith w _ _ _ (by assumption) (by assumption) (by assumption) (by assumption) (by assumption) (by assumption))) ?_
  rintro v19 _ ⟨L19, hQ19, rfl⟩
  obtain ⟨x19, h19, rfl, rfl⟩ := hQ19
  refine Ops.pure rfl (Pure.move rfl) ?_
  refine Ops.pure rfl (Pure.extract rfl rfl) ?_
  refine Ops.pure rfl (Pure.extract rfl rfl) ?_
  refine Ops.go rfl (Loud.alloc zero31 rfl) ?_
  rintro _ _ ⟨b7, rfl, rfl⟩
  refine Ops.store (Stores.box 0 rfl rfl rfl size31 (one3 h19) rfl rfl) ?_
  refine Ops.pure rfl (Pure.assign rfl) ?_
  refine Ops.nil ?_
  refine Run.seq ?_
  refine Run.region ?_
  refine Ops.pure rfl (Pure.move rfl) ?_
  refine Ops.pure rfl (Pure.move rfl) ?_
  refine Ops.pure rfl (Pure.move rfl) ?_
  refine Ops.go rfl (Loud.callR fn21 rfl (fun w hw => f_i_FirstWith w _ _ _ (by assumption) (by assumption) (by assumption) (by assumption) (by assumption) (by assumption))) ?_
  rintro v26 _ ⟨L26, hQ26, rfl⟩
  obtain ⟨x26, h26, rfl, rfl⟩ := hQ26
  refine Ops.pure rfl (Pure.move rfl) ?_
  refine Ops.pure rfl (Pure.extract rfl rfl) ?_
  refine Ops.pure rfl (Pure.extract rfl rfl) ?_
  refine Ops.go rfl (Loud.alloc zero31 rfl) ?_
  rintro _ _ ⟨b9, rfl, rfl⟩
  refine Ops.store (Stores.box 0 rfl rfl rfl size31 (one3 h26) rfl rfl) ?_
  refine Ops.pure rfl (Pure.assign rfl) ?_
  refine Ops.nil ?_
  refine Run.seq ?_
  refine Run.seq ?_
  refine Run.region ?_
  refine Ops.pure rfl (Pure.ldBA 0 rfl cell31 rfl rfl rfl) ?_
  refine Ops.pure rfl (Pure.ldBA 2 rfl cell31 rfl rfl rfl) ?_
  refine Ops.q rfl (QOp.call fn22 rfl (fun w hw => f_l_eqPanel w _ _ _ _ _ _ _ _ (by exact RdL.own 1 rfl w hw) (by exact RdL.own 3 rfl w hw) (by omega) (by omega))) ?_
  refine Ops.pure rfl (Pure.not rfl) ?_
  refine Ops.pure rfl (Pure.move rfl) ?_
  refine Ops.guardY rfl rfl rfl (by simp) ?_
  refine Ops.pure rfl (Pure.move rfl) ?_
  refine Ops.guardY rfl rfl rfl (by simp) ?_
  refine Ops.pure rfl (Pure.move rfl) ?_
  refine Ops.guardY rfl rfl rfl (by simp) ?_
  refine Ops.pure rfl (Pure.neq rfl rfl) ?_
  refine Ops.pure rfl (Pure.pickF rfl (by simp) rfl) ?_
  refine Ops.nil ?_
  refine Run.condEF rfl (by simp) ?_
  refine Run.skip ?_
  refine Run.seq ?_
  refine Run.region ?_
  refine Ops.pure rfl (Pure.assign rfl) ?_
  refine Ops.nil ?_
  refine Run.seq ?_
  refine Run.region ?_
  refine Ops.pure rfl (Pure.ldBA 0 rfl cell31 rfl rfl rfl) ?_
  refine Ops.pure rfl (Pure.move rfl) ?_
  refine Ops.go rfl (Loud.callO fn23 rfl (fun w hw => f_l_markPanel _ w _ _ _ _ _ _ (by exact Sat.front 1 rfl hw) (by omega) (by omega) (by omega))) ?_
  rintro v40 L40 hQ40
  obtain ⟨rfl, rfl⟩ := hQ40
  refine Ops.pure rfl (Pure.assign rfl) ?_
  refine Ops.nil ?_
  refine Run.seq ?_
  refine Run.region ?_
  refine Ops.pure rfl (Pure.assign rfl) ?_
  refine Ops.nil ?_
  refine Run.seq ?_
  refine Run.region ?_
  refine Ops.pure rfl (Pure.ldBA 1 rfl cell31 rfl rfl rfl) ?_
  refine Ops.pure rfl (Pure.move rfl) ?_
  refine Ops.q rfl (QOp.call fn24 rfl (fun w hw => (f_l_heldPanel w _ _ _ _ _ (by exact heldRd (RdL.own 0 rfl w hw)) (by (rw [length_marks]; omega)) (by omega) (by omega)).cong (by rw [heldPanel_again]))) ?_
  refine Ops.pure rfl (Pure.assign rfl) ?_
  refine Ops.nil ?_
  refine Run.seq ?_
  refine Run.seq ?_
  refine Run.region ?_
  refine Ops.pure rfl (Pure.move rfl) ?_
  refine Ops.pure rfl (Pure.lss rfl rfl) ?_
  refine Ops.nil ?_
  refine Run.condEF rfl (decide_eq_false (by omega)) ?_
  refine Run.skip ?_
  refine Run.seq ?_
  refine Run.seq ?_
  refine Run.region ?_
  refine Ops.pure rfl (Pure.move rfl) ?_
  refine Ops.pure rfl (Pure.move rfl) ?_
  refine Ops.pure rfl (Pure.neq rfl rfl) ?_
  refine Ops.nil ?_
  refine Run.condEF rfl (by simp) ?_
  refine Run.skip ?_
  refine Run.seq ?_
  refine Run.region ?_
  refine Ops.pure rfl (Pure.move rfl) ?_
  refine Ops.pure rfl (Pure.move rfl) ?_
  refine Ops.pure rfl (Pure.move rfl) ?_
  refine Ops.go rfl (Loud.callR fn21 rfl (fun w hw => f_i_FirstWith w _ _ _ (by assumption) (by assumption) (by assumption) (by assumption) (by assumption) (by assumption))) ?_
  rintro v53 _ ⟨L53, hQ53, rfl⟩
  obtain ⟨x53, h53, rfl, rfl⟩ := hQ53
  refine Ops.pure rfl (Pure.move rfl) ?_
  refine Ops.pure rfl (Pure.extract rfl rfl) ?_
  refine Ops.pure rfl (Pure.extract rfl rfl) ?_
  refine Ops.go rfl (Loud.alloc zero31 rfl) ?_
  rintro _ _ ⟨b13, rfl, rfl⟩
  refine Ops.store (Stores.box 0 rfl rfl rfl size31 (one3 h53) rfl rfl) ?_
  refine Ops.pure rfl (Pure.assign rfl) ?_
  refine Ops.nil ?_
  refine Run.seq ?_
  refine Run.seq ?_
  refine Run.region ?_
  refine Ops.pure rfl (Pure.ldBA 0 rfl cell31 rfl rfl rfl) ?_
  refine Ops.pure rfl (Pure.ldBA 4 rfl cell31 rfl rfl rfl) ?_
  refine Ops.q rfl (QOp.call fn22 rfl (fun w hw => f_l_eqPanel w _ _ _ _ _ _ _ _ (by exact RdL.own 1 rfl w hw) (by exact RdL.own 5 rfl w hw) (by omega) (by omega))) ?_
  refine Ops.pure rfl (Pure.not rfl) ?_
  refine Ops.pure rfl (Pure.move rfl) ?_
  refine Ops.guardY rfl rfl rfl (by simp) ?_
  refine Ops.pure rfl (Pure.move rfl) ?_
  refine Ops.guardY rfl rfl rfl (by simp) ?_
  refine Ops.pure rfl (Pure.move rfl) ?_
  refine Ops.guardY rfl rfl rfl (by simp) ?_
  refine Ops.pure rfl (Pure.neq rfl rfl) ?_
  refine Ops.pure rfl (Pure.pickF rfl (by simp) rfl) ?_
  refine Ops.nil ?_
  refine Run.condEF rfl (by simp) ?_
  refine Run.skip ?_
  refine Run.seq ?_
  refine Run.region ?_
  refine Ops.pure rfl (Pure.assign rfl) ?_
  refine Ops.nil ?_
  refine Run.seq ?_
  refine Run.region ?_
  refine Ops.pure rfl (Pure.ldBA 3 rfl cell31 rfl rfl rfl) ?_
  refine Ops.pure rfl (Pure.move rfl) ?_
  refine Ops.q rfl (QOp.call fn24 rfl (fun w hw => (f_l_heldPanel w _ _ _ _ _ (by exact heldRd (RdL.own 2 rfl w hw)) (by (rw [length_marks]; omega)) (by omega) (by omega)).cong (by rw [heldPanel_again]))) ?_
  refine Ops.pure rfl (Pure.assign rfl) ?_
  refine Ops.nil ?_
  refine Run.seq ?_
  refine Run.seq ?_
  refine Run.region ?_
  refine Ops.pure rfl (Pure.move rfl) ?_
  refine Ops.pure rfl (Pure.lss rfl rfl) ?_
  refine Ops.nil ?_
  refine Run.condEF rfl (decide_eq_false (by omega)) ?_
  refine Run.skip ?_
  refine Run.seq ?_
  refine Run.seq ?_
  refine Run.region ?_
  refine Ops.pure rfl (Pure.move rfl) ?_
  refine Ops.pure rfl (Pure.move rfl) ?_
  refine Ops.pure rfl (Pure.neq rfl rfl) ?_
  refine Ops.nil ?_
  refine Run.condEF rfl (by simp) ?_
  refine Run.skip ?_
  refine Run.seq ?_
  refine Run.region ?_
  refine Ops.pure rfl (Pure.assign rfl) ?_
  refine Ops.nil ?_
  refine Run.ret1 rfl rfl ?_
  rfl

end Go.Proofs.Ytkabgeoafanmaaa
