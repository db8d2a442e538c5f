/- Contracts of functions, printed by program from annotations. -/
import Derived.Test.YtkabgeoafanmaaaChg2
namespace Go.Proofs.Ytkabgeoafanmaaa
open Go Go.AW Go.RowKit
set_option linter.unusedVariables false
set_option linter.unusedSimpArgs false

theorem heldPanel_again (k : Int) (l : List Int) : (if marks k l.length = marks k (marks k l.length).length then k + ((marks k l.length).length : Int) else -1) = k + l.length := heldInt64S_again k l

set_option maxRecDepth 4000 in
/-- laws.FnExactStepsTo -/
theorem f_l_FnExactStepsTo (w : World) (al : Int) (bl : Int) (vl : Value) (l : List Int) (c : Int) (hsl : Rd w vl 1 l.length (ints l)) (hal : l.length ≤ 9223372036854775807) (ha0l : -9223372036854775808 ≤ al) (ha1l : al ≤ 9223372036854775807) (hb0l : -9223372036854775808 ≤ bl) (hb1l : bl ≤ 9223372036854775807) (hac : -9223372036854775808 ≤ c) (hbc : c ≤ 9223372036854775807) : RetV Try.prog 11 [.agg #[.int .i64 al, .int .i64 bl, vl], .int .i64 c] w (.bool true) := by
  refine Ret.enter Try.func11 rfl Try.ntmps11 rfl ?_
  refine Run.seq ?_
  refine Run.region ?_
  refine Ops.go rfl (Loud.box rfl rfl) ?_
  rintro _ _ ⟨b2, rfl, rfl⟩
  refine Ops.pure rfl (Pure.assign rfl) ?_
  refine Ops.nil ?_
  refine Run.seq ?_
  refine Run.region ?_
  refine Ops.pure rfl (Pure.assign rfl) ?_
  refine Ops.nil ?_
  refine Run.seq ?_
  refine Run.region ?_
  refine Ops.pure rfl (Pure.ldBA 0 rfl cell42 rfl rfl rfl) ?_
  refine Ops.pure rfl (Pure.move rfl) ?_
  refine Ops.q rfl (QOp.call fn32 rfl (fun w hw => f_l_szPanel w _ _ _ _ _ (by exact RdL.old (by assumption) w hw) (by omega) (by omega) (by assumption))) ?_
  refine Ops.pure rfl (Pure.assign rfl) ?_
  refine Ops.nil ?_
  refine Run.seq ?_
  refine Run.seq ?_
  by_cases hz0 : (l.length : Int) ≤ 1048576
  · skip
    rw [if_pos hz0]
    refine Run.region ?_
    refine Ops.pure rfl (Pure.move rfl) ?_
    refine Ops.pure rfl (Pure.lss rfl rfl) ?_
    refine Ops.nil ?_
    refine Run.condEF rfl (decide_eq_false (by omega)) ?_
    refine Run.skip ?_
    refine Run.seq ?_
    have hpz := stL_size al bl l c
    refine Run.region ?_
    refine Ops.pure rfl (Pure.ldBA 0 rfl cell42 rfl rfl rfl) ?_
    refine Ops.go rfl (Loud.callR fn34 rfl (fun w hw => f_l_toPanel w _ _ _ _ (by exact RdL.old (by assumption) w hw) (by omega))) ?_
    rintro v26 _ ⟨L26, hQ26, rfl⟩
    obtain ⟨x26, h26, rfl, rfl⟩ := hQ26
    refine Ops.pure rfl (Pure.move rfl) ?_
    refine Ops.go rfl (Loud.callR fn46 rfl (fun w hw => f_s_StepsTo w _ _ _ _ _ (by exact RdL.own 0 rfl w hw) (by omega) (by assumption) (by assumption) (by assumption) (by assumption))) ?_
    rintro v28 _ ⟨L28, hQ28, rfl⟩
    obtain ⟨x28, h28, rfl, rfl⟩ := hQ28
    refine Ops.pure rfl (Pure.move rfl) ?_
    refine Ops.pure rfl (Pure.extract rfl rfl) ?_
    refine Ops.pure rfl (Pure.extract rfl rfl) ?_
    refine Ops.pure rfl (Pure.extract rfl rfl) ?_
    refine Ops.go rfl (Loud.alloc zero31 rfl) ?_
    rintro _ _ ⟨b6, rfl, rfl⟩
    refine Ops.store (Stores.box 0 rfl rfl rfl size31 (one3 h28) rfl rfl) ?_
    refine Ops.pure rfl (Pure.assign rfl) ?_
    refine Ops.pure rfl (Pure.assign rfl) ?_
    refine Ops.nil ?_
    refine Run.seq ?_
    refine Run.region ?_
    refine Ops.pure rfl (Pure.ldBA 3 rfl cell42 rfl rfl rfl) ?_
    refine Ops.go rfl (Loud.callR fn34 rfl (fun w hw => f_l_toPanel w _ _ _ _ (by exact RdL.old (by assumption) w hw) (by omega))) ?_
    rintro v33 _ ⟨L33, hQ33, rfl⟩
    obtain ⟨x33, h33, rfl, rfl⟩ := hQ33
    refine Ops.go rfl (Loud.alloc zero31 rfl) ?_
    rintro _ _ ⟨b9, rfl, rfl⟩
    refine Ops.store (Stores.box 0 rfl rfl rfl size31 (one3 h33) rfl rfl) ?_
    refine Ops.nil ?_
    refine Run.seq ?_
    refine Run.region ?_
    refine Ops.pure rfl (Pure.ldBA 0 rfl cell31 rfl rfl rfl) ?_
    refine Ops.pure rfl (Pure.move rfl) ?_
    refine Ops.go rfl (Loud.callR fn47 rfl (fun w hw => f_i_StepsTo w _ _ _ _ _ (by exact RdL.own 1 rfl w hw) (by omega) (by assumption) (by assumption) (by assumption) (by assumption))) ?_
    rintro v37 _ ⟨L37, hQ37, rfl⟩
    obtain ⟨x37, h37, rfl, rfl⟩ := hQ37
    refine Ops.pure rfl (Pure.move rfl) ?_
    refine Ops.pure rfl (Pure.extract rfl rfl) ?_
    refine Ops.pure rfl (Pure.extract rfl rfl) ?_
    refine Ops.pure rfl (Pure.extract rfl rfl) ?_
    refine Ops.go rfl (Loud.alloc zero31 rfl) ?_
    rintro _ _ ⟨b10, rfl, rfl⟩
    refine Ops.store (Stores.box 0 rfl rfl rfl size31 (one3 h37) rfl rfl) ?_
    refine Ops.pure rfl (Pure.assign rfl) ?_
    refine Ops.pure rfl (Pure.assign rfl) ?_
    refine Ops.nil ?_
    refine Run.seq ?_
    refine Run.seq ?_
    refine Run.region ?_
    refine Ops.pure rfl (Pure.ldBA 0 rfl cell31 rfl rfl rfl) ?_
    refine Ops.pure rfl (Pure.ldBA 4 rfl cell31 rfl rfl rfl) ?_
    refine Ops.q rfl (QOp.call fn22 rfl (fun w hw => f_l_eqPanel w _ _ _ _ _ _ _ _ (by exact RdL.own 1 rfl w hw) (by exact RdL.own 5 rfl w hw) (by omega) (by omega))) ?_
    refine Ops.pure rfl (Pure.not rfl) ?_
    refine Ops.pure rfl (Pure.move rfl) ?_
    refine Ops.guardY rfl rfl rfl (by simp) ?_
    refine Ops.pure rfl (Pure.move rfl) ?_
    refine Ops.guardY rfl rfl rfl (by simp) ?_
    refine Ops.pure rfl (Pure.move rfl) ?_
    refine Ops.guardY rfl rfl rfl (by simp) ?_
    refine Ops.pure rfl (Pure.neq rfl rfl) ?_
    refine Ops.pure rfl (Pure.pickF rfl (by simp) rfl) ?_
    refine Ops.pure rfl (Pure.move rfl) ?_
    refine Ops.guardY rfl rfl rfl (by simp) ?_
    refine Ops.pure rfl (Pure.move rfl) ?_
    refine Ops.guardY rfl rfl rfl (by simp) ?_
    refine Ops.pure rfl (Pure.move rfl) ?_
    refine Ops.guardY rfl rfl rfl (by simp) ?_
    refine Ops.pure rfl (Pure.neq rfl rfl) ?_
    refine Ops.pure rfl (Pure.pickF rfl (by simp) rfl) ?_
    refine Ops.nil ?_
    refine Run.condEF rfl (by simp) ?_
    refine Run.skip ?_
    refine Run.seq ?_
    refine Run.seq ?_
    refine Any.start follows ?_
    refine Any.take 0 rfl (by kernel_rfl) rfl (QOp.pure (Pure.ldBA 2 rfl cell31 rfl rfl rfl)) ?_
    refine Any.take 1 rfl (by kernel_rfl) rfl (QOp.pure (Pure.ldBA 7 rfl cell42 rfl rfl rfl)) ?_
    refine Any.one 2 (by kernel_rfl) ?_
    refine OneL.loud rfl rfl (Loud.callR fn34 rfl (fun w hw => f_l_toPanel w _ _ _ _ (by exact RdL.old (by assumption) w hw) (by omega))) ?_
    rintro v57 _ ⟨L57, hQ57, rfl⟩
    obtain ⟨x57, h57, rfl, rfl⟩ := hQ57
    refine ⟨.inr (by first | exact Ext.right _ _ | exact Ext.right [_] _ | exact Ext.refl _), ?_⟩
    refine Any.take 3 rfl (by kernel_rfl) rfl (QOp.call fn22 rfl (fun w hw => f_l_eqPanel w _ _ _ _ _ _ _ _ (by exact RdL.own 4 rfl w hw) (by exact RdL.own 0 rfl w hw) (by omega) (by omega))) ?_
    refine Any.take 4 rfl (by kernel_rfl) rfl (QOp.pure (Pure.not rfl)) ?_
    refine Any.done (by kernel_rfl) ?_
    refine Run.condEF rfl (by simp) ?_
    refine Run.skip ?_
    refine Run.seq ?_
    refine Run.region ?_
    refine Ops.pure rfl (Pure.assign rfl) ?_
    refine Ops.nil ?_
    refine Run.seq ?_
    refine Run.region ?_
    refine Ops.pure rfl (Pure.ldBA 3 rfl cell31 rfl rfl rfl) ?_
    refine Ops.pure rfl (Pure.move rfl) ?_
    refine Ops.go rfl (Loud.callO fn23 rfl (fun w hw => f_l_markPanel _ w _ _ _ _ _ _ (by exact Sat.front 4 rfl hw) (by omega) (by omega) (by omega))) ?_
    rintro v62 L62 hQ62
    obtain ⟨rfl, rfl⟩ := hQ62
    refine Ops.pure rfl (Pure.assign rfl) ?_
    refine Ops.nil ?_
    refine Run.seq ?_
    refine Run.seq ?_
    refine Run.region ?_
    refine Ops.pure rfl (Pure.move rfl) ?_
    refine Ops.pure rfl (Pure.lss rfl rfl) ?_
    refine Ops.pure rfl (Pure.move rfl) ?_
    refine Ops.guardY rfl rfl rfl (decide_eq_false (by omega)) ?_
    refine Ops.pure rfl (Pure.ldBA 2 rfl cell31 rfl rfl rfl) ?_
    refine Ops.guardY rfl rfl rfl (decide_eq_false (by omega)) ?_
    refine Ops.pure rfl (Pure.ldBA 5 rfl cell31 rfl rfl rfl) ?_
    refine Ops.guardY rfl rfl rfl (decide_eq_false (by omega)) ?_
    refine Ops.q rfl (QOp.call fn22 rfl (fun w hw => f_l_eqPanel w _ _ _ _ _ _ _ _ (by exact RdL.own 3 rfl w hw) (by exact RdL.own 6 rfl w hw) (by omega) (by omega))) ?_
    refine Ops.guardY rfl rfl rfl (decide_eq_false (by omega)) ?_
    refine Ops.pure rfl (Pure.not rfl) ?_
    refine Ops.pure rfl (Pure.pickF rfl (decide_eq_false (by omega)) rfl) ?_
    refine Ops.pure rfl (Pure.move rfl) ?_
    refine Ops.guardY rfl rfl rfl (by simp) ?_
    refine Ops.pure rfl (Pure.move rfl) ?_
    refine Ops.guardY rfl rfl rfl (by simp) ?_
    refine Ops.pure rfl (Pure.move rfl) ?_
    refine Ops.guardY rfl rfl rfl (by simp) ?_
    refine Ops.pure rfl (Pure.neq rfl rfl) ?_
    refine Ops.pure rfl (Pure.pickF rfl (by simp) rfl) ?_
    refine Ops.pure rfl (Pure.move rfl) ?_
    refine Ops.guardY rfl rfl rfl (by simp) ?_
    refine Ops.pure rfl (Pure.move rfl) ?_
    refine Ops.guardY rfl rfl rfl (by simp) ?_
    refine Ops.pure rfl (Pure.move rfl) ?_
    refine Ops.guardY rfl rfl rfl (by simp) ?_
    refine Ops.pure rfl (Pure.neq rfl rfl) ?_
    refine Ops.pure rfl (Pure.pickF rfl (by simp) rfl) ?_
    refine Ops.nil ?_
    refine Run.condEF rfl (by simp) ?_
    refine Run.skip ?_
    refine Run.seq ?_
    refine Run.region ?_
    refine Ops.pure rfl (Pure.assign rfl) ?_
    refine Ops.nil ?_
    refine Run.seq ?_
    refine Run.region ?_
    refine Ops.pure rfl (Pure.ldBA 2 rfl cell31 rfl rfl rfl) ?_
    refine Ops.pure rfl (Pure.move rfl) ?_
    refine Ops.go rfl (Loud.callO fn23 rfl (fun w hw => f_l_markPanel _ w _ _ _ _ _ _ (by exact Sat.front 3 rfl hw) (by omega) (by omega) (by omega))) ?_
    rintro v83 L83 hQ83
    obtain ⟨rfl, rfl⟩ := hQ83
    refine Ops.pure rfl (Pure.assign rfl) ?_
    refine Ops.nil ?_
    refine Run.seq ?_
    refine Run.region ?_
    refine Ops.pure rfl (Pure.assign rfl) ?_
    refine Ops.nil ?_
    refine Run.seq ?_
    refine Run.region ?_
    refine Ops.pure rfl (Pure.ldBA 3 rfl cell31 rfl rfl rfl) ?_
    refine Ops.pure rfl (Pure.move rfl) ?_
    refine Ops.q rfl (QOp.call fn24 rfl (fun w hw => (f_l_heldPanel w _ _ _ _ _ (by exact heldRd (RdL.own 0 rfl w hw)) (by (rw [length_marks]; omega)) (by omega) (by omega)).cong (by rw [heldPanel_again]))) ?_
    refine Ops.pure rfl (Pure.assign rfl) ?_
    refine Ops.nil ?_
    refine Run.seq ?_
    refine Run.seq ?_
    refine Run.region ?_
    refine Ops.pure rfl (Pure.move rfl) ?_
    refine Ops.pure rfl (Pure.lss rfl rfl) ?_
    refine Ops.nil ?_
    refine Run.condEF rfl (decide_eq_false (by omega)) ?_
    refine Run.skip ?_
    refine Run.seq ?_
    refine Run.seq ?_
    refine Run.region ?_
    refine Ops.pure rfl (Pure.move rfl) ?_
    refine Ops.pure rfl (Pure.move rfl) ?_
    refine Ops.pure rfl (Pure.neq rfl rfl) ?_
    refine Ops.nil ?_
    refine Run.condEF rfl (by simp) ?_
    refine Run.skip ?_
    refine Run.seq ?_
    refine Run.region ?_
    refine Ops.pure rfl (Pure.ldBA 8 rfl cell42 rfl rfl rfl) ?_
    refine Ops.go rfl (Loud.callR fn34 rfl (fun w hw => f_l_toPanel w _ _ _ _ (by exact RdL.old (by assumption) w hw) (by omega))) ?_
    rintro v94 _ ⟨L94, hQ94, rfl⟩
    obtain ⟨x94, h94, rfl, rfl⟩ := hQ94
    refine Ops.pure rfl (Pure.move rfl) ?_
    refine Ops.go rfl (Loud.callR fn47 rfl (fun w hw => f_i_StepsTo w _ _ _ _ _ (by exact RdL.own 0 rfl w hw) (by omega) (by assumption) (by assumption) (by assumption) (by assumption))) ?_
    rintro v96 _ ⟨L96, hQ96, rfl⟩
    obtain ⟨x96, h96, rfl, rfl⟩ := hQ96
    refine Ops.pure rfl (Pure.move rfl) ?_
    refine Ops.pure rfl (Pure.extract rfl rfl) ?_
    refine Ops.pure rfl (Pure.extract rfl rfl) ?_
    refine Ops.pure rfl (Pure.extract rfl rfl) ?_
    refine Ops.go rfl (Loud.alloc zero31 rfl) ?_
    rintro _ _ ⟨b16, rfl, rfl⟩
    refine Ops.store (Stores.box 0 rfl rfl rfl size31 (one3 h96) rfl rfl) ?_
    refine Ops.pure rfl (Pure.assign rfl) ?_
    refine Ops.pure rfl (Pure.assign rfl) ?_
    refine Ops.nil ?_
    refine Run.seq ?_
    refine Run.seq ?_
    refine Run.region ?_
    refine Ops.pure rfl (Pure.ldBA 0 rfl cell31 rfl rfl rfl) ?_
    refine Ops.pure rfl (Pure.ldBA 8 rfl cell31 rfl rfl rfl) ?_
    refine Ops.q rfl (QOp.call fn22 rfl (fun w hw => f_l_eqPanel w _ _ _ _ _ _ _ _ (by exact RdL.own 1 rfl w hw) (by exact RdL.own 9 rfl w hw) (by omega) (by omega))) ?_
    refine Ops.pure rfl (Pure.not rfl) ?_
    refine Ops.pure rfl (Pure.move rfl) ?_
    refine Ops.guardY rfl rfl rfl (by simp) ?_
    refine Ops.pure rfl (Pure.move rfl) ?_
    refine Ops.guardY rfl rfl rfl (by simp) ?_
    refine Ops.pure rfl (Pure.move rfl) ?_
    refine Ops.guardY rfl rfl rfl (by simp) ?_
    refine Ops.pure rfl (Pure.neq rfl rfl) ?_
    refine Ops.pure rfl (Pure.pickF rfl (by simp) rfl) ?_
    refine Ops.pure rfl (Pure.move rfl) ?_
    refine Ops.guardY rfl rfl rfl (by simp) ?_
    refine Ops.pure rfl (Pure.move rfl) ?_
    refine Ops.guardY rfl rfl rfl (by simp) ?_
    refine Ops.pure rfl (Pure.move rfl) ?_
    refine Ops.guardY rfl rfl rfl (by simp) ?_
    refine Ops.pure rfl (Pure.neq rfl rfl) ?_
    refine Ops.pure rfl (Pure.pickF rfl (by simp) rfl) ?_
    refine Ops.nil ?_
    refine Run.condEF rfl (by simp) ?_
    refine Run.skip ?_
    refine Run.seq ?_
    refine Run.region ?_
    refine Ops.pure rfl (Pure.assign rfl) ?_
    refine Ops.nil ?_
    refine Run.seq ?_
    refine Run.region ?_
    refine Ops.pure rfl (Pure.ldBA 6 rfl cell31 rfl rfl rfl) ?_
    refine Ops.pure rfl (Pure.move rfl) ?_
    refine Ops.q rfl (QOp.call fn24 rfl (fun w hw => (f_l_heldPanel w _ _ _ _ _ (by exact heldRd (RdL.own 3 rfl w hw)) (by (rw [length_marks]; omega)) (by omega) (by omega)).cong (by rw [heldPanel_again]))) ?_
    refine Ops.pure rfl (Pure.assign rfl) ?_
    refine Ops.nil ?_
    refine Run.seq ?_
    refine Run.seq ?_
    refine Run.region ?_
    refine Ops.pure rfl (Pure.move rfl) ?_
    refine Ops.pure rfl (Pure.lss rfl rfl) ?_
    refine Ops.nil ?_
    refine Run.condEF rfl (decide_eq_false (by omega)) ?_
    refine Run.skip ?_
    refine Run.seq ?_
    refine Run.seq ?_
    refine Run.region ?_
    refine Ops.pure rfl (Pure.move rfl) ?_
    refine Ops.pure rfl (Pure.move rfl) ?_
    refine Ops.pure rfl (Pure.neq rfl rfl) ?_
    refine Ops.nil ?_
    refine Run.condEF rfl (by simp) ?_
    refine Run.skip ?_
    refine Run.seq ?_
    refine Run.region ?_
    refine Ops.pure rfl (Pure.assign rfl) ?_
    refine Ops.nil ?_
    refine Run.ret1 rfl rfl ?_
    rfl
  · skip
    rw [if_neg hz0]
    refine Run.region ?_
    refine Ops.pure rfl (Pure.move rfl) ?_
    refine Ops.pure rfl (Pure.lss rfl rfl) ?_
    refine Ops.nil ?_
    refine Run.condE rfl (decide_eq_true (by omega)) ?_
    refine Run.seq ?_
    refine Run.region ?_
    refine Ops.pure rfl (Pure.assign rfl) ?_
    refine Ops.nil ?_
    refine Run.ret1 rfl rfl ?_
    rfl

end Go.Proofs.Ytkabgeoafanmaaa
