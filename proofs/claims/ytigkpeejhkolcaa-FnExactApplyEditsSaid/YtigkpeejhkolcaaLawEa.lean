/- Contracts of functions, printed by program from annotations. -/
import Derived.Test.YtigkpeejhkolcaaLawE
namespace Go.Proofs.Ytigkpeejhkolcaa
open Go Go.AW Go.RowKit
set_option linter.unusedVariables false
set_option linter.unusedSimpArgs false

set_option maxRecDepth 4000 in
/-- laws.FnExactApplyEdits -/
theorem f_l_FnExactApplyEdits (w : World) (al : Int) (bl : Int) (vl : Value) (l : List Int) (ve : Value) (e : List (Int × Int)) (hsl : Rd w vl 1 l.length (ints l)) (hal : l.length ≤ 9223372036854775807) (ha0l : -9223372036854775808 ≤ al) (ha1l : al ≤ 9223372036854775807) (hb0l : -9223372036854775808 ≤ bl) (hb1l : bl ≤ 9223372036854775807) (hse : Rd w ve 2 e.length (edits e)) (hae : e.length ≤ 9223372036854775807) : RetV Try.prog 6 [.agg #[.int .i64 al, .int .i64 bl, vl], ve] w (.bool true) := by
  refine Ret.enter Try.func6 rfl Try.ntmps6 rfl ?_
  refine Run.seq ?_
  refine Run.region ?_
  refine Ops.go rfl (Loud.box rfl rfl) ?_
  rintro _ _ ⟨b2, rfl, rfl⟩
  refine Ops.pure rfl (Pure.assign rfl) ?_
  refine Ops.nil ?_
  refine Run.seq ?_
  refine Run.region ?_
  refine Ops.pure rfl (Pure.assign rfl) ?_
  refine Ops.nil ?_
  refine Run.seq ?_
  refine Run.region ?_
  refine Ops.pure rfl (Pure.ldBA 0 rfl cell24 rfl rfl rfl) ?_
  refine Ops.pure rfl (Pure.move rfl) ?_
  refine Ops.q rfl (QOp.call fn10 rfl (fun w hw => f_l_szPanel w _ _ _ _ _ (by exact RdL.old (by assumption) w hw) (by omega) (by omega) (by assumption))) ?_
  refine Ops.pure rfl (Pure.assign rfl) ?_
  refine Ops.nil ?_
  refine Run.seq ?_
  refine Run.seq ?_
  by_cases hz0 : (l.length : Int) ≤ 1048576
  · skip
    rw [if_pos hz0]
    refine Run.region ?_
    refine Ops.pure rfl (Pure.move rfl) ?_
    refine Ops.pure rfl (Pure.lss rfl rfl) ?_
    refine Ops.nil ?_
    refine Run.condEF rfl (decide_eq_false (by omega)) ?_
    refine Run.skip ?_
    refine Run.seq ?_
    refine Run.region ?_
    refine Ops.pure rfl (Pure.move rfl) ?_
    refine Ops.pure rfl (Pure.move rfl) ?_
    refine Ops.q rfl (QOp.call fn11 rfl (fun w hw => f_l_szEditS w _ _ _ (by exact RdL.old (by assumption) w hw) (by omega) (by omega) (by assumption))) ?_
    refine Ops.pure rfl (Pure.assign rfl) ?_
    refine Ops.nil ?_
    refine Run.seq ?_
    refine Run.seq ?_
    by_cases hz1 : (e.length : Int) ≤ 1048576 - (l.length : Int)
    · skip
      rw [if_pos hz1]
      refine Run.region ?_
      refine Ops.pure rfl (Pure.move rfl) ?_
      refine Ops.pure rfl (Pure.lss rfl rfl) ?_
      refine Ops.nil ?_
      refine Run.condEF rfl (decide_eq_false (by omega)) ?_
      refine Run.skip ?_
      refine Run.seq ?_
      have haz := Nat.le_trans (lif_size (veE al bl l e) (appE l e)) (Nat.le_of_eq (length_appE e l))
      refine Run.region ?_
      refine Ops.pure rfl (Pure.ldBA 0 rfl cell24 rfl rfl rfl) ?_
      refine Ops.go rfl (Loud.callR fn13 rfl (fun w hw => f_l_toPanel w _ _ _ _ (by exact RdL.old (by assumption) w hw) (by omega))) ?_
      rintro v29 _ ⟨L29, hQ29, rfl⟩
      obtain ⟨x29, h29, rfl, rfl⟩ := hQ29
      refine Ops.pure rfl (Pure.move rfl) ?_
      refine Ops.go rfl (Loud.callR fn14 rfl (fun w hw => f_l_toEditS w _ _ (by exact RdL.old (by assumption) w hw) (by omega))) ?_
      rintro v31 _ ⟨L31, hQ31, rfl⟩
      subst hQ31
      refine Ops.go rfl (Loud.callR fn25 rfl (fun w hw => f_s_ApplyEdits w _ _ _ _ _ _ (by exact RdL.own 1 rfl w hw) (by omega) (by assumption) (by assumption) (by assumption) (by assumption) (by exact RdL.own 0 rfl w hw) (by omega))) ?_
      rintro v32 _ ⟨L32, hQ32, rfl⟩
      obtain ⟨x32, h32, rfl, rfl⟩ := hQ32
      refine Ops.pure rfl (Pure.move rfl) ?_
      refine Ops.pure rfl (Pure.extract rfl rfl) ?_
      refine Ops.pure rfl (Pure.extract rfl rfl) ?_
      refine Ops.go rfl (Loud.alloc zero29 rfl) ?_
      rintro _ _ ⟨b6, rfl, rfl⟩
      refine Ops.store (Stores.box 0 rfl rfl rfl size29 (one3 h32) rfl rfl) ?_
      refine Ops.pure rfl (Pure.assign rfl) ?_
      refine Ops.nil ?_
      refine Run.seq ?_
      refine Run.region ?_
      refine Ops.pure rfl (Pure.ldBA 4 rfl cell24 rfl rfl rfl) ?_
      refine Ops.go rfl (Loud.callR fn13 rfl (fun w hw => f_l_toPanel w _ _ _ _ (by exact RdL.old (by assumption) w hw) (by omega))) ?_
      rintro v36 _ ⟨L36, hQ36, rfl⟩
      obtain ⟨x36, h36, rfl, rfl⟩ := hQ36
      refine Ops.go rfl (Loud.alloc zero29 rfl) ?_
      rintro _ _ ⟨b8, rfl, rfl⟩
      refine Ops.store (Stores.box 0 rfl rfl rfl size29 (one3 h36) rfl rfl) ?_
      refine Ops.nil ?_
      refine Run.seq ?_
      refine Run.region ?_
      refine Ops.pure rfl (Pure.move rfl) ?_
      refine Ops.go rfl (Loud.callR fn14 rfl (fun w hw => f_l_toEditS w _ _ (by exact RdL.old (by assumption) w hw) (by omega))) ?_
      rintro v38 _ ⟨L38, hQ38, rfl⟩
      subst hQ38
      refine Ops.pure rfl (Pure.assign rfl) ?_
      refine Ops.nil ?_
      refine Run.seq ?_
      refine Run.region ?_
      refine Ops.pure rfl (Pure.ldBA 1 rfl cell29 rfl rfl rfl) ?_
      refine Ops.pure rfl (Pure.move rfl) ?_
      refine Ops.go rfl (Loud.callR fn26 rfl (fun w hw => f_i_ApplyEdits w _ _ _ _ _ _ (by exact RdL.own 2 rfl w hw) (by omega) (by assumption) (by assumption) (by assumption) (by assumption) (by exact RdL.own 0 rfl w hw) (by omega))) ?_
      rintro v42 _ ⟨L42, hQ42, rfl⟩
      obtain ⟨x42, h42, rfl, rfl⟩ := hQ42
      refine Ops.pure rfl (Pure.move rfl) ?_
      refine Ops.pure rfl (Pure.extract rfl rfl) ?_
      refine Ops.pure rfl (Pure.extract rfl rfl) ?_
      refine Ops.go rfl (Loud.alloc zero29 rfl) ?_
      rintro _ _ ⟨b10, rfl, rfl⟩
      refine Ops.store (Stores.box 0 rfl rfl rfl size29 (one3 h42) rfl rfl) ?_
      refine Ops.pure rfl (Pure.assign rfl) ?_
      refine Ops.nil ?_
      refine Run.seq ?_
      refine Run.seq ?_
      refine Run.region ?_
      refine Ops.pure rfl (Pure.ldBA 0 rfl cell29 rfl rfl rfl) ?_
      refine Ops.pure rfl (Pure.ldBA 5 rfl cell29 rfl rfl rfl) ?_
      refine Ops.q rfl (QOp.call fn16 rfl (fun w hw => f_l_eqPanel w _ _ _ _ _ _ _ _ (by exact RdL.own 1 rfl w hw) (by exact RdL.own 6 rfl w hw) (by omega) (by omega))) ?_
      refine Ops.pure rfl (Pure.not rfl) ?_
      refine Ops.pure rfl (Pure.move rfl) ?_
      refine Ops.guardY rfl rfl rfl (by simp) ?_
      refine Ops.pure rfl (Pure.move rfl) ?_
      refine Ops.guardY rfl rfl rfl (by simp) ?_
      refine Ops.pure rfl (Pure.move rfl) ?_
      refine Ops.guardY rfl rfl rfl (by simp) ?_
      refine Ops.pure rfl (Pure.neq rfl rfl) ?_
      refine Ops.pure rfl (Pure.pickF rfl (by simp) rfl) ?_
      refine Ops.nil ?_
      refine Run.condEF rfl (by simp) ?_
      refine Run.skip ?_
      refine Run.seq ?_
      refine Run.seq ?_
      refine Any.start follows ?_
      refine Any.take 0 rfl (by kernel_rfl) rfl (QOp.pure (Pure.ldBA 3 rfl cell29 rfl rfl rfl)) ?_
      refine Any.take 1 rfl (by kernel_rfl) rfl (QOp.pure (Pure.ldBA 9 rfl cell24 rfl rfl rfl)) ?_
      refine Any.one 2 (by kernel_rfl) ?_
      refine OneL.loud rfl rfl (Loud.callR fn13 rfl (fun w hw => f_l_toPanel w _ _ _ _ (by exact RdL.old (by assumption) w hw) (by omega))) ?_
      rintro v56 _ ⟨L56, hQ56, rfl⟩
      obtain ⟨x56, h56, rfl, rfl⟩ := hQ56
      refine ⟨.inr (by first | exact Ext.right _ _ | exact Ext.right [_] _ | exact Ext.refl _), ?_⟩
      refine Any.take 3 rfl (by kernel_rfl) rfl (QOp.call fn16 rfl (fun w hw => f_l_eqPanel w _ _ _ _ _ _ _ _ (by exact RdL.own 5 rfl w hw) (by exact RdL.own 0 rfl w hw) (by omega) (by omega))) ?_
      refine Any.take 4 rfl (by kernel_rfl) rfl (QOp.pure (Pure.not rfl)) ?_
      refine Any.done (by kernel_rfl) ?_
      refine Run.condEF rfl (by simp) ?_
      refine Run.skip ?_
      refine Run.seq ?_
      refine Run.seq ?_
      refine Run.region ?_
      refine Ops.pure rfl (Pure.move rfl) ?_
      refine Ops.pure rfl (Pure.move rfl) ?_
      refine Ops.go rfl (Loud.callR fn14 rfl (fun w hw => f_l_toEditS w _ _ (by exact RdL.old (by assumption) w hw) (by omega))) ?_
      rintro v61 _ ⟨L61, hQ61, rfl⟩
      subst hQ61
      refine Ops.q rfl (QOp.call fn17 rfl (fun w hw => f_l_eqEditS w _ _ _ _ (by exact RdL.own 4 rfl w hw) (by exact RdL.own 0 rfl w hw) (by omega) (by omega))) ?_
      refine Ops.pure rfl (Pure.not rfl) ?_
      refine Ops.nil ?_
      refine Run.condEF rfl (by simp) ?_
      refine Run.skip ?_
      refine Run.seq ?_
      refine Run.region ?_
      refine Ops.pure rfl (Pure.assign rfl) ?_
      refine Ops.nil ?_
      refine Run.seq ?_
      refine Run.region ?_
      refine Ops.pure rfl (Pure.ldBA 5 rfl cell29 rfl rfl rfl) ?_
      refine Ops.pure rfl (Pure.move rfl) ?_
      refine Ops.go rfl (Loud.callO fn20 rfl (fun w hw => f_l_markPanel _ w _ _ _ _ _ _ (by exact Sat.front 6 rfl hw) (by omega) (by omega) (by omega))) ?_
      rintro v66 L66 hQ66
      obtain ⟨rfl, rfl⟩ := hQ66
      refine Ops.pure rfl (Pure.assign rfl) ?_
      refine Ops.nil ?_
      refine Run.seq ?_
      refine Run.region ?_
      refine Ops.pure rfl (Pure.move rfl) ?_
      refine Ops.pure rfl (Pure.move rfl) ?_
      refine Ops.go rfl (Loud.callO fn21 rfl (fun w hw => f_l_markEditS _ w _ _ _ _ (by exact Sat.front 5 rfl hw) (by omega) (by omega) (by omega))) ?_
      rintro v69 L69 hQ69
      obtain ⟨rfl, rfl⟩ := hQ69
      refine Ops.pure rfl (Pure.assign rfl) ?_
      refine Ops.nil ?_
      refine Run.seq ?_
      refine Run.seq ?_
      refine Run.region ?_
      refine Ops.pure rfl (Pure.move rfl) ?_
      refine Ops.pure rfl (Pure.lss rfl rfl) ?_
      refine Ops.pure rfl (Pure.move rfl) ?_
      refine Ops.guardY rfl rfl rfl (decide_eq_false (by omega)) ?_
      refine Ops.pure rfl (Pure.ldBA 4 rfl cell29 rfl rfl rfl) ?_
      refine Ops.guardY rfl rfl rfl (decide_eq_false (by omega)) ?_
      refine Ops.pure rfl (Pure.ldBA 7 rfl cell29 rfl rfl rfl) ?_
      refine Ops.guardY rfl rfl rfl (decide_eq_false (by omega)) ?_
      refine Ops.q rfl (QOp.call fn16 rfl (fun w hw => f_l_eqPanel w _ _ _ _ _ _ _ _ (by exact RdL.own 5 rfl w hw) (by exact RdL.own 8 rfl w hw) (by omega) (by omega))) ?_
      refine Ops.guardY rfl rfl rfl (decide_eq_false (by omega)) ?_
      refine Ops.pure rfl (Pure.not rfl) ?_
      refine Ops.pure rfl (Pure.pickF rfl (decide_eq_false (by omega)) rfl) ?_
      refine Ops.pure rfl (Pure.move rfl) ?_
      refine Ops.guardY rfl rfl rfl (by simp) ?_
      refine Ops.pure rfl (Pure.move rfl) ?_
      refine Ops.guardY rfl rfl rfl (by simp) ?_
      refine Ops.pure rfl (Pure.move rfl) ?_
      refine Ops.guardY rfl rfl rfl (by simp) ?_
      refine Ops.pure rfl (Pure.neq rfl rfl) ?_
      refine Ops.pure rfl (Pure.pickF rfl (by simp) rfl) ?_
      refine Ops.nil ?_
      refine Run.condEF rfl (by simp) ?_
      refine Run.skip ?_
      refine Run.seq ?_
      refine Run.region ?_
      refine Ops.pure rfl (Pure.assign rfl) ?_
      refine Ops.nil ?_
      refine Run.seq ?_
      refine Run.region ?_
      refine Ops.pure rfl (Pure.ldBA 4 rfl cell29 rfl rfl rfl) ?_
      refine Ops.pure rfl (Pure.move rfl) ?_
      refine Ops.go rfl (Loud.callO fn20 rfl (fun w hw => f_l_markPanel _ w _ _ _ _ _ _ (by exact Sat.front 5 rfl hw) (by omega) (by omega) (by omega))) ?_
      rintro v85 L85 hQ85
      obtain ⟨rfl, rfl⟩ := hQ85
      refine Ops.pure rfl (Pure.assign rfl) ?_
      refine Ops.nil ?_
      refine Run.seq ?_
      refine Run.region ?_
      refine Ops.pure rfl (Pure.assign rfl) ?_
      refine Ops.nil ?_
      refine Run.seq ?_
      refine Run.region ?_
      refine Ops.pure rfl (Pure.ldBA 5 rfl cell29 rfl rfl rfl) ?_
      refine Ops.pure rfl (Pure.move rfl) ?_
      refine Ops.q rfl (QOp.call fn27 rfl (fun w hw => (f_l_heldPanel w _ _ _ _ _ (by exact heldRd (RdL.own 0 rfl w hw)) (by (rw [length_marks]; omega)) (by omega) (by omega)).cong (by rw [heldPanel_again]))) ?_
      refine Ops.pure rfl (Pure.assign rfl) ?_
      refine Ops.nil ?_
      refine Run.seq ?_
      refine Run.seq ?_
      refine Run.region ?_
      refine Ops.pure rfl (Pure.move rfl) ?_
      refine Ops.pure rfl (Pure.lss rfl rfl) ?_
      refine Ops.nil ?_
      refine Run.condEF rfl (decide_eq_false (by omega)) ?_
      refine Run.skip ?_
      refine Run.seq ?_
      refine Run.seq ?_
      refine Run.region ?_
      refine Ops.pure rfl (Pure.move rfl) ?_
      refine Ops.pure rfl (Pure.move rfl) ?_
      refine Ops.pure rfl (Pure.neq rfl rfl) ?_
      refine Ops.nil ?_
      refine Run.condEF rfl (by simp) ?_
      refine Run.skip ?_
      refine Run.seq ?_
      refine Run.region ?_
      refine Ops.pure rfl (Pure.ldBA 11 rfl cell24 rfl rfl rfl) ?_
      refine Ops.go rfl (Loud.callR fn13 rfl (fun w hw => f_l_toPanel w _ _ _ _ (by exact RdL.old (by assumption) w hw) (by omega))) ?_
      rintro v96 _ ⟨L96, hQ96, rfl⟩
      obtain ⟨x96, h96, rfl, rfl⟩ := hQ96
      refine Ops.pure rfl (Pure.move rfl) ?_
      refine Ops.go rfl (Loud.callR fn14 rfl (fun w hw => f_l_toEditS w _ _ (by exact RdL.old (by assumption) w hw) (by omega))) ?_
      rintro v98 _ ⟨L98, hQ98, rfl⟩
      subst hQ98
      refine Ops.go rfl (Loud.callR fn26 rfl (fun w hw => f_i_ApplyEdits w _ _ _ _ _ _ (by exact RdL.own 1 rfl w hw) (by omega) (by assumption) (by assumption) (by assumption) (by assumption) (by exact RdL.own 0 rfl w hw) (by omega))) ?_
      rintro v99 _ ⟨L99, hQ99, rfl⟩
      obtain ⟨x99, h99, rfl, rfl⟩ := hQ99
      refine Ops.pure rfl (Pure.move rfl) ?_
      refine Ops.pure rfl (Pure.extract rfl rfl) ?_
      refine Ops.pure rfl (Pure.extract rfl rfl) ?_
      refine Ops.go rfl (Loud.alloc zero29 rfl) ?_
      rintro _ _ ⟨b15, rfl, rfl⟩
      refine Ops.store (Stores.box 0 rfl rfl rfl size29 (one3 h99) rfl rfl) ?_
      refine Ops.pure rfl (Pure.assign rfl) ?_
      refine Ops.nil ?_
      refine Run.seq ?_
      refine Run.seq ?_
      refine Run.region ?_
      refine Ops.pure rfl (Pure.ldBA 0 rfl cell29 rfl rfl rfl) ?_
      refine Ops.pure rfl (Pure.ldBA 11 rfl cell29 rfl rfl rfl) ?_
      refine Ops.q rfl (QOp.call fn16 rfl (fun w hw => f_l_eqPanel w _ _ _ _ _ _ _ _ (by exact RdL.own 1 rfl w hw) (by exact RdL.own 12 rfl w hw) (by omega) (by omega))) ?_
      refine Ops.pure rfl (Pure.not rfl) ?_
      refine Ops.pure rfl (Pure.move rfl) ?_
      refine Ops.guardY rfl rfl rfl (by simp) ?_
      refine Ops.pure rfl (Pure.move rfl) ?_
      refine Ops.guardY rfl rfl rfl (by simp) ?_
      refine Ops.pure rfl (Pure.move rfl) ?_
      refine Ops.guardY rfl rfl rfl (by simp) ?_
      refine Ops.pure rfl (Pure.neq rfl rfl) ?_
      refine Ops.pure rfl (Pure.pickF rfl (by simp) rfl) ?_
      refine Ops.nil ?_
      refine Run.condEF rfl (by simp) ?_
      refine Run.skip ?_
      refine Run.seq ?_
      refine Run.region ?_
      refine Ops.pure rfl (Pure.assign rfl) ?_
      refine Ops.nil ?_
      refine Run.seq ?_
      refine Run.region ?_
      refine Ops.pure rfl (Pure.ldBA 9 rfl cell29 rfl rfl rfl) ?_
      refine Ops.pure rfl (Pure.move rfl) ?_
      refine Ops.q rfl (QOp.call fn27 rfl (fun w hw => (f_l_heldPanel w _ _ _ _ _ (by exact heldRd (RdL.own 4 rfl w hw)) (by (rw [length_marks]; omega)) (by omega) (by omega)).cong (by rw [heldPanel_again]))) ?_
      refine Ops.pure rfl (Pure.assign rfl) ?_
      refine Ops.nil ?_
      refine Run.seq ?_
      refine Run.seq ?_
      refine Run.region ?_
      refine Ops.pure rfl (Pure.move rfl) ?_
      refine Ops.pure rfl (Pure.lss rfl rfl) ?_
      refine Ops.nil ?_
      refine Run.condEF rfl (decide_eq_false (by omega)) ?_
      refine Run.skip ?_
      refine Run.seq ?_
      refine Run.seq ?_
      refine Run.region ?_
      refine Ops.pure rfl (Pure.move rfl) ?_
      refine Ops.pure rfl (Pure.move rfl) ?_
      refine Ops.pure rfl (Pure.neq rfl rfl) ?_
      refine Ops.nil ?_
      refine Run.condEF rfl (by simp) ?_
      refine Run.skip ?_
      refine Run.seq ?_
      refine Run.region ?_
      refine Ops.pure rfl (Pure.assign rfl) ?_
      refine Ops.nil ?_
      refine Run.ret1 rfl rfl ?_
      rfl
    · skip
      rw [if_neg hz1]
      refine Run.region ?_
      refine Ops.pure rfl (Pure.move rfl) ?_
      refine Ops.pure rfl (Pure.lss rfl rfl) ?_
      refine Ops.nil ?_
      refine Run.condE rfl (decide_eq_true (by omega)) ?_
      refine Run.seq ?_
      refine Run.region ?_
      refine Ops.pure rfl (Pure.assign rfl) ?_
      refine Ops.nil ?_
      refine Run.ret1 rfl rfl ?_
      rfl
  · skip
    rw [if_neg hz0]
    refine Run.region ?_
    refine Ops.pure rfl (Pure.move rfl) ?_
    refine Ops.pure rfl (Pure.lss rfl rfl) ?_
    refine Ops.nil ?_
    refine Run.condE rfl (decide_eq_true (by omega)) ?_
    refine Run.seq ?_
    refine Run.region ?_
    refine Ops.pure rfl (Pure.assign rfl) ?_
    refine Ops.nil ?_
    refine Run.ret1 rfl rfl ?_
    rfl

end Go.Proofs.Ytigkpeejhkolcaa
