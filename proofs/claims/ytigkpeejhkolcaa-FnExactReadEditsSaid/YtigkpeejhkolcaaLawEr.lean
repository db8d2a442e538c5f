/- Contracts of functions, printed by program from annotations. -/
import Derived.Test.YtigkpeejhkolcaaRdE
import Derived.Test.YtigkpeejhkolcaaLawE
namespace Go.Proofs.Ytigkpeejhkolcaa
open Go Go.AW Go.RowKit
set_option linter.unusedVariables false
set_option linter.unusedSimpArgs false

set_option maxRecDepth 4000 in
/-- laws.FnExactReadEdits -/
theorem f_l_FnExactReadEdits (w : World) (al : Int) (bl : Int) (vl : Value) (l : List Int) (s : ByteArray) (hsl : Rd w vl 1 l.length (ints l)) (hal : l.length ≤ 9223372036854775807) (ha0l : -9223372036854775808 ≤ al) (ha1l : al ≤ 9223372036854775807) (hb0l : -9223372036854775808 ≤ bl) (hb1l : bl ≤ 9223372036854775807) (has : s.size ≤ 9223372036854775807) : RetV Try.prog 8 [.agg #[.int .i64 al, .int .i64 bl, vl], .string s] w (.bool true) := by
  refine Ret.enter Try.func8 rfl Try.ntmps8 rfl ?_
  refine Run.seq ?_
  refine Run.region ?_
  refine Ops.go rfl (Loud.box rfl rfl) ?_
  rintro _ _ ⟨b2, rfl, rfl⟩
  refine Ops.pure rfl (Pure.assign rfl) ?_
  refine Ops.nil ?_
  refine Run.seq ?_
  refine Run.seq ?_
  refine Run.region ?_
  refine Ops.pure rfl (Pure.move rfl) ?_
  refine Ops.pure rfl (Pure.lenS und9 rfl) ?_
  refine Ops.pure rfl (Pure.gtr rfl rfl) ?_
  refine Ops.nil ?_
  refine Run.cond rfl (fun c18 => ?_) (fun c18 => ?_)
  · skip
    replace c18 := dT c18
    refine Run.seq ?_
    refine Run.region ?_
    refine Ops.pure rfl (Pure.assign rfl) ?_
    refine Ops.nil ?_
    refine Run.ret1 rfl rfl ?_
    rfl
  · skip
    replace c18 := dF c18
    have hrz := reL_size al bl l s
    refine Run.skip ?_
    refine Run.seq ?_
    refine Run.region ?_
    refine Ops.pure rfl (Pure.assign rfl) ?_
    refine Ops.nil ?_
    refine Run.seq ?_
    refine Run.region ?_
    refine Ops.pure rfl (Pure.ldBA 0 rfl cell24 rfl rfl rfl) ?_
    refine Ops.pure rfl (Pure.move rfl) ?_
    refine Ops.q rfl (QOp.call fn10 rfl (fun w hw => f_l_szPanel w _ _ _ _ _ (by exact RdL.old (by assumption) w hw) (by omega) (by omega) (by assumption))) ?_
    refine Ops.pure rfl (Pure.assign rfl) ?_
    refine Ops.nil ?_
    refine Run.seq ?_
    refine Run.seq ?_
    by_cases hz0 : (l.length : Int) ≤ 1048576
    · skip
      rw [if_pos hz0]
      refine Run.region ?_
      refine Ops.pure rfl (Pure.move rfl) ?_
      refine Ops.pure rfl (Pure.lss rfl rfl) ?_
      refine Ops.nil ?_
      refine Run.condEF rfl (decide_eq_false (by omega)) ?_
      refine Run.skip ?_
      refine Run.seq ?_
      refine Run.region ?_
      refine Ops.pure rfl (Pure.ldBA 0 rfl cell24 rfl rfl rfl) ?_
      refine Ops.go rfl (Loud.callR fn13 rfl (fun w hw => f_l_toPanel w _ _ _ _ (by exact RdL.old (by assumption) w hw) (by omega))) ?_
      rintro v26 _ ⟨L26, hQ26, rfl⟩
      obtain ⟨x26, h26, rfl, rfl⟩ := hQ26
      refine Ops.pure rfl (Pure.move rfl) ?_
      refine Ops.go rfl (Loud.callR fn30 rfl (fun w hw => f_s_ReadEdits w _ _ _ _ _ (by exact RdL.own 0 rfl w hw) (by omega) (by omega) (by assumption) (by assumption) (by assumption) (by assumption))) ?_
      rintro v28 _ ⟨L28, hQ28, rfl⟩
      obtain ⟨x28, rfl, rfl⟩ := hQ28
      refine Ops.pure rfl (Pure.move rfl) ?_
      refine Ops.pure rfl (Pure.extract rfl rfl) ?_
      refine Ops.pure rfl (Pure.extract rfl rfl) ?_
      refine Ops.pure rfl (Pure.assign rfl) ?_
      refine Ops.pure rfl (Pure.assign rfl) ?_
      refine Ops.nil ?_
      refine Run.seq ?_
      refine Run.region ?_
      refine Ops.pure rfl (Pure.ldBA 2 rfl cell24 rfl rfl rfl) ?_
      refine Ops.go rfl (Loud.callR fn13 rfl (fun w hw => f_l_toPanel w _ _ _ _ (by exact RdL.old (by assumption) w hw) (by omega))) ?_
      rintro v32 _ ⟨L32, hQ32, rfl⟩
      obtain ⟨x32, h32, rfl, rfl⟩ := hQ32
      refine Ops.go rfl (Loud.alloc zero29 rfl) ?_
      rintro _ _ ⟨b8, rfl, rfl⟩
      refine Ops.store (Stores.box 0 rfl rfl rfl size29 (one3 h32) rfl rfl) ?_
      refine Ops.nil ?_
      refine Run.seq ?_
      refine Run.region ?_
      refine Ops.pure rfl (Pure.ldBA 0 rfl cell29 rfl rfl rfl) ?_
      refine Ops.pure rfl (Pure.move rfl) ?_
      refine Ops.go rfl (Loud.callR fn31 rfl (fun w hw => f_i_ReadEdits w _ _ _ _ _ (by exact RdL.own 1 rfl w hw) (by omega) (by omega) (by assumption) (by assumption) (by assumption) (by assumption))) ?_
      rintro v36 _ ⟨L36, hQ36, rfl⟩
      obtain ⟨x36, rfl, rfl⟩ := hQ36
      refine Ops.pure rfl (Pure.move rfl) ?_
      refine Ops.pure rfl (Pure.extract rfl rfl) ?_
      refine Ops.pure rfl (Pure.extract rfl rfl) ?_
      refine Ops.pure rfl (Pure.assign rfl) ?_
      refine Ops.pure rfl (Pure.assign rfl) ?_
      refine Ops.nil ?_
      refine Run.seq ?_
      refine Run.seq ?_
      refine Run.region ?_
      refine Ops.pure rfl (Pure.move rfl) ?_
      refine Ops.pure rfl (Pure.move rfl) ?_
      refine Ops.q rfl (QOp.call fn17 rfl (fun w hw => f_l_eqEditS w _ _ _ _ (by exact RdL.own 0 rfl w hw) (by exact RdL.own 3 rfl w hw) (by omega) (by omega))) ?_
      refine Ops.pure rfl (Pure.not rfl) ?_
      refine Ops.pure rfl (Pure.move rfl) ?_
      refine Ops.guardY rfl rfl rfl (by simp) ?_
      refine Ops.pure rfl (Pure.move rfl) ?_
      refine Ops.guardY rfl rfl rfl (by simp) ?_
      refine Ops.pure rfl (Pure.move rfl) ?_
      refine Ops.guardY rfl rfl rfl (by simp) ?_
      refine Ops.pure rfl (Pure.neq rfl rfl) ?_
      refine Ops.pure rfl (Pure.pickF rfl (by simp) rfl) ?_
      refine Ops.nil ?_
      refine Run.condEF rfl (by simp) ?_
      refine Run.skip ?_
      refine Run.seq ?_
      refine Run.seq ?_
      refine Any.start follows ?_
      refine Any.take 0 rfl (by kernel_rfl) rfl (QOp.pure (Pure.ldBA 1 rfl cell29 rfl rfl rfl)) ?_
      refine Any.take 1 rfl (by kernel_rfl) rfl (QOp.pure (Pure.ldBA 5 rfl cell24 rfl rfl rfl)) ?_
      refine Any.one 2 (by kernel_rfl) ?_
      refine OneL.loud rfl rfl (Loud.callR fn13 rfl (fun w hw => f_l_toPanel w _ _ _ _ (by exact RdL.old (by assumption) w hw) (by omega))) ?_
      rintro v50 _ ⟨L50, hQ50, rfl⟩
      obtain ⟨x50, h50, rfl, rfl⟩ := hQ50
      refine ⟨.inr (by first | exact Ext.right _ _ | exact Ext.right [_] _ | exact Ext.refl _), ?_⟩
      refine Any.take 3 rfl (by kernel_rfl) rfl (QOp.call fn16 rfl (fun w hw => f_l_eqPanel w _ _ _ _ _ _ _ _ (by exact RdL.own 3 rfl w hw) (by exact RdL.own 0 rfl w hw) (by omega) (by omega))) ?_
      refine Any.take 4 rfl (by kernel_rfl) rfl (QOp.pure (Pure.not rfl)) ?_
      refine Any.done (by kernel_rfl) ?_
      refine Run.condEF rfl (by simp) ?_
      refine Run.skip ?_
      refine Run.seq ?_
      refine Run.region ?_
      refine Ops.pure rfl (Pure.assign rfl) ?_
      refine Ops.nil ?_
      refine Run.seq ?_
      refine Run.region ?_
      refine Ops.pure rfl (Pure.ldBA 2 rfl cell29 rfl rfl rfl) ?_
      refine Ops.pure rfl (Pure.move rfl) ?_
      refine Ops.go rfl (Loud.callO fn20 rfl (fun w hw => f_l_markPanel _ w _ _ _ _ _ _ (by exact Sat.front 3 rfl hw) (by omega) (by omega) (by omega))) ?_
      rintro v55 L55 hQ55
      obtain ⟨rfl, rfl⟩ := hQ55
      refine Ops.pure rfl (Pure.assign rfl) ?_
      refine Ops.nil ?_
      refine Run.seq ?_
      refine Run.seq ?_
      refine Run.region ?_
      refine Ops.pure rfl (Pure.move rfl) ?_
      refine Ops.pure rfl (Pure.lss rfl rfl) ?_
      refine Ops.pure rfl (Pure.move rfl) ?_
      refine Ops.guardY rfl rfl rfl (decide_eq_false (by omega)) ?_
      refine Ops.pure rfl (Pure.move rfl) ?_
      refine Ops.guardY rfl rfl rfl (decide_eq_false (by omega)) ?_
      refine Ops.pure rfl (Pure.move rfl) ?_
      refine Ops.guardY rfl rfl rfl (decide_eq_false (by omega)) ?_
      refine Ops.q rfl (QOp.call fn17 rfl (fun w hw => f_l_eqEditS w _ _ _ _ (by exact RdL.own 2 rfl w hw) (by exact RdL.own 4 rfl w hw) (by omega) (by omega))) ?_
      refine Ops.guardY rfl rfl rfl (decide_eq_false (by omega)) ?_
      refine Ops.pure rfl (Pure.not rfl) ?_
      refine Ops.pure rfl (Pure.pickF rfl (decide_eq_false (by omega)) rfl) ?_
      refine Ops.pure rfl (Pure.move rfl) ?_
      refine Ops.guardY rfl rfl rfl (by simp) ?_
      refine Ops.pure rfl (Pure.move rfl) ?_
      refine Ops.guardY rfl rfl rfl (by simp) ?_
      refine Ops.pure rfl (Pure.move rfl) ?_
      refine Ops.guardY rfl rfl rfl (by simp) ?_
      refine Ops.pure rfl (Pure.neq rfl rfl) ?_
      refine Ops.pure rfl (Pure.pickF rfl (by simp) rfl) ?_
      refine Ops.nil ?_
      refine Run.condEF rfl (by simp) ?_
      refine Run.skip ?_
      refine Run.seq ?_
      refine Run.region ?_
      refine Ops.pure rfl (Pure.assign rfl) ?_
      refine Ops.nil ?_
      refine Run.seq ?_
      refine Run.region ?_
      refine Ops.pure rfl (Pure.move rfl) ?_
      refine Ops.pure rfl (Pure.move rfl) ?_
      refine Ops.go rfl (Loud.callO fn21 rfl (fun w hw => f_l_markEditS _ w _ _ _ _ (by exact Sat.front 2 rfl hw) (by omega) (by omega) (by omega))) ?_
      rintro v71 L71 hQ71
      obtain ⟨rfl, rfl⟩ := hQ71
      refine Ops.pure rfl (Pure.assign rfl) ?_
      refine Ops.nil ?_
      refine Run.seq ?_
      refine Run.region ?_
      refine Ops.pure rfl (Pure.assign rfl) ?_
      refine Ops.nil ?_
      refine Run.seq ?_
      refine Run.region ?_
      refine Ops.pure rfl (Pure.move rfl) ?_
      refine Ops.pure rfl (Pure.move rfl) ?_
      refine Ops.q rfl (QOp.call fn22 rfl (fun w hw => (f_l_heldEditS w _ _ _ (by exact heldRdE (RdL.own 0 rfl w hw)) (by (rw [length_marksE]; omega)) (by omega) (by omega)).cong (by rw [heldEditS_again]))) ?_
      refine Ops.pure rfl (Pure.assign rfl) ?_
      refine Ops.nil ?_
      refine Run.seq ?_
      refine Run.seq ?_
      refine Run.region ?_
      refine Ops.pure rfl (Pure.move rfl) ?_
      refine Ops.pure rfl (Pure.lss rfl rfl) ?_
      refine Ops.nil ?_
      refine Run.condEF rfl (decide_eq_false (by omega)) ?_
      refine Run.skip ?_
      refine Run.seq ?_
      refine Run.seq ?_
      refine Run.region ?_
      refine Ops.pure rfl (Pure.move rfl) ?_
      refine Ops.pure rfl (Pure.move rfl) ?_
      refine Ops.pure rfl (Pure.neq rfl rfl) ?_
      refine Ops.nil ?_
      refine Run.condEF rfl (by simp) ?_
      refine Run.skip ?_
      refine Run.seq ?_
      refine Run.region ?_
      refine Ops.pure rfl (Pure.ldBA 6 rfl cell24 rfl rfl rfl) ?_
      refine Ops.go rfl (Loud.callR fn13 rfl (fun w hw => f_l_toPanel w _ _ _ _ (by exact RdL.old (by assumption) w hw) (by omega))) ?_
      rintro v82 _ ⟨L82, hQ82, rfl⟩
      obtain ⟨x82, h82, rfl, rfl⟩ := hQ82
      refine Ops.pure rfl (Pure.move rfl) ?_
      refine Ops.go rfl (Loud.callR fn31 rfl (fun w hw => f_i_ReadEdits w _ _ _ _ _ (by exact RdL.own 0 rfl w hw) (by omega) (by omega) (by assumption) (by assumption) (by assumption) (by assumption))) ?_
      rintro v84 _ ⟨L84, hQ84, rfl⟩
      obtain ⟨x84, rfl, rfl⟩ := hQ84
      refine Ops.pure rfl (Pure.move rfl) ?_
      refine Ops.pure rfl (Pure.extract rfl rfl) ?_
      refine Ops.pure rfl (Pure.extract rfl rfl) ?_
      refine Ops.pure rfl (Pure.assign rfl) ?_
      refine Ops.pure rfl (Pure.assign rfl) ?_
      refine Ops.nil ?_
      refine Run.seq ?_
      refine Run.seq ?_
      refine Run.region ?_
      refine Ops.pure rfl (Pure.move rfl) ?_
      refine Ops.pure rfl (Pure.move rfl) ?_
      refine Ops.q rfl (QOp.call fn17 rfl (fun w hw => f_l_eqEditS w _ _ _ _ (by exact RdL.own 0 rfl w hw) (by exact RdL.own 6 rfl w hw) (by omega) (by omega))) ?_
      refine Ops.pure rfl (Pure.not rfl) ?_
      refine Ops.pure rfl (Pure.move rfl) ?_
      refine Ops.guardY rfl rfl rfl (by simp) ?_
      refine Ops.pure rfl (Pure.move rfl) ?_
      refine Ops.guardY rfl rfl rfl (by simp) ?_
      refine Ops.pure rfl (Pure.move rfl) ?_
      refine Ops.guardY rfl rfl rfl (by simp) ?_
      refine Ops.pure rfl (Pure.neq rfl rfl) ?_
      refine Ops.pure rfl (Pure.pickF rfl (by simp) rfl) ?_
      refine Ops.nil ?_
      refine Run.condEF rfl (by simp) ?_
      refine Run.skip ?_
      refine Run.seq ?_
      refine Run.region ?_
      refine Ops.pure rfl (Pure.assign rfl) ?_
      refine Ops.nil ?_
      refine Run.seq ?_
      refine Run.region ?_
      refine Ops.pure rfl (Pure.move rfl) ?_
      refine Ops.pure rfl (Pure.move rfl) ?_
      refine Ops.q rfl (QOp.call fn22 rfl (fun w hw => (f_l_heldEditS w _ _ _ (by exact heldRdE (RdL.own 2 rfl w hw)) (by (rw [length_marksE]; omega)) (by omega) (by omega)).cong (by rw [heldEditS_again]))) ?_
      refine Ops.pure rfl (Pure.assign rfl) ?_
      refine Ops.nil ?_
      refine Run.seq ?_
      refine Run.seq ?_
      refine Run.region ?_
      refine Ops.pure rfl (Pure.move rfl) ?_
      refine Ops.pure rfl (Pure.lss rfl rfl) ?_
      refine Ops.nil ?_
      refine Run.condEF rfl (decide_eq_false (by omega)) ?_
      refine Run.skip ?_
      refine Run.seq ?_
      refine Run.seq ?_
      refine Run.region ?_
      refine Ops.pure rfl (Pure.move rfl) ?_
      refine Ops.pure rfl (Pure.move rfl) ?_
      refine Ops.pure rfl (Pure.neq rfl rfl) ?_
      refine Ops.nil ?_
      refine Run.condEF rfl (by simp) ?_
      refine Run.skip ?_
      refine Run.seq ?_
      refine Run.region ?_
      refine Ops.pure rfl (Pure.assign rfl) ?_
      refine Ops.nil ?_
      refine Run.ret1 rfl rfl ?_
      rfl
    · skip
      rw [if_neg hz0]
      refine Run.region ?_
      refine Ops.pure rfl (Pure.move rfl) ?_
      refine Ops.pure rfl (Pure.lss rfl rfl) ?_
      refine Ops.nil ?_
      refine Run.condE rfl (decide_eq_true (by omega)) ?_
      refine Run.seq ?_
      refine Run.region ?_
      refine Ops.pure rfl (Pure.assign rfl) ?_
      refine Ops.nil ?_
      refine Run.ret1 rfl rfl ?_
      rfl

end Go.Proofs.Ytigkpeejhkolcaa
