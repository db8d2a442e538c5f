/- Contracts of functions, printed by program from annotations. -/
import Derived.Test.YtpldgghkhknpnaaText
namespace Go.Proofs.Ytpldgghkhknpnaa
open Go Go.AW Go.RowKit
set_option linter.unusedVariables false
set_option linter.unusedSimpArgs false

set_option maxRecDepth 4000 in
/-- laws.FnExactPassesText -/
theorem f_l_FnExactPassesText (w : World) (vl : Value) (l : List (Int × Bool)) (hsl : Rd w vl 2 l.length (passes l)) (hal : l.length ≤ 9223372036854775807) (hpl : ∀ y ∈ l, -9223372036854775808 ≤ y.1 ∧ y.1 ≤ 9223372036854775807) : RetV Try.prog 4 [vl] w (.bool true) := by
  refine Ret.enter Try.func4 rfl Try.ntmps4 rfl ?_
  refine Run.seq ?_
  refine Run.region ?_
  refine Ops.pure rfl (Pure.assign rfl) ?_
  refine Ops.nil ?_
  refine Run.seq ?_
  refine Run.region ?_
  refine Ops.pure rfl (Pure.assign rfl) ?_
  refine Ops.nil ?_
  refine Run.seq ?_
  refine Run.region ?_
  refine Ops.pure rfl (Pure.move rfl) ?_
  refine Ops.pure rfl (Pure.move rfl) ?_
  refine Ops.q rfl (QOp.call fn15 rfl (fun w hw => f_l_szPassS w _ _ _ (by first | assumption | omega | exact RdL.old (by assumption) w hw | exact RdL.own 0 rfl w hw | exact RdL.own 1 rfl w hw | exact RdL.own 2 rfl w hw | exact RdL.own 3 rfl w hw | exact RdL.own 4 rfl w hw | exact RdL.own 5 rfl w hw | exact RdL.own 6 rfl w hw | exact RdL.own 7 rfl w hw | exact RdL.own 8 rfl w hw | exact RdL.own 9 rfl w hw) (by first | assumption | omega | exact RdL.old (by assumption) w hw | exact RdL.own 0 rfl w hw | exact RdL.own 1 rfl w hw | exact RdL.own 2 rfl w hw | exact RdL.own 3 rfl w hw | exact RdL.own 4 rfl w hw | exact RdL.own 5 rfl w hw | exact RdL.own 6 rfl w hw | exact RdL.own 7 rfl w hw | exact RdL.own 8 rfl w hw | exact RdL.own 9 rfl w hw) (by first | assumption | omega | exact RdL.old (by assumption) w hw | exact RdL.own 0 rfl w hw | exact RdL.own 1 rfl w hw | exact RdL.own 2 rfl w hw | exact RdL.own 3 rfl w hw | exact RdL.own 4 rfl w hw | exact RdL.own 5 rfl w hw | exact RdL.own 6 rfl w hw | exact RdL.own 7 rfl w hw | exact RdL.own 8 rfl w hw | exact RdL.own 9 rfl w hw) (by first | assumption | omega | exact RdL.old (by assumption) w hw | exact RdL.own 0 rfl w hw | exact RdL.own 1 rfl w hw | exact RdL.own 2 rfl w hw | exact RdL.own 3 rfl w hw | exact RdL.own 4 rfl w hw | exact RdL.own 5 rfl w hw | exact RdL.own 6 rfl w hw | exact RdL.own 7 rfl w hw | exact RdL.own 8 rfl w hw | exact RdL.own 9 rfl w hw))) ?_
  refine Ops.pure rfl (Pure.assign rfl) ?_
  refine Ops.nil ?_
  refine Run.seq ?_
  refine Run.seq ?_
  by_cases hz0 : (l.length : Int) ≤ 1048576
  · skip
    rw [if_pos hz0]
    refine Run.region ?_
    refine Ops.pure rfl (Pure.move rfl) ?_
    refine Ops.pure rfl (Pure.lss rfl rfl) ?_
    refine Ops.nil ?_
    refine Run.condEF rfl (decide_eq_false (by omega)) ?_
    refine Run.skip ?_
    refine Run.seq ?_
    refine Run.region ?_
    refine Ops.pure rfl (Pure.move rfl) ?_
    refine Ops.go rfl (Loud.callR fn17 rfl (fun w hw => f_l_toPassS w _ _ (by first | assumption | omega | exact RdL.old (by assumption) w hw | exact RdL.own 0 rfl w hw | exact RdL.own 1 rfl w hw | exact RdL.own 2 rfl w hw | exact RdL.own 3 rfl w hw | exact RdL.own 4 rfl w hw | exact RdL.own 5 rfl w hw | exact RdL.own 6 rfl w hw | exact RdL.own 7 rfl w hw | exact RdL.own 8 rfl w hw | exact RdL.own 9 rfl w hw) (by first | assumption | omega | exact RdL.old (by assumption) w hw | exact RdL.own 0 rfl w hw | exact RdL.own 1 rfl w hw | exact RdL.own 2 rfl w hw | exact RdL.own 3 rfl w hw | exact RdL.own 4 rfl w hw | exact RdL.own 5 rfl w hw | exact RdL.own 6 rfl w hw | exact RdL.own 7 rfl w hw | exact RdL.own 8 rfl w hw | exact RdL.own 9 rfl w hw))) ?_
    rintro v13 _ ⟨L13, hQ13, rfl⟩
    subst hQ13
    refine Ops.q rfl (QOp.call fn20 rfl (fun w hw => f_s_PassesText w _ _ (by first | assumption | omega | exact RdL.old (by assumption) w hw | exact RdL.own 0 rfl w hw | exact RdL.own 1 rfl w hw | exact RdL.own 2 rfl w hw | exact RdL.own 3 rfl w hw | exact RdL.own 4 rfl w hw | exact RdL.own 5 rfl w hw | exact RdL.own 6 rfl w hw | exact RdL.own 7 rfl w hw | exact RdL.own 8 rfl w hw | exact RdL.own 9 rfl w hw) (by first | assumption | omega | exact RdL.old (by assumption) w hw | exact RdL.own 0 rfl w hw | exact RdL.own 1 rfl w hw | exact RdL.own 2 rfl w hw | exact RdL.own 3 rfl w hw | exact RdL.own 4 rfl w hw | exact RdL.own 5 rfl w hw | exact RdL.own 6 rfl w hw | exact RdL.own 7 rfl w hw | exact RdL.own 8 rfl w hw | exact RdL.own 9 rfl w hw) (by first | assumption | omega | exact RdL.old (by assumption) w hw | exact RdL.own 0 rfl w hw | exact RdL.own 1 rfl w hw | exact RdL.own 2 rfl w hw | exact RdL.own 3 rfl w hw | exact RdL.own 4 rfl w hw | exact RdL.own 5 rfl w hw | exact RdL.own 6 rfl w hw | exact RdL.own 7 rfl w hw | exact RdL.own 8 rfl w hw | exact RdL.own 9 rfl w hw))) ?_
    refine Ops.pure rfl (Pure.assign rfl) ?_
    refine Ops.nil ?_
    refine Run.seq ?_
    refine Run.region ?_
    refine Ops.pure rfl (Pure.move rfl) ?_
    refine Ops.go rfl (Loud.callR fn17 rfl (fun w hw => f_l_toPassS w _ _ (by first | assumption | omega | exact RdL.old (by assumption) w hw | exact RdL.own 0 rfl w hw | exact RdL.own 1 rfl w hw | exact RdL.own 2 rfl w hw | exact RdL.own 3 rfl w hw | exact RdL.own 4 rfl w hw | exact RdL.own 5 rfl w hw | exact RdL.own 6 rfl w hw | exact RdL.own 7 rfl w hw | exact RdL.own 8 rfl w hw | exact RdL.own 9 rfl w hw) (by first | assumption | omega | exact RdL.old (by assumption) w hw | exact RdL.own 0 rfl w hw | exact RdL.own 1 rfl w hw | exact RdL.own 2 rfl w hw | exact RdL.own 3 rfl w hw | exact RdL.own 4 rfl w hw | exact RdL.own 5 rfl w hw | exact RdL.own 6 rfl w hw | exact RdL.own 7 rfl w hw | exact RdL.own 8 rfl w hw | exact RdL.own 9 rfl w hw))) ?_
    rintro v16 _ ⟨L16, hQ16, rfl⟩
    subst hQ16
    refine Ops.pure rfl (Pure.assign rfl) ?_
    refine Ops.nil ?_
    refine Run.seq ?_
    refine Run.region ?_
    refine Ops.pure rfl (Pure.move rfl) ?_
    refine Ops.q rfl (QOp.call fn21 rfl (fun w hw => f_i_PassesText w _ _ (by first | assumption | omega | exact RdL.old (by assumption) w hw | exact RdL.own 0 rfl w hw | exact RdL.own 1 rfl w hw | exact RdL.own 2 rfl w hw | exact RdL.own 3 rfl w hw | exact RdL.own 4 rfl w hw | exact RdL.own 5 rfl w hw | exact RdL.own 6 rfl w hw | exact RdL.own 7 rfl w hw | exact RdL.own 8 rfl w hw | exact RdL.own 9 rfl w hw) (by first | assumption | omega | exact RdL.old (by assumption) w hw | exact RdL.own 0 rfl w hw | exact RdL.own 1 rfl w hw | exact RdL.own 2 rfl w hw | exact RdL.own 3 rfl w hw | exact RdL.own 4 rfl w hw | exact RdL.own 5 rfl w hw | exact RdL.own 6 rfl w hw | exact RdL.own 7 rfl w hw | exact RdL.own 8 rfl w hw | exact RdL.own 9 rfl w hw) (by first | assumption | omega | exact RdL.old (by assumption) w hw | exact RdL.own 0 rfl w hw | exact RdL.own 1 rfl w hw | exact RdL.own 2 rfl w hw | exact RdL.own 3 rfl w hw | exact RdL.own 4 rfl w hw | exact RdL.own 5 rfl w hw | exact RdL.own 6 rfl w hw | exact RdL.own 7 rfl w hw | exact RdL.own 8 rfl w hw | exact RdL.own 9 rfl w hw))) ?_
    refine Ops.pure rfl (Pure.assign rfl) ?_
    refine Ops.nil ?_
    refine Run.seq ?_
    refine Run.seq ?_
    refine Run.region ?_
    refine Ops.pure rfl (Pure.move rfl) ?_
    refine Ops.pure rfl (Pure.move rfl) ?_
    refine Ops.pure rfl (Pure.neqS rfl rfl) ?_
    refine Ops.nil ?_
    refine Run.condEF rfl (by simp) ?_
    refine Run.skip ?_
    refine Run.seq ?_
    refine Run.seq ?_
    refine Run.region ?_
    refine Ops.pure rfl (Pure.move rfl) ?_
    refine Ops.pure rfl (Pure.move rfl) ?_
    refine Ops.go rfl (Loud.callR fn17 rfl (fun w hw => f_l_toPassS w _ _ (by first | assumption | omega | exact RdL.old (by assumption) w hw | exact RdL.own 0 rfl w hw | exact RdL.own 1 rfl w hw | exact RdL.own 2 rfl w hw | exact RdL.own 3 rfl w hw | exact RdL.own 4 rfl w hw | exact RdL.own 5 rfl w hw | exact RdL.own 6 rfl w hw | exact RdL.own 7 rfl w hw | exact RdL.own 8 rfl w hw | exact RdL.own 9 rfl w hw) (by first | assumption | omega | exact RdL.old (by assumption) w hw | exact RdL.own 0 rfl w hw | exact RdL.own 1 rfl w hw | exact RdL.own 2 rfl w hw | exact RdL.own 3 rfl w hw | exact RdL.own 4 rfl w hw | exact RdL.own 5 rfl w hw | exact RdL.own 6 rfl w hw | exact RdL.own 7 rfl w hw | exact RdL.own 8 rfl w hw | exact RdL.own 9 rfl w hw))) ?_
    rintro v24 _ ⟨L24, hQ24, rfl⟩
    subst hQ24
    refine Ops.q rfl (QOp.call fn19 rfl (fun w hw => f_l_eqPassS w _ _ _ _ (by first | assumption | omega | exact RdL.old (by assumption) w hw | exact RdL.own 0 rfl w hw | exact RdL.own 1 rfl w hw | exact RdL.own 2 rfl w hw | exact RdL.own 3 rfl w hw | exact RdL.own 4 rfl w hw | exact RdL.own 5 rfl w hw | exact RdL.own 6 rfl w hw | exact RdL.own 7 rfl w hw | exact RdL.own 8 rfl w hw | exact RdL.own 9 rfl w hw) (by first | assumption | omega | exact RdL.old (by assumption) w hw | exact RdL.own 0 rfl w hw | exact RdL.own 1 rfl w hw | exact RdL.own 2 rfl w hw | exact RdL.own 3 rfl w hw | exact RdL.own 4 rfl w hw | exact RdL.own 5 rfl w hw | exact RdL.own 6 rfl w hw | exact RdL.own 7 rfl w hw | exact RdL.own 8 rfl w hw | exact RdL.own 9 rfl w hw) (by first | assumption | omega | exact RdL.old (by assumption) w hw | exact RdL.own 0 rfl w hw | exact RdL.own 1 rfl w hw | exact RdL.own 2 rfl w hw | exact RdL.own 3 rfl w hw | exact RdL.own 4 rfl w hw | exact RdL.own 5 rfl w hw | exact RdL.own 6 rfl w hw | exact RdL.own 7 rfl w hw | exact RdL.own 8 rfl w hw | exact RdL.own 9 rfl w hw) (by first | assumption | omega | exact RdL.old (by assumption) w hw | exact RdL.own 0 rfl w hw | exact RdL.own 1 rfl w hw | exact RdL.own 2 rfl w hw | exact RdL.own 3 rfl w hw | exact RdL.own 4 rfl w hw | exact RdL.own 5 rfl w hw | exact RdL.own 6 rfl w hw | exact RdL.own 7 rfl w hw | exact RdL.own 8 rfl w hw | exact RdL.own 9 rfl w hw))) ?_
    refine Ops.pure rfl (Pure.not rfl) ?_
    refine Ops.nil ?_
    refine Run.condEF rfl (by simp) ?_
    refine Run.skip ?_
    refine Run.seq ?_
    refine Run.region ?_
    refine Ops.pure rfl (Pure.assign rfl) ?_
    refine Ops.nil ?_
    refine Run.ret1 rfl rfl ?_
    rfl
  · skip
    rw [if_neg hz0]
    refine Run.region ?_
    refine Ops.pure rfl (Pure.move rfl) ?_
    refine Ops.pure rfl (Pure.lss rfl rfl) ?_
    refine Ops.nil ?_
    refine Run.condE rfl (decide_eq_true (by omega)) ?_
    refine Run.seq ?_
    refine Run.region ?_
    refine Ops.pure rfl (Pure.assign rfl) ?_
    refine Ops.nil ?_
    refine Run.ret1 rfl rfl ?_
    rfl

end Go.Proofs.Ytpldgghkhknpnaa
