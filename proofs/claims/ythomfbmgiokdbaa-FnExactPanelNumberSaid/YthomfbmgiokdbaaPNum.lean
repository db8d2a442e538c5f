/- Contracts of functions, printed by program from annotations. -/
import Derived.Test.YthomfbmgiokdbaaLawN
namespace Go.Proofs.Ythomfbmgiokdbaa
open Go Go.AW Go.RowKit
set_option linter.unusedVariables false
set_option linter.unusedSimpArgs false

def numTo (l : List Int) : Nat → Int
  | 0 => 0
  | k + 1 => 3 * numTo l k + l.getD k 0
theorem numTo_bd {a b : Int} {l : List Int} (h : okP a b l = true) : ∀ k, k ≤ l.length → 0 ≤ numTo l k ∧ numTo l k < p3 k
  | 0, _ => ⟨Int.le_refl _, by show (0 : Int) < ((p3 0 : Nat) : Int); decide⟩
  | k + 1, hk => by
    have h1 := numTo_bd h k (by omega)
    have h2 := okP_at h (k := k) (by omega)
    have h3 := p3_succ k
    show 0 ≤ 3 * numTo l k + l.getD k 0 ∧ 3 * numTo l k + l.getD k 0 < p3 (k + 1)
    omega
def pnE (a b : Int) (l : List Int) : Int := if okP a b l then pcE a b else 1
def pnN (a b : Int) (l : List Int) : Int := if okP a b l then (if pcE a b = 0 then numTo l l.length else 0) else 0
theorem pn_bad {a b : Int} {l : List Int} (h : okP a b l = false) : pnE a b l = 1 ∧ pnN a b l = 0 := by unfold pnE pnN; rw [h]; exact ⟨rfl, rfl⟩
theorem pn_many {a b : Int} {l : List Int} (h : okP a b l = true) (h0 : ¬ pcE a b = 0) : pnE a b l = pcE a b ∧ pnN a b l = 0 := by unfold pnE pnN; rw [h, if_pos rfl, if_pos rfl, if_neg h0]; exact ⟨rfl, rfl⟩
theorem pn_ok {a b : Int} {l : List Int} (h : okP a b l = true) (h0 : pcE a b = 0) : pnE a b l = 0 ∧ pnN a b l = numTo l l.length := by unfold pnE pnN; rw [h, if_pos rfl, if_pos rfl, if_pos h0, h0]; exact ⟨rfl, rfl⟩
theorem p3_small {a b : Int} {l : List Int} (h : okP a b l = true) (h0 : pcE a b = 0) {k : Nat} (hk : k ≤ l.length) : p3 k ≤ 2500 := by
  have h1 := (okP_spec h).2.1
  have h2 := (pc_zero h0).2.1
  have h3 := p3_mono (show k ≤ inn a b by omega)
  unfold many at h2
  omega

set_option maxRecDepth 4000 in
/-- impl.PanelNumber -/
theorem f_i_PanelNumber (w : World) (a : Int) (b : Int) (v : Value) (l : List Int) (hv : Rd w v 1 l.length (ints l)) (hl : l.length ≤ 1073741824) (a0 : -9223372036854775808 ≤ a) (a1 : a ≤ 9223372036854775807) (b0 : -9223372036854775808 ≤ b) (b1 : b ≤ 9223372036854775807) : RetV Try.prog 17 [.agg #[.int .i64 a, .int .i64 b, v]] w (.tuple #[.int .i64 (pnN a b l), .int .i64 (pnE a b l)]) := by
  refine Ret.enter Try.func17 rfl Try.ntmps17 rfl ?_
  refine Run.seq ?_
  refine Run.region ?_
  refine Ops.go rfl (Loud.box rfl rfl) ?_
  rintro _ _ ⟨b1, rfl, rfl⟩
  refine Ops.pure rfl (Pure.assign rfl) ?_
  refine Ops.pure rfl (Pure.assign rfl) ?_
  refine Ops.nil ?_
  refine Run.seq ?_
  refine Run.seq ?_
  refine Run.region ?_
  refine Ops.pure rfl (Pure.ldBA 0 rfl cell30 rfl rfl rfl) ?_
  refine Ops.q rfl (QOp.call fn46 rfl (fun w hw => f_i_ValidPanel w _ _ _ _ (by first | assumption | omega | exact RdL.old (by assumption) w hw | exact RdL.own 0 rfl w hw | exact RdL.own 1 rfl w hw | exact RdL.own 2 rfl w hw | exact RdL.own 3 rfl w hw | exact RdL.own 4 rfl w hw | exact RdL.own 5 rfl w hw | exact RdL.own 6 rfl w hw | exact RdL.own 7 rfl w hw | exact RdL.own 8 rfl w hw | exact RdL.own 9 rfl w hw | exact RdL.boxM 0 rfl rfl w hw | exact RdL.own 10 rfl w hw | exact RdL.own 11 rfl w hw | exact Sat.front 0 rfl hw | exact Sat.front 1 rfl hw | exact Sat.front 2 rfl hw | exact Sat.front 3 rfl hw | exact Sat.front 4 rfl hw | exact Sat.front 5 rfl hw | exact Sat.front 6 rfl hw | exact Sat.front 7 rfl hw | exact Sat.front 8 rfl hw | exact Sat.front 9 rfl hw | exact Sat.front 10 rfl hw | exact Sat.front 11 rfl hw | exact heldRd (RdL.own 0 rfl w hw) | exact heldRd (RdL.own 1 rfl w hw) | exact heldRd (RdL.own 2 rfl w hw) | exact heldRd (RdL.own 3 rfl w hw) | exact heldRd (RdL.own 4 rfl w hw) | exact heldRd (RdL.own 5 rfl w hw) | exact heldRd (RdL.own 6 rfl w hw) | exact heldRd (RdL.own 7 rfl w hw) | exact heldRd (RdL.own 8 rfl w hw) | exact heldRd (RdL.own 9 rfl w hw) | exact heldRd (RdL.own 10 rfl w hw) | exact heldRd (RdL.own 11 rfl w hw) | (rw [length_marks]; omega)) (by first | assumption | omega | exact RdL.old (by assumption) w hw | exact RdL.own 0 rfl w hw | exact RdL.own 1 rfl w hw | exact RdL.own 2 rfl w hw | exact RdL.own 3 rfl w hw | exact RdL.own 4 rfl w hw | exact RdL.own 5 rfl w hw | exact RdL.own 6 rfl w hw | exact RdL.own 7 rfl w hw | exact RdL.own 8 rfl w hw | exact RdL.own 9 rfl w hw | exact RdL.boxM 0 rfl rfl w hw | exact RdL.own 10 rfl w hw | exact RdL.own 11 rfl w hw | exact Sat.front 0 rfl hw | exact Sat.front 1 rfl hw | exact Sat.front 2 rfl hw | exact Sat.front 3 rfl hw | exact Sat.front 4 rfl hw | exact Sat.front 5 rfl hw | exact Sat.front 6 rfl hw | exact Sat.front 7 rfl hw | exact Sat.front 8 rfl hw | exact Sat.front 9 rfl hw | exact Sat.front 10 rfl hw | exact Sat.front 11 rfl hw | exact heldRd (RdL.own 0 rfl w hw) | exact heldRd (RdL.own 1 rfl w hw) | exact heldRd (RdL.own 2 rfl w hw) | exact heldRd (RdL.own 3 rfl w hw) | exact heldRd (RdL.own 4 rfl w hw) | exact heldRd (RdL.own 5 rfl w hw) | exact heldRd (RdL.own 6 rfl w hw) | exact heldRd (RdL.own 7 rfl w hw) | exact heldRd (RdL.own 8 rfl w hw) | exact heldRd (RdL.own 9 rfl w hw) | exact heldRd (RdL.own 10 rfl w hw) | exact heldRd (RdL.own 11 rfl w hw) | (rw [length_marks]; omega)) (by first | assumption | omega | exact RdL.old (by assumption) w hw | exact RdL.own 0 rfl w hw | exact RdL.own 1 rfl w hw | exact RdL.own 2 rfl w hw | exact RdL.own 3 rfl w hw | exact RdL.own 4 rfl w hw | exact RdL.own 5 rfl w hw | exact RdL.own 6 rfl w hw | exact RdL.own 7 rfl w hw | exact RdL.own 8 rfl w hw | exact RdL.own 9 rfl w hw | exact RdL.boxM 0 rfl rfl w hw | exact RdL.own 10 rfl w hw | exact RdL.own 11 rfl w hw | exact Sat.front 0 rfl hw | exact Sat.front 1 rfl hw | exact Sat.front 2 rfl hw | exact Sat.front 3 rfl hw | exact Sat.front 4 rfl hw | exact Sat.front 5 rfl hw | exact Sat.front 6 rfl hw | exact Sat.front 7 rfl hw | exact Sat.front 8 rfl hw | exact Sat.front 9 rfl hw | exact Sat.front 10 rfl hw | exact Sat.front 11 rfl hw | exact heldRd (RdL.own 0 rfl w hw) | exact heldRd (RdL.own 1 rfl w hw) | exact heldRd (RdL.own 2 rfl w hw) | exact heldRd (RdL.own 3 rfl w hw) | exact heldRd (RdL.own 4 rfl w hw) | exact heldRd (RdL.own 5 rfl w hw) | exact heldRd (RdL.own 6 rfl w hw) | exact heldRd (RdL.own 7 rfl w hw) | exact heldRd (RdL.own 8 rfl w hw) | exact heldRd (RdL.own 9 rfl w hw) | exact heldRd (RdL.own 10 rfl w hw) | exact heldRd (RdL.own 11 rfl w hw) | (rw [length_marks]; omega)) (by first | assumption | omega | exact RdL.old (by assumption) w hw | exact RdL.own 0 rfl w hw | exact RdL.own 1 rfl w hw | exact RdL.own 2 rfl w hw | exact RdL.own 3 rfl w hw | exact RdL.own 4 rfl w hw | exact RdL.own 5 rfl w hw | exact RdL.own 6 rfl w hw | exact RdL.own 7 rfl w hw | exact RdL.own 8 rfl w hw | exact RdL.own 9 rfl w hw | exact RdL.boxM 0 rfl rfl w hw | exact RdL.own 10 rfl w hw | exact RdL.own 11 rfl w hw | exact Sat.front 0 rfl hw | exact Sat.front 1 rfl hw | exact Sat.front 2 rfl hw | exact Sat.front 3 rfl hw | exact Sat.front 4 rfl hw | exact Sat.front 5 rfl hw | exact Sat.front 6 rfl hw | exact Sat.front 7 rfl hw | exact Sat.front 8 rfl hw | exact Sat.front 9 rfl hw | exact Sat.front 10 rfl hw | exact Sat.front 11 rfl hw | exact heldRd (RdL.own 0 rfl w hw) | exact heldRd (RdL.own 1 rfl w hw) | exact heldRd (RdL.own 2 rfl w hw) | exact heldRd (RdL.own 3 rfl w hw) | exact heldRd (RdL.own 4 rfl w hw) | exact heldRd (RdL.own 5 rfl w hw) | exact heldRd (RdL.own 6 rfl w hw) | exact heldRd (RdL.own 7 rfl w hw) | exact heldRd (RdL.own 8 rfl w hw) | exact heldRd (RdL.own 9 rfl w hw) | exact heldRd (RdL.own 10 rfl w hw) | exact heldRd (RdL.own 11 rfl w hw) | (rw [length_marks]; omega)) (by first | assumption | omega | exact RdL.old (by assumption) w hw | exact RdL.own 0 rfl w hw | exact RdL.own 1 rfl w hw | exact RdL.own 2 rfl w hw | exact RdL.own 3 rfl w hw | exact RdL.own 4 rfl w hw | exact RdL.own 5 rfl w hw | exact RdL.own 6 rfl w hw | exact RdL.own 7 rfl w hw | exact RdL.own 8 rfl w hw | exact RdL.own 9 rfl w hw | exact RdL.boxM 0 rfl rfl w hw | exact RdL.own 10 rfl w hw | exact RdL.own 11 rfl w hw | exact Sat.front 0 rfl hw | exact Sat.front 1 rfl hw | exact Sat.front 2 rfl hw | exact Sat.front 3 rfl hw | exact Sat.front 4 rfl hw | exact Sat.front 5 rfl hw | exact Sat.front 6 rfl hw | exact Sat.front 7 rfl hw | exact Sat.front 8 rfl hw | exact Sat.front 9 rfl hw | exact Sat.front 10 rfl hw | exact Sat.front 11 rfl hw | exact heldRd (RdL.own 0 rfl w hw) | exact heldRd (RdL.own 1 rfl w hw) | exact heldRd (RdL.own 2 rfl w hw) | exact heldRd (RdL.own 3 rfl w hw) | exact heldRd (RdL.own 4 rfl w hw) | exact heldRd (RdL.own 5 rfl w hw) | exact heldRd (RdL.own 6 rfl w hw) | exact heldRd (RdL.own 7 rfl w hw) | exact heldRd (RdL.own 8 rfl w hw) | exact heldRd (RdL.own 9 rfl w hw) | exact heldRd (RdL.own 10 rfl w hw) | exact heldRd (RdL.own 11 rfl w hw) | (rw [length_marks]; omega)) (by first | assumption | omega | exact RdL.old (by assumption) w hw | exact RdL.own 0 rfl w hw | exact RdL.own 1 rfl w hw | exact RdL.own 2 rfl w hw | exact RdL.own 3 rfl w hw | exact RdL.own 4 rfl w hw | exact RdL.own 5 rfl w hw | exact RdL.own 6 rfl w hw | exact RdL.own 7 rfl w hw | exact RdL.own 8 rfl w hw | exact RdL.own 9 rfl w hw | exact RdL.boxM 0 rfl rfl w hw | exact RdL.own 10 rfl w hw | exact RdL.own 11 rfl w hw | exact Sat.front 0 rfl hw | exact Sat.front 1 rfl hw | exact Sat.front 2 rfl hw | exact Sat.front 3 rfl hw | exact Sat.front 4 rfl hw | exact Sat.front 5 rfl hw | exact Sat.front 6 rfl hw | exact Sat.front 7 rfl hw | exact Sat.front 8 rfl hw | exact Sat.front 9 rfl hw | exact Sat.front 10 rfl hw | exact Sat.front 11 rfl hw | exact heldRd (RdL.own 0 rfl w hw) | exact heldRd (RdL.own 1 rfl w hw) | exact heldRd (RdL.own 2 rfl w hw) | exact heldRd (RdL.own 3 rfl w hw) | exact heldRd (RdL.own 4 rfl w hw) | exact heldRd (RdL.own 5 rfl w hw) | exact heldRd (RdL.own 6 rfl w hw) | exact heldRd (RdL.own 7 rfl w hw) | exact heldRd (RdL.own 8 rfl w hw) | exact heldRd (RdL.own 9 rfl w hw) | exact heldRd (RdL.own 10 rfl w hw) | exact heldRd (RdL.own 11 rfl w hw) | (rw [length_marks]; omega)))) ?_
  refine Ops.pure rfl (Pure.not rfl) ?_
  refine Ops.nil ?_
  refine Run.cond rfl (fun c11 => ?_) (fun c11 => ?_)
  · skip
    replace c11 := bT c11
    refine Run.seq ?_
    refine Run.region ?_
    refine Ops.pure rfl (Pure.assign rfl) ?_
    refine Ops.pure rfl (Pure.assign rfl) ?_
    refine Ops.nil ?_
    refine Run.ret2 rfl rfl rfl ?_
    rw [(pn_bad c11).1, (pn_bad c11).2]
  · skip
    replace c11 := bF c11
    refine Run.skip ?_
    refine Run.seq ?_
    refine Run.seq ?_
    refine Run.region ?_
    refine Ops.pure rfl (Pure.fieldAddrB fld30_0 rfl) ?_
    refine Ops.pure rfl (Pure.ldB 0 rfl cell2 rfl rfl) ?_
    refine Ops.pure rfl (Pure.fieldAddrB fld30_1 rfl) ?_
    refine Ops.pure rfl (Pure.ldB 0 rfl cell2 rfl rfl) ?_
    refine Ops.q rfl (QOp.call fn42 rfl (fun w hw => f_i_panelCount w _ _ (by first | assumption | omega | exact RdL.old (by assumption) w hw | exact RdL.own 0 rfl w hw | exact RdL.own 1 rfl w hw | exact RdL.own 2 rfl w hw | exact RdL.own 3 rfl w hw | exact RdL.own 4 rfl w hw | exact RdL.own 5 rfl w hw | exact RdL.own 6 rfl w hw | exact RdL.own 7 rfl w hw | exact RdL.own 8 rfl w hw | exact RdL.own 9 rfl w hw | exact RdL.boxM 0 rfl rfl w hw | exact RdL.own 10 rfl w hw | exact RdL.own 11 rfl w hw | exact Sat.front 0 rfl hw | exact Sat.front 1 rfl hw | exact Sat.front 2 rfl hw | exact Sat.front 3 rfl hw | exact Sat.front 4 rfl hw | exact Sat.front 5 rfl hw | exact Sat.front 6 rfl hw | exact Sat.front 7 rfl hw | exact Sat.front 8 rfl hw | exact Sat.front 9 rfl hw | exact Sat.front 10 rfl hw | exact Sat.front 11 rfl hw | exact heldRd (RdL.own 0 rfl w hw) | exact heldRd (RdL.own 1 rfl w hw) | exact heldRd (RdL.own 2 rfl w hw) | exact heldRd (RdL.own 3 rfl w hw) | exact heldRd (RdL.own 4 rfl w hw) | exact heldRd (RdL.own 5 rfl w hw) | exact heldRd (RdL.own 6 rfl w hw) | exact heldRd (RdL.own 7 rfl w hw) | exact heldRd (RdL.own 8 rfl w hw) | exact heldRd (RdL.own 9 rfl w hw) | exact heldRd (RdL.own 10 rfl w hw) | exact heldRd (RdL.own 11 rfl w hw) | (rw [length_marks]; omega)) (by first | assumption | omega | exact RdL.old (by assumption) w hw | exact RdL.own 0 rfl w hw | exact RdL.own 1 rfl w hw | exact RdL.own 2 rfl w hw | exact RdL.own 3 rfl w hw | exact RdL.own 4 rfl w hw | exact RdL.own 5 rfl w hw | exact RdL.own 6 rfl w hw | exact RdL.own 7 rfl w hw | exact RdL.own 8 rfl w hw | exact RdL.own 9 rfl w hw | exact RdL.boxM 0 rfl rfl w hw | exact RdL.own 10 rfl w hw | exact RdL.own 11 rfl w hw | exact Sat.front 0 rfl hw | exact Sat.front 1 rfl hw | exact Sat.front 2 rfl hw | exact Sat.front 3 rfl hw | exact Sat.front 4 rfl hw | exact Sat.front 5 rfl hw | exact Sat.front 6 rfl hw | exact Sat.front 7 rfl hw | exact Sat.front 8 rfl hw | exact Sat.front 9 rfl hw | exact Sat.front 10 rfl hw | exact Sat.front 11 rfl hw | exact heldRd (RdL.own 0 rfl w hw) | exact heldRd (RdL.own 1 rfl w hw) | exact heldRd (RdL.own 2 rfl w hw) | exact heldRd (RdL.own 3 rfl w hw) | exact heldRd (RdL.own 4 rfl w hw) | exact heldRd (RdL.own 5 rfl w hw) | exact heldRd (RdL.own 6 rfl w hw) | exact heldRd (RdL.own 7 rfl w hw) | exact heldRd (RdL.own 8 rfl w hw) | exact heldRd (RdL.own 9 rfl w hw) | exact heldRd (RdL.own 10 rfl w hw) | exact heldRd (RdL.own 11 rfl w hw) | (rw [length_marks]; omega)) (by first | assumption | omega | exact RdL.old (by assumption) w hw | exact RdL.own 0 rfl w hw | exact RdL.own 1 rfl w hw | exact RdL.own 2 rfl w hw | exact RdL.own 3 rfl w hw | exact RdL.own 4 rfl w hw | exact RdL.own 5 rfl w hw | exact RdL.own 6 rfl w hw | exact RdL.own 7 rfl w hw | exact RdL.own 8 rfl w hw | exact RdL.own 9 rfl w hw | exact RdL.boxM 0 rfl rfl w hw | exact RdL.own 10 rfl w hw | exact RdL.own 11 rfl w hw | exact Sat.front 0 rfl hw | exact Sat.front 1 rfl hw | exact Sat.front 2 rfl hw | exact Sat.front 3 rfl hw | exact Sat.front 4 rfl hw | exact Sat.front 5 rfl hw | exact Sat.front 6 rfl hw | exact Sat.front 7 rfl hw | exact Sat.front 8 rfl hw | exact Sat.front 9 rfl hw | exact Sat.front 10 rfl hw | exact Sat.front 11 rfl hw | exact heldRd (RdL.own 0 rfl w hw) | exact heldRd (RdL.own 1 rfl w hw) | exact heldRd (RdL.own 2 rfl w hw) | exact heldRd (RdL.own 3 rfl w hw) | exact heldRd (RdL.own 4 rfl w hw) | exact heldRd (RdL.own 5 rfl w hw) | exact heldRd (RdL.own 6 rfl w hw) | exact heldRd (RdL.own 7 rfl w hw) | exact heldRd (RdL.own 8 rfl w hw) | exact heldRd (RdL.own 9 rfl w hw) | exact heldRd (RdL.own 10 rfl w hw) | exact heldRd (RdL.own 11 rfl w hw) | (rw [length_marks]; omega)) (by first | assumption | omega | exact RdL.old (by assumption) w hw | exact RdL.own 0 rfl w hw | exact RdL.own 1 rfl w hw | exact RdL.own 2 rfl w hw | exact RdL.own 3 rfl w hw | exact RdL.own 4 rfl w hw | exact RdL.own 5 rfl w hw | exact RdL.own 6 rfl w hw | exact RdL.own 7 rfl w hw | exact RdL.own 8 rfl w hw | exact RdL.own 9 rfl w hw | exact RdL.boxM 0 rfl rfl w hw | exact RdL.own 10 rfl w hw | exact RdL.own 11 rfl w hw | exact Sat.front 0 rfl hw | exact Sat.front 1 rfl hw | exact Sat.front 2 rfl hw | exact Sat.front 3 rfl hw | exact Sat.front 4 rfl hw | exact Sat.front 5 rfl hw | exact Sat.front 6 rfl hw | exact Sat.front 7 rfl hw | exact Sat.front 8 rfl hw | exact Sat.front 9 rfl hw | exact Sat.front 10 rfl hw | exact Sat.front 11 rfl hw | exact heldRd (RdL.own 0 rfl w hw) | exact heldRd (RdL.own 1 rfl w hw) | exact heldRd (RdL.own 2 rfl w hw) | exact heldRd (RdL.own 3 rfl w hw) | exact heldRd (RdL.own 4 rfl w hw) | exact heldRd (RdL.own 5 rfl w hw) | exact heldRd (RdL.own 6 rfl w hw) | exact heldRd (RdL.own 7 rfl w hw) | exact heldRd (RdL.own 8 rfl w hw) | exact heldRd (RdL.own 9 rfl w hw) | exact heldRd (RdL.own 10 rfl w hw) | exact heldRd (RdL.own 11 rfl w hw) | (rw [length_marks]; omega)))) ?_
    refine Ops.pure rfl (Pure.move rfl) ?_
    refine Ops.pure rfl (Pure.extract rfl rfl) ?_
    refine Ops.pure rfl (Pure.extract rfl rfl) ?_
    refine Ops.pure rfl (Pure.assign rfl) ?_
    refine Ops.pure rfl (Pure.assign rfl) ?_
    refine Ops.nil ?_
    refine Run.seq ?_
    refine Run.region ?_
    refine Ops.pure rfl (Pure.move rfl) ?_
    refine Ops.pure rfl (Pure.neq rfl rfl) ?_
    refine Ops.nil ?_
    refine Run.cond rfl (fun c21 => ?_) (fun c21 => ?_)
    · skip
      replace c21 := nT c21
      refine Run.seq ?_
      refine Run.region ?_
      refine Ops.pure rfl (Pure.move rfl) ?_
      refine Ops.pure rfl (Pure.assign rfl) ?_
      refine Ops.pure rfl (Pure.assign rfl) ?_
      refine Ops.nil ?_
      refine Run.ret2 rfl rfl rfl ?_
      rw [(pn_many c11 c21).1, (pn_many c11 c21).2]
      try rfl
    · skip
      replace c21 := nF c21
      refine Run.skip ?_
      refine Run.seq ?_
      refine Run.region ?_
      refine Ops.pure rfl (Pure.assign rfl) ?_
      refine Ops.nil ?_
      refine Run.seq ?_
      refine Run.seq ?_
      refine Run.region ?_
      refine Ops.pure rfl (Pure.fieldAddrB fld30_2 rfl) ?_
      refine Ops.pure rfl (Pure.ldB 0 rfl cell25 rfl rfl) ?_
      refine Ops.pure rfl (Pure.len sl25 (RdL.old hv) rfl) ?_
      refine Ops.pure rfl (Pure.move rfl) ?_
      refine Ops.nil ?_
      refine Run.block ?_
      refine Run.loop (X := Nat) (fun k => [(6, .int .i64 (numTo l k)), (24, v), (25, .int .i64 l.length), (26, .int .i64 k)]) (fun k => []) (fun k => k ≤ l.length) (fun k => l.length - k) 0 ?_ ?_ ?_ ?_
      · exact Nat.zero_le _
      · exact ⟨rfl, rfl, rfl, rfl, trivial⟩
      · exact Ext.nil _
      · intro k hinv0
        have hnb := numTo_bd c11 k hinv0
        have hps := p3_small c11 c21 hinv0
        have hat := fun (h : k < l.length) => okP_at c11 h
        refine Run.seq ?_
        refine Run.region ?_
        refine Ops.pure rfl (Pure.lss rfl rfl) ?_
        refine Ops.nil ?_
        refine Run.seq ?_
        refine Run.cond rfl (fun c27 => ?_) (fun c27 => ?_)
        · skip
          replace c27 := dT c27
          refine Run.skip ?_
          refine Run.seq ?_
          refine Run.block ?_
          refine Run.seq ?_
          refine Run.region ?_
          refine Ops.pure rfl (Pure.idx1N sl25 (RdL.old hv) rfl rfl (by first | assumption | omega | (simp; omega))) ?_
          refine Ops.pure rfl (Pure.ld cell2 rfl (RdL.old hv) (by first | exact ints_get (by omega) | exact bools_get (by omega) | exact strs_get (by omega) | exact vals_get (by first | omega | (simp; omega)))) ?_
          refine Ops.pure rfl (Pure.assign rfl) ?_
          refine Ops.nil ?_
          refine Run.region ?_
          refine Ops.pure rfl (Pure.move rfl) ?_
          refine Ops.pure rfl (Pure.mul rfl rfl (by omega) (by omega)) ?_
          refine Ops.pure rfl (Pure.move rfl) ?_
          refine Ops.pure rfl (Pure.add rfl rfl (by omega) (by omega)) ?_
          refine Ops.pure rfl (Pure.assign rfl) ?_
          refine Ops.nil ?_
          refine Run.blk ?_
          refine Run.region ?_
          refine Ops.pure rfl (Pure.add rfl rfl (by omega) (by omega)) ?_
          refine Ops.pure rfl (Pure.move rfl) ?_
          refine Ops.nil ?_
          refine Run.asrt ?_
          exact ⟨k + 1, ⟨by omega, by omega⟩, ⟨rfl, rfl, rfl, rfl, trivial⟩, Ext.nil _⟩
        · skip
          replace c27 := dF c27
          refine Run.exit rfl ?_
          refine Run.seq ?_
          refine Run.region ?_
          refine Ops.pure rfl (Pure.move rfl) ?_
          refine Ops.pure rfl (Pure.assign rfl) ?_
          refine Ops.pure rfl (Pure.assign rfl) ?_
          refine Ops.nil ?_
          refine Run.ret2 rfl rfl rfl ?_
          have e : k = l.length := by omega
          subst e
          rw [(pn_ok c11 c21).1, (pn_ok c11 c21).2]

set_option maxRecDepth 4000 in
/-- spec.PanelNumber -/
theorem f_s_PanelNumber (w : World) (a : Int) (b : Int) (v : Value) (l : List Int) (hv : Rd w v 1 l.length (ints l)) (hl : l.length ≤ 1073741824) (a0 : -9223372036854775808 ≤ a) (a1 : a ≤ 9223372036854775807) (b0 : -9223372036854775808 ≤ b) (b1 : b ≤ 9223372036854775807) : RetV Try.prog 15 [.agg #[.int .i64 a, .int .i64 b, v]] w (.tuple #[.int .i64 (pnN a b l), .int .i64 (pnE a b l)]) := by
  refine Ret.enter Try.func15 rfl Try.ntmps15 rfl ?_
  refine Run.seq ?_
  refine Run.region ?_
  refine Ops.go rfl (Loud.box rfl rfl) ?_
  rintro _ _ ⟨bq, rfl, rfl⟩
  refine Ops.pure rfl (Pure.assign rfl) ?_
  refine Ops.pure rfl (Pure.assign rfl) ?_
  refine Ops.nil ?_
  refine Run.seq ?_
  refine Run.seq ?_
  refine Run.region ?_
  refine Ops.q rfl (QOp.call fn44 rfl (fun w hw => f_s_l02Ok w _ _ _ _ _ (by first | assumption | omega | exact RdL.old (by assumption) w hw | exact RdL.own 0 rfl w hw | exact RdL.own 1 rfl w hw | exact RdL.own 2 rfl w hw | exact RdL.own 3 rfl w hw | exact RdL.own 4 rfl w hw | exact RdL.own 5 rfl w hw | exact RdL.own 6 rfl w hw | exact RdL.own 7 rfl w hw | exact RdL.own 8 rfl w hw | exact RdL.own 9 rfl w hw | exact RdL.boxM 0 rfl rfl w hw | exact RdL.own 10 rfl w hw | exact RdL.own 11 rfl w hw | exact Sat.front 0 rfl hw | exact Sat.front 1 rfl hw | exact Sat.front 2 rfl hw | exact Sat.front 3 rfl hw | exact Sat.front 4 rfl hw | exact Sat.front 5 rfl hw | exact Sat.front 6 rfl hw | exact Sat.front 7 rfl hw | exact Sat.front 8 rfl hw | exact Sat.front 9 rfl hw | exact Sat.front 10 rfl hw | exact Sat.front 11 rfl hw | exact heldRd (RdL.own 0 rfl w hw) | exact heldRd (RdL.own 1 rfl w hw) | exact heldRd (RdL.own 2 rfl w hw) | exact heldRd (RdL.own 3 rfl w hw) | exact heldRd (RdL.own 4 rfl w hw) | exact heldRd (RdL.own 5 rfl w hw) | exact heldRd (RdL.own 6 rfl w hw) | exact heldRd (RdL.own 7 rfl w hw) | exact heldRd (RdL.own 8 rfl w hw) | exact heldRd (RdL.own 9 rfl w hw) | exact heldRd (RdL.own 10 rfl w hw) | exact heldRd (RdL.own 11 rfl w hw) | (rw [length_marks]; omega)) (by first | assumption | omega | exact RdL.old (by assumption) w hw | exact RdL.own 0 rfl w hw | exact RdL.own 1 rfl w hw | exact RdL.own 2 rfl w hw | exact RdL.own 3 rfl w hw | exact RdL.own 4 rfl w hw | exact RdL.own 5 rfl w hw | exact RdL.own 6 rfl w hw | exact RdL.own 7 rfl w hw | exact RdL.own 8 rfl w hw | exact RdL.own 9 rfl w hw | exact RdL.boxM 0 rfl rfl w hw | exact RdL.own 10 rfl w hw | exact RdL.own 11 rfl w hw | exact Sat.front 0 rfl hw | exact Sat.front 1 rfl hw | exact Sat.front 2 rfl hw | exact Sat.front 3 rfl hw | exact Sat.front 4 rfl hw | exact Sat.front 5 rfl hw | exact Sat.front 6 rfl hw | exact Sat.front 7 rfl hw | exact Sat.front 8 rfl hw | exact Sat.front 9 rfl hw | exact Sat.front 10 rfl hw | exact Sat.front 11 rfl hw | exact heldRd (RdL.own 0 rfl w hw) | exact heldRd (RdL.own 1 rfl w hw) | exact heldRd (RdL.own 2 rfl w hw) | exact heldRd (RdL.own 3 rfl w hw) | exact heldRd (RdL.own 4 rfl w hw) | exact heldRd (RdL.own 5 rfl w hw) | exact heldRd (RdL.own 6 rfl w hw) | exact heldRd (RdL.own 7 rfl w hw) | exact heldRd (RdL.own 8 rfl w hw) | exact heldRd (RdL.own 9 rfl w hw) | exact heldRd (RdL.own 10 rfl w hw) | exact heldRd (RdL.own 11 rfl w hw) | (rw [length_marks]; omega)) (by first | assumption | omega | exact RdL.old (by assumption) w hw | exact RdL.own 0 rfl w hw | exact RdL.own 1 rfl w hw | exact RdL.own 2 rfl w hw | exact RdL.own 3 rfl w hw | exact RdL.own 4 rfl w hw | exact RdL.own 5 rfl w hw | exact RdL.own 6 rfl w hw | exact RdL.own 7 rfl w hw | exact RdL.own 8 rfl w hw | exact RdL.own 9 rfl w hw | exact RdL.boxM 0 rfl rfl w hw | exact RdL.own 10 rfl w hw | exact RdL.own 11 rfl w hw | exact Sat.front 0 rfl hw | exact Sat.front 1 rfl hw | exact Sat.front 2 rfl hw | exact Sat.front 3 rfl hw | exact Sat.front 4 rfl hw | exact Sat.front 5 rfl hw | exact Sat.front 6 rfl hw | exact Sat.front 7 rfl hw | exact Sat.front 8 rfl hw | exact Sat.front 9 rfl hw | exact Sat.front 10 rfl hw | exact Sat.front 11 rfl hw | exact heldRd (RdL.own 0 rfl w hw) | exact heldRd (RdL.own 1 rfl w hw) | exact heldRd (RdL.own 2 rfl w hw) | exact heldRd (RdL.own 3 rfl w hw) | exact heldRd (RdL.own 4 rfl w hw) | exact heldRd (RdL.own 5 rfl w hw) | exact heldRd (RdL.own 6 rfl w hw) | exact heldRd (RdL.own 7 rfl w hw) | exact heldRd (RdL.own 8 rfl w hw) | exact heldRd (RdL.own 9 rfl w hw) | exact heldRd (RdL.own 10 rfl w hw) | exact heldRd (RdL.own 11 rfl w hw) | (rw [length_marks]; omega)) (by first | assumption | omega | exact RdL.old (by assumption) w hw | exact RdL.own 0 rfl w hw | exact RdL.own 1 rfl w hw | exact RdL.own 2 rfl w hw | exact RdL.own 3 rfl w hw | exact RdL.own 4 rfl w hw | exact RdL.own 5 rfl w hw | exact RdL.own 6 rfl w hw | exact RdL.own 7 rfl w hw | exact RdL.own 8 rfl w hw | exact RdL.own 9 rfl w hw | exact RdL.boxM 0 rfl rfl w hw | exact RdL.own 10 rfl w hw | exact RdL.own 11 rfl w hw | exact Sat.front 0 rfl hw | exact Sat.front 1 rfl hw | exact Sat.front 2 rfl hw | exact Sat.front 3 rfl hw | exact Sat.front 4 rfl hw | exact Sat.front 5 rfl hw | exact Sat.front 6 rfl hw | exact Sat.front 7 rfl hw | exact Sat.front 8 rfl hw | exact Sat.front 9 rfl hw | exact Sat.front 10 rfl hw | exact Sat.front 11 rfl hw | exact heldRd (RdL.own 0 rfl w hw) | exact heldRd (RdL.own 1 rfl w hw) | exact heldRd (RdL.own 2 rfl w hw) | exact heldRd (RdL.own 3 rfl w hw) | exact heldRd (RdL.own 4 rfl w hw) | exact heldRd (RdL.own 5 rfl w hw) | exact heldRd (RdL.own 6 rfl w hw) | exact heldRd (RdL.own 7 rfl w hw) | exact heldRd (RdL.own 8 rfl w hw) | exact heldRd (RdL.own 9 rfl w hw) | exact heldRd (RdL.own 10 rfl w hw) | exact heldRd (RdL.own 11 rfl w hw) | (rw [length_marks]; omega)) (by first | assumption | omega | exact RdL.old (by assumption) w hw | exact RdL.own 0 rfl w hw | exact RdL.own 1 rfl w hw | exact RdL.own 2 rfl w hw | exact RdL.own 3 rfl w hw | exact RdL.own 4 rfl w hw | exact RdL.own 5 rfl w hw | exact RdL.own 6 rfl w hw | exact RdL.own 7 rfl w hw | exact RdL.own 8 rfl w hw | exact RdL.own 9 rfl w hw | exact RdL.boxM 0 rfl rfl w hw | exact RdL.own 10 rfl w hw | exact RdL.own 11 rfl w hw | exact Sat.front 0 rfl hw | exact Sat.front 1 rfl hw | exact Sat.front 2 rfl hw | exact Sat.front 3 rfl hw | exact Sat.front 4 rfl hw | exact Sat.front 5 rfl hw | exact Sat.front 6 rfl hw | exact Sat.front 7 rfl hw | exact Sat.front 8 rfl hw | exact Sat.front 9 rfl hw | exact Sat.front 10 rfl hw | exact Sat.front 11 rfl hw | exact heldRd (RdL.own 0 rfl w hw) | exact heldRd (RdL.own 1 rfl w hw) | exact heldRd (RdL.own 2 rfl w hw) | exact heldRd (RdL.own 3 rfl w hw) | exact heldRd (RdL.own 4 rfl w hw) | exact heldRd (RdL.own 5 rfl w hw) | exact heldRd (RdL.own 6 rfl w hw) | exact heldRd (RdL.own 7 rfl w hw) | exact heldRd (RdL.own 8 rfl w hw) | exact heldRd (RdL.own 9 rfl w hw) | exact heldRd (RdL.own 10 rfl w hw) | exact heldRd (RdL.own 11 rfl w hw) | (rw [length_marks]; omega)) (by first | assumption | omega | exact RdL.old (by assumption) w hw | exact RdL.own 0 rfl w hw | exact RdL.own 1 rfl w hw | exact RdL.own 2 rfl w hw | exact RdL.own 3 rfl w hw | exact RdL.own 4 rfl w hw | exact RdL.own 5 rfl w hw | exact RdL.own 6 rfl w hw | exact RdL.own 7 rfl w hw | exact RdL.own 8 rfl w hw | exact RdL.own 9 rfl w hw | exact RdL.boxM 0 rfl rfl w hw | exact RdL.own 10 rfl w hw | exact RdL.own 11 rfl w hw | exact Sat.front 0 rfl hw | exact Sat.front 1 rfl hw | exact Sat.front 2 rfl hw | exact Sat.front 3 rfl hw | exact Sat.front 4 rfl hw | exact Sat.front 5 rfl hw | exact Sat.front 6 rfl hw | exact Sat.front 7 rfl hw | exact Sat.front 8 rfl hw | exact Sat.front 9 rfl hw | exact Sat.front 10 rfl hw | exact Sat.front 11 rfl hw | exact heldRd (RdL.own 0 rfl w hw) | exact heldRd (RdL.own 1 rfl w hw) | exact heldRd (RdL.own 2 rfl w hw) | exact heldRd (RdL.own 3 rfl w hw) | exact heldRd (RdL.own 4 rfl w hw) | exact heldRd (RdL.own 5 rfl w hw) | exact heldRd (RdL.own 6 rfl w hw) | exact heldRd (RdL.own 7 rfl w hw) | exact heldRd (RdL.own 8 rfl w hw) | exact heldRd (RdL.own 9 rfl w hw) | exact heldRd (RdL.own 10 rfl w hw) | exact heldRd (RdL.own 11 rfl w hw) | (rw [length_marks]; omega)) (by first | assumption | omega | exact RdL.old (by assumption) w hw | exact RdL.own 0 rfl w hw | exact RdL.own 1 rfl w hw | exact RdL.own 2 rfl w hw | exact RdL.own 3 rfl w hw | exact RdL.own 4 rfl w hw | exact RdL.own 5 rfl w hw | exact RdL.own 6 rfl w hw | exact RdL.own 7 rfl w hw | exact RdL.own 8 rfl w hw | exact RdL.own 9 rfl w hw | exact RdL.boxM 0 rfl rfl w hw | exact RdL.own 10 rfl w hw | exact RdL.own 11 rfl w hw | exact Sat.front 0 rfl hw | exact Sat.front 1 rfl hw | exact Sat.front 2 rfl hw | exact Sat.front 3 rfl hw | exact Sat.front 4 rfl hw | exact Sat.front 5 rfl hw | exact Sat.front 6 rfl hw | exact Sat.front 7 rfl hw | exact Sat.front 8 rfl hw | exact Sat.front 9 rfl hw | exact Sat.front 10 rfl hw | exact Sat.front 11 rfl hw | exact heldRd (RdL.own 0 rfl w hw) | exact heldRd (RdL.own 1 rfl w hw) | exact heldRd (RdL.own 2 rfl w hw) | exact heldRd (RdL.own 3 rfl w hw) | exact heldRd (RdL.own 4 rfl w hw) | exact heldRd (RdL.own 5 rfl w hw) | exact heldRd (RdL.own 6 rfl w hw) | exact heldRd (RdL.own 7 rfl w hw) | exact heldRd (RdL.own 8 rfl w hw) | exact heldRd (RdL.own 9 rfl w hw) | exact heldRd (RdL.own 10 rfl w hw) | exact heldRd (RdL.own 11 rfl w hw) | (rw [length_marks]; omega)))) ?_
  refine Ops.pure rfl (Pure.not rfl) ?_
  refine Ops.nil ?_
  refine Run.cond rfl (fun c8 => ?_) (fun c8 => ?_)
  · skip
    replace c8 := bT c8
    refine Run.seq ?_
    refine Run.region ?_
    refine Ops.pure rfl (Pure.assign rfl) ?_
    refine Ops.pure rfl (Pure.assign rfl) ?_
    refine Ops.nil ?_
    refine Run.ret2 rfl rfl rfl ?_
    rw [(pn_bad c8).1, (pn_bad c8).2]
  · skip
    replace c8 := bF c8
    refine Run.skip ?_
    refine Run.seq ?_
    refine Run.region ?_
    refine Ops.pure rfl (Pure.fieldAddrB fld30_0 rfl) ?_
    refine Ops.pure rfl (Pure.ldB 0 rfl cell2 rfl rfl) ?_
    refine Ops.pure rfl (Pure.fieldAddrB fld30_1 rfl) ?_
    refine Ops.pure rfl (Pure.ldB 0 rfl cell2 rfl rfl) ?_
    refine Ops.q rfl (QOp.call fn40 rfl (fun w hw => f_s_l12Code w _ _ (by first | assumption | omega | exact RdL.old (by assumption) w hw | exact RdL.own 0 rfl w hw | exact RdL.own 1 rfl w hw | exact RdL.own 2 rfl w hw | exact RdL.own 3 rfl w hw | exact RdL.own 4 rfl w hw | exact RdL.own 5 rfl w hw | exact RdL.own 6 rfl w hw | exact RdL.own 7 rfl w hw | exact RdL.own 8 rfl w hw | exact RdL.own 9 rfl w hw | exact RdL.boxM 0 rfl rfl w hw | exact RdL.own 10 rfl w hw | exact RdL.own 11 rfl w hw | exact Sat.front 0 rfl hw | exact Sat.front 1 rfl hw | exact Sat.front 2 rfl hw | exact Sat.front 3 rfl hw | exact Sat.front 4 rfl hw | exact Sat.front 5 rfl hw | exact Sat.front 6 rfl hw | exact Sat.front 7 rfl hw | exact Sat.front 8 rfl hw | exact Sat.front 9 rfl hw | exact Sat.front 10 rfl hw | exact Sat.front 11 rfl hw | exact heldRd (RdL.own 0 rfl w hw) | exact heldRd (RdL.own 1 rfl w hw) | exact heldRd (RdL.own 2 rfl w hw) | exact heldRd (RdL.own 3 rfl w hw) | exact heldRd (RdL.own 4 rfl w hw) | exact heldRd (RdL.own 5 rfl w hw) | exact heldRd (RdL.own 6 rfl w hw) | exact heldRd (RdL.own 7 rfl w hw) | exact heldRd (RdL.own 8 rfl w hw) | exact heldRd (RdL.own 9 rfl w hw) | exact heldRd (RdL.own 10 rfl w hw) | exact heldRd (RdL.own 11 rfl w hw) | (rw [length_marks]; omega)) (by first | assumption | omega | exact RdL.old (by assumption) w hw | exact RdL.own 0 rfl w hw | exact RdL.own 1 rfl w hw | exact RdL.own 2 rfl w hw | exact RdL.own 3 rfl w hw | exact RdL.own 4 rfl w hw | exact RdL.own 5 rfl w hw | exact RdL.own 6 rfl w hw | exact RdL.own 7 rfl w hw | exact RdL.own 8 rfl w hw | exact RdL.own 9 rfl w hw | exact RdL.boxM 0 rfl rfl w hw | exact RdL.own 10 rfl w hw | exact RdL.own 11 rfl w hw | exact Sat.front 0 rfl hw | exact Sat.front 1 rfl hw | exact Sat.front 2 rfl hw | exact Sat.front 3 rfl hw | exact Sat.front 4 rfl hw | exact Sat.front 5 rfl hw | exact Sat.front 6 rfl hw | exact Sat.front 7 rfl hw | exact Sat.front 8 rfl hw | exact Sat.front 9 rfl hw | exact Sat.front 10 rfl hw | exact Sat.front 11 rfl hw | exact heldRd (RdL.own 0 rfl w hw) | exact heldRd (RdL.own 1 rfl w hw) | exact heldRd (RdL.own 2 rfl w hw) | exact heldRd (RdL.own 3 rfl w hw) | exact heldRd (RdL.own 4 rfl w hw) | exact heldRd (RdL.own 5 rfl w hw) | exact heldRd (RdL.own 6 rfl w hw) | exact heldRd (RdL.own 7 rfl w hw) | exact heldRd (RdL.own 8 rfl w hw) | exact heldRd (RdL.own 9 rfl w hw) | exact heldRd (RdL.own 10 rfl w hw) | exact heldRd (RdL.own 11 rfl w hw) | (rw [length_marks]; omega)) (by first | assumption | omega | exact RdL.old (by assumption) w hw | exact RdL.own 0 rfl w hw | exact RdL.own 1 rfl w hw | exact RdL.own 2 rfl w hw | exact RdL.own 3 rfl w hw | exact RdL.own 4 rfl w hw | exact RdL.own 5 rfl w hw | exact RdL.own 6 rfl w hw | exact RdL.own 7 rfl w hw | exact RdL.own 8 rfl w hw | exact RdL.own 9 rfl w hw | exact RdL.boxM 0 rfl rfl w hw | exact RdL.own 10 rfl w hw | exact RdL.own 11 rfl w hw | exact Sat.front 0 rfl hw | exact Sat.front 1 rfl hw | exact Sat.front 2 rfl hw | exact Sat.front 3 rfl hw | exact Sat.front 4 rfl hw | exact Sat.front 5 rfl hw | exact Sat.front 6 rfl hw | exact Sat.front 7 rfl hw | exact Sat.front 8 rfl hw | exact Sat.front 9 rfl hw | exact Sat.front 10 rfl hw | exact Sat.front 11 rfl hw | exact heldRd (RdL.own 0 rfl w hw) | exact heldRd (RdL.own 1 rfl w hw) | exact heldRd (RdL.own 2 rfl w hw) | exact heldRd (RdL.own 3 rfl w hw) | exact heldRd (RdL.own 4 rfl w hw) | exact heldRd (RdL.own 5 rfl w hw) | exact heldRd (RdL.own 6 rfl w hw) | exact heldRd (RdL.own 7 rfl w hw) | exact heldRd (RdL.own 8 rfl w hw) | exact heldRd (RdL.own 9 rfl w hw) | exact heldRd (RdL.own 10 rfl w hw) | exact heldRd (RdL.own 11 rfl w hw) | (rw [length_marks]; omega)) (by first | assumption | omega | exact RdL.old (by assumption) w hw | exact RdL.own 0 rfl w hw | exact RdL.own 1 rfl w hw | exact RdL.own 2 rfl w hw | exact RdL.own 3 rfl w hw | exact RdL.own 4 rfl w hw | exact RdL.own 5 rfl w hw | exact RdL.own 6 rfl w hw | exact RdL.own 7 rfl w hw | exact RdL.own 8 rfl w hw | exact RdL.own 9 rfl w hw | exact RdL.boxM 0 rfl rfl w hw | exact RdL.own 10 rfl w hw | exact RdL.own 11 rfl w hw | exact Sat.front 0 rfl hw | exact Sat.front 1 rfl hw | exact Sat.front 2 rfl hw | exact Sat.front 3 rfl hw | exact Sat.front 4 rfl hw | exact Sat.front 5 rfl hw | exact Sat.front 6 rfl hw | exact Sat.front 7 rfl hw | exact Sat.front 8 rfl hw | exact Sat.front 9 rfl hw | exact Sat.front 10 rfl hw | exact Sat.front 11 rfl hw | exact heldRd (RdL.own 0 rfl w hw) | exact heldRd (RdL.own 1 rfl w hw) | exact heldRd (RdL.own 2 rfl w hw) | exact heldRd (RdL.own 3 rfl w hw) | exact heldRd (RdL.own 4 rfl w hw) | exact heldRd (RdL.own 5 rfl w hw) | exact heldRd (RdL.own 6 rfl w hw) | exact heldRd (RdL.own 7 rfl w hw) | exact heldRd (RdL.own 8 rfl w hw) | exact heldRd (RdL.own 9 rfl w hw) | exact heldRd (RdL.own 10 rfl w hw) | exact heldRd (RdL.own 11 rfl w hw) | (rw [length_marks]; omega)))) ?_
    refine Ops.pure rfl (Pure.assign rfl) ?_
    refine Ops.nil ?_
    refine Run.seq ?_
    refine Run.seq ?_
    refine Run.region ?_
    refine Ops.pure rfl (Pure.move rfl) ?_
    refine Ops.pure rfl (Pure.neq rfl rfl) ?_
    refine Ops.nil ?_
    refine Run.cond rfl (fun c15 => ?_) (fun c15 => ?_)
    · skip
      replace c15 := nT c15
      refine Run.seq ?_
      refine Run.region ?_
      refine Ops.pure rfl (Pure.move rfl) ?_
      refine Ops.pure rfl (Pure.assign rfl) ?_
      refine Ops.pure rfl (Pure.assign rfl) ?_
      refine Ops.nil ?_
      refine Run.ret2 rfl rfl rfl ?_
      rw [(pn_many c8 c15).1, (pn_many c8 c15).2]
    · skip
      replace c15 := nF c15
      refine Run.skip ?_
      refine Run.seq ?_
      refine Run.region ?_
      refine Ops.pure rfl (Pure.assign rfl) ?_
      refine Ops.nil ?_
      refine Run.seq ?_
      refine Run.seq ?_
      refine Run.region ?_
      refine Ops.pure rfl (Pure.assign rfl) ?_
      refine Ops.nil ?_
      refine Run.block ?_
      refine Run.loop (X := Nat) (fun k => [(1, .pointer (some ⟨bq, 0, none⟩)), (5, .int .i64 (numTo l k)), (6, .int .i64 k)]) (fun k => [.box bq 30 [.int .i64 a, .int .i64 b, v]]) (fun k => k ≤ l.length) (fun k => l.length - k) 0 ?_ ?_ ?_ ?_
      · exact Nat.zero_le _
      · exact ⟨rfl, rfl, rfl, trivial⟩
      · exact Ext.refl _
      · intro k hinv0
        have hnb := numTo_bd c8 k hinv0
        have hps := p3_small c8 c15 hinv0
        have hat := fun (h : k < l.length) => okP_at c8 h
        refine Run.seq ?_
        refine Run.seq ?_
        refine Run.region ?_
        refine Ops.pure rfl (Pure.move rfl) ?_
        refine Ops.pure rfl (Pure.fieldAddrB fld30_2 rfl) ?_
        refine Ops.pure rfl (Pure.ldB 0 rfl cell25 rfl rfl) ?_
        refine Ops.pure rfl (Pure.len sl25 (RdL.old hv) rfl) ?_
        refine Ops.pure rfl (Pure.lss rfl rfl) ?_
        refine Ops.nil ?_
        refine Run.cond rfl (fun c21 => ?_) (fun c21 => ?_)
        · skip
          replace c21 := dT c21
          refine Run.skip ?_
          refine Run.seq ?_
          refine Run.block ?_
          refine Run.region ?_
          refine Ops.pure rfl (Pure.move rfl) ?_
          refine Ops.pure rfl (Pure.mul rfl rfl (by omega) (by omega)) ?_
          refine Ops.pure rfl (Pure.fieldAddrB fld30_2 rfl) ?_
          refine Ops.pure rfl (Pure.ldB 0 rfl cell25 rfl rfl) ?_
          refine Ops.pure rfl (Pure.move rfl) ?_
          refine Ops.pure rfl (Pure.idx1N sl25 (RdL.old hv) rfl rfl (by first | assumption | omega | (simp; omega))) ?_
          refine Ops.pure rfl (Pure.ld cell2 rfl (RdL.old hv) (by first | exact ints_get (by omega) | exact bools_get (by omega) | exact strs_get (by omega) | exact vals_get (by first | omega | (simp; omega)))) ?_
          refine Ops.pure rfl (Pure.add rfl rfl (by omega) (by omega)) ?_
          refine Ops.pure rfl (Pure.assign rfl) ?_
          refine Ops.nil ?_
          refine Run.blk ?_
          refine Run.region ?_
          refine Ops.pure rfl (Pure.move rfl) ?_
          refine Ops.pure rfl (Pure.add rfl rfl (by omega) (by omega)) ?_
          refine Ops.pure rfl (Pure.assign rfl) ?_
          refine Ops.nil ?_
          refine Run.asrt ?_
          exact ⟨k + 1, ⟨by omega, by omega⟩, ⟨rfl, rfl, rfl, trivial⟩, Ext.refl _⟩
        · skip
          replace c21 := dF c21
          refine Run.exit rfl ?_
          refine Run.seq ?_
          refine Run.region ?_
          refine Ops.pure rfl (Pure.move rfl) ?_
          refine Ops.pure rfl (Pure.assign rfl) ?_
          refine Ops.pure rfl (Pure.assign rfl) ?_
          refine Ops.nil ?_
          refine Run.ret2 rfl rfl rfl ?_
          have e : k = l.length := by omega
          subst e
          rw [(pn_ok c8 c15).1, (pn_ok c8 c15).2]

set_option maxRecDepth 4000 in
/-- laws.FnExactPanelNumber -/
theorem f_l_FnExactPanelNumber (w : World) (al : Int) (bl : Int) (vl : Value) (l : List Int) (hsl : Rd w vl 1 l.length (ints l)) (hal : l.length ≤ 9223372036854775807) (ha0l : -9223372036854775808 ≤ al) (ha1l : al ≤ 9223372036854775807) (hb0l : -9223372036854775808 ≤ bl) (hb1l : bl ≤ 9223372036854775807) : RetV Try.prog 4 [.agg #[.int .i64 al, .int .i64 bl, vl]] w (.bool true) := by
  refine Ret.enter Try.func4 rfl Try.ntmps4 rfl ?_
  refine Run.seq ?_
  refine Run.region ?_
  refine Ops.go rfl (Loud.box rfl rfl) ?_
  rintro _ _ ⟨b1, rfl, rfl⟩
  refine Ops.pure rfl (Pure.assign rfl) ?_
  refine Ops.nil ?_
  refine Run.seq ?_
  refine Run.region ?_
  refine Ops.pure rfl (Pure.assign rfl) ?_
  refine Ops.nil ?_
  refine Run.seq ?_
  refine Run.region ?_
  refine Ops.pure rfl (Pure.ldBA 0 rfl cell27 rfl rfl rfl) ?_
  refine Ops.pure rfl (Pure.move rfl) ?_
  refine Ops.q rfl (QOp.call fn14 rfl (fun w hw => f_l_szPanel w _ _ _ _ _ (by first | assumption | omega | exact RdL.old (by assumption) w hw | exact RdL.own 0 rfl w hw | exact RdL.own 1 rfl w hw | exact RdL.own 2 rfl w hw | exact RdL.own 3 rfl w hw | exact RdL.own 4 rfl w hw | exact RdL.own 5 rfl w hw | exact RdL.own 6 rfl w hw | exact RdL.own 7 rfl w hw | exact RdL.own 8 rfl w hw | exact RdL.own 9 rfl w hw | exact RdL.boxM 0 rfl rfl w hw | exact RdL.own 10 rfl w hw | exact RdL.own 11 rfl w hw | exact Sat.front 0 rfl hw | exact Sat.front 1 rfl hw | exact Sat.front 2 rfl hw | exact Sat.front 3 rfl hw | exact Sat.front 4 rfl hw | exact Sat.front 5 rfl hw | exact Sat.front 6 rfl hw | exact Sat.front 7 rfl hw | exact Sat.front 8 rfl hw | exact Sat.front 9 rfl hw | exact Sat.front 10 rfl hw | exact Sat.front 11 rfl hw | exact heldRd (RdL.own 0 rfl w hw) | exact heldRd (RdL.own 1 rfl w hw) | exact heldRd (RdL.own 2 rfl w hw) | exact heldRd (RdL.own 3 rfl w hw) | exact heldRd (RdL.own 4 rfl w hw) | exact heldRd (RdL.own 5 rfl w hw) | exact heldRd (RdL.own 6 rfl w hw) | exact heldRd (RdL.own 7 rfl w hw) | exact heldRd (RdL.own 8 rfl w hw) | exact heldRd (RdL.own 9 rfl w hw) | exact heldRd (RdL.own 10 rfl w hw) | exact heldRd (RdL.own 11 rfl w hw) | (rw [length_marks]; omega)) (by first | assumption | omega | exact RdL.old (by assumption) w hw | exact RdL.own 0 rfl w hw | exact RdL.own 1 rfl w hw | exact RdL.own 2 rfl w hw | exact RdL.own 3 rfl w hw | exact RdL.own 4 rfl w hw | exact RdL.own 5 rfl w hw | exact RdL.own 6 rfl w hw | exact RdL.own 7 rfl w hw | exact RdL.own 8 rfl w hw | exact RdL.own 9 rfl w hw | exact RdL.boxM 0 rfl rfl w hw | exact RdL.own 10 rfl w hw | exact RdL.own 11 rfl w hw | exact Sat.front 0 rfl hw | exact Sat.front 1 rfl hw | exact Sat.front 2 rfl hw | exact Sat.front 3 rfl hw | exact Sat.front 4 rfl hw | exact Sat.front 5 rfl hw | exact Sat.front 6 rfl hw | exact Sat.front 7 rfl hw | exact Sat.front 8 rfl hw | exact Sat.front 9 rfl hw | exact Sat.front 10 rfl hw | exact Sat.front 11 rfl hw | exact heldRd (RdL.own 0 rfl w hw) | exact heldRd (RdL.own 1 rfl w hw) | exact heldRd (RdL.own 2 rfl w hw) | exact heldRd (RdL.own 3 rfl w hw) | exact heldRd (RdL.own 4 rfl w hw) | exact heldRd (RdL.own 5 rfl w hw) | exact heldRd (RdL.own 6 rfl w hw) | exact heldRd (RdL.own 7 rfl w hw) | exact heldRd (RdL.own 8 rfl w hw) | exact heldRd (RdL.own 9 rfl w hw) | exact heldRd (RdL.own 10 rfl w hw) | exact heldRd (RdL.own 11 rfl w hw) | (rw [length_marks]; omega)) (by first | assumption | omega | exact RdL.old (by assumption) w hw | exact RdL.own 0 rfl w hw | exact RdL.own 1 rfl w hw | exact RdL.own 2 rfl w hw | exact RdL.own 3 rfl w hw | exact RdL.own 4 rfl w hw | exact RdL.own 5 rfl w hw | exact RdL.own 6 rfl w hw | exact RdL.own 7 rfl w hw | exact RdL.own 8 rfl w hw | exact RdL.own 9 rfl w hw | exact RdL.boxM 0 rfl rfl w hw | exact RdL.own 10 rfl w hw | exact RdL.own 11 rfl w hw | exact Sat.front 0 rfl hw | exact Sat.front 1 rfl hw | exact Sat.front 2 rfl hw | exact Sat.front 3 rfl hw | exact Sat.front 4 rfl hw | exact Sat.front 5 rfl hw | exact Sat.front 6 rfl hw | exact Sat.front 7 rfl hw | exact Sat.front 8 rfl hw | exact Sat.front 9 rfl hw | exact Sat.front 10 rfl hw | exact Sat.front 11 rfl hw | exact heldRd (RdL.own 0 rfl w hw) | exact heldRd (RdL.own 1 rfl w hw) | exact heldRd (RdL.own 2 rfl w hw) | exact heldRd (RdL.own 3 rfl w hw) | exact heldRd (RdL.own 4 rfl w hw) | exact heldRd (RdL.own 5 rfl w hw) | exact heldRd (RdL.own 6 rfl w hw) | exact heldRd (RdL.own 7 rfl w hw) | exact heldRd (RdL.own 8 rfl w hw) | exact heldRd (RdL.own 9 rfl w hw) | exact heldRd (RdL.own 10 rfl w hw) | exact heldRd (RdL.own 11 rfl w hw) | (rw [length_marks]; omega)) (by first | assumption | omega | exact RdL.old (by assumption) w hw | exact RdL.own 0 rfl w hw | exact RdL.own 1 rfl w hw | exact RdL.own 2 rfl w hw | exact RdL.own 3 rfl w hw | exact RdL.own 4 rfl w hw | exact RdL.own 5 rfl w hw | exact RdL.own 6 rfl w hw | exact RdL.own 7 rfl w hw | exact RdL.own 8 rfl w hw | exact RdL.own 9 rfl w hw | exact RdL.boxM 0 rfl rfl w hw | exact RdL.own 10 rfl w hw | exact RdL.own 11 rfl w hw | exact Sat.front 0 rfl hw | exact Sat.front 1 rfl hw | exact Sat.front 2 rfl hw | exact Sat.front 3 rfl hw | exact Sat.front 4 rfl hw | exact Sat.front 5 rfl hw | exact Sat.front 6 rfl hw | exact Sat.front 7 rfl hw | exact Sat.front 8 rfl hw | exact Sat.front 9 rfl hw | exact Sat.front 10 rfl hw | exact Sat.front 11 rfl hw | exact heldRd (RdL.own 0 rfl w hw) | exact heldRd (RdL.own 1 rfl w hw) | exact heldRd (RdL.own 2 rfl w hw) | exact heldRd (RdL.own 3 rfl w hw) | exact heldRd (RdL.own 4 rfl w hw) | exact heldRd (RdL.own 5 rfl w hw) | exact heldRd (RdL.own 6 rfl w hw) | exact heldRd (RdL.own 7 rfl w hw) | exact heldRd (RdL.own 8 rfl w hw) | exact heldRd (RdL.own 9 rfl w hw) | exact heldRd (RdL.own 10 rfl w hw) | exact heldRd (RdL.own 11 rfl w hw) | (rw [length_marks]; omega)))) ?_
  refine Ops.pure rfl (Pure.assign rfl) ?_
  refine Ops.nil ?_
  refine Run.seq ?_
  refine Run.seq ?_
  by_cases hz0 : (l.length : Int) ≤ 1048576
  · skip
    rw [if_pos hz0]
    refine Run.region ?_
    refine Ops.pure rfl (Pure.move rfl) ?_
    refine Ops.pure rfl (Pure.lss rfl rfl) ?_
    refine Ops.nil ?_
    refine Run.condEF rfl (decide_eq_false (by omega)) ?_
    refine Run.skip ?_
    refine Run.seq ?_
    refine Run.region ?_
    refine Ops.pure rfl (Pure.ldBA 0 rfl cell27 rfl rfl rfl) ?_
    refine Ops.go rfl (Loud.callR fn16 rfl (fun w hw => f_l_toPanel w _ _ _ _ (by first | assumption | omega | exact RdL.old (by assumption) w hw | exact RdL.own 0 rfl w hw | exact RdL.own 1 rfl w hw | exact RdL.own 2 rfl w hw | exact RdL.own 3 rfl w hw | exact RdL.own 4 rfl w hw | exact RdL.own 5 rfl w hw | exact RdL.own 6 rfl w hw | exact RdL.own 7 rfl w hw | exact RdL.own 8 rfl w hw | exact RdL.own 9 rfl w hw | exact RdL.boxM 0 rfl rfl w hw | exact RdL.own 10 rfl w hw | exact RdL.own 11 rfl w hw | exact Sat.front 0 rfl hw | exact Sat.front 1 rfl hw | exact Sat.front 2 rfl hw | exact Sat.front 3 rfl hw | exact Sat.front 4 rfl hw | exact Sat.front 5 rfl hw | exact Sat.front 6 rfl hw | exact Sat.front 7 rfl hw | exact Sat.front 8 rfl hw | exact Sat.front 9 rfl hw | exact Sat.front 10 rfl hw | exact Sat.front 11 rfl hw | exact heldRd (RdL.own 0 rfl w hw) | exact heldRd (RdL.own 1 rfl w hw) | exact heldRd (RdL.own 2 rfl w hw) | exact heldRd (RdL.own 3 rfl w hw) | exact heldRd (RdL.own 4 rfl w hw) | exact heldRd (RdL.own 5 rfl w hw) | exact heldRd (RdL.own 6 rfl w hw) | exact heldRd (RdL.own 7 rfl w hw) | exact heldRd (RdL.own 8 rfl w hw) | exact heldRd (RdL.own 9 rfl w hw) | exact heldRd (RdL.own 10 rfl w hw) | exact heldRd (RdL.own 11 rfl w hw) | (rw [length_marks]; omega)) (by first | assumption | omega | exact RdL.old (by assumption) w hw | exact RdL.own 0 rfl w hw | exact RdL.own 1 rfl w hw | exact RdL.own 2 rfl w hw | exact RdL.own 3 rfl w hw | exact RdL.own 4 rfl w hw | exact RdL.own 5 rfl w hw | exact RdL.own 6 rfl w hw | exact RdL.own 7 rfl w hw | exact RdL.own 8 rfl w hw | exact RdL.own 9 rfl w hw | exact RdL.boxM 0 rfl rfl w hw | exact RdL.own 10 rfl w hw | exact RdL.own 11 rfl w hw | exact Sat.front 0 rfl hw | exact Sat.front 1 rfl hw | exact Sat.front 2 rfl hw | exact Sat.front 3 rfl hw | exact Sat.front 4 rfl hw | exact Sat.front 5 rfl hw | exact Sat.front 6 rfl hw | exact Sat.front 7 rfl hw | exact Sat.front 8 rfl hw | exact Sat.front 9 rfl hw | exact Sat.front 10 rfl hw | exact Sat.front 11 rfl hw | exact heldRd (RdL.own 0 rfl w hw) | exact heldRd (RdL.own 1 rfl w hw) | exact heldRd (RdL.own 2 rfl w hw) | exact heldRd (RdL.own 3 rfl w hw) | exact heldRd (RdL.own 4 rfl w hw) | exact heldRd (RdL.own 5 rfl w hw) | exact heldRd (RdL.own 6 rfl w hw) | exact heldRd (RdL.own 7 rfl w hw) | exact heldRd (RdL.own 8 rfl w hw) | exact heldRd (RdL.own 9 rfl w hw) | exact heldRd (RdL.own 10 rfl w hw) | exact heldRd (RdL.own 11 rfl w hw) | (rw [length_marks]; omega)))) ?_
    rintro v16 _ ⟨L16, hQ16, rfl⟩
    obtain ⟨x16, h16, rfl, rfl⟩ := hQ16
    refine Ops.q rfl (QOp.call fn15 rfl (fun w hw => f_s_PanelNumber w _ _ _ _ (by first | assumption | omega | exact RdL.old (by assumption) w hw | exact RdL.own 0 rfl w hw | exact RdL.own 1 rfl w hw | exact RdL.own 2 rfl w hw | exact RdL.own 3 rfl w hw | exact RdL.own 4 rfl w hw | exact RdL.own 5 rfl w hw | exact RdL.own 6 rfl w hw | exact RdL.own 7 rfl w hw | exact RdL.own 8 rfl w hw | exact RdL.own 9 rfl w hw | exact RdL.boxM 0 rfl rfl w hw | exact RdL.own 10 rfl w hw | exact RdL.own 11 rfl w hw | exact Sat.front 0 rfl hw | exact Sat.front 1 rfl hw | exact Sat.front 2 rfl hw | exact Sat.front 3 rfl hw | exact Sat.front 4 rfl hw | exact Sat.front 5 rfl hw | exact Sat.front 6 rfl hw | exact Sat.front 7 rfl hw | exact Sat.front 8 rfl hw | exact Sat.front 9 rfl hw | exact Sat.front 10 rfl hw | exact Sat.front 11 rfl hw | exact heldRd (RdL.own 0 rfl w hw) | exact heldRd (RdL.own 1 rfl w hw) | exact heldRd (RdL.own 2 rfl w hw) | exact heldRd (RdL.own 3 rfl w hw) | exact heldRd (RdL.own 4 rfl w hw) | exact heldRd (RdL.own 5 rfl w hw) | exact heldRd (RdL.own 6 rfl w hw) | exact heldRd (RdL.own 7 rfl w hw) | exact heldRd (RdL.own 8 rfl w hw) | exact heldRd (RdL.own 9 rfl w hw) | exact heldRd (RdL.own 10 rfl w hw) | exact heldRd (RdL.own 11 rfl w hw) | (rw [length_marks]; omega)) (by first | assumption | omega | exact RdL.old (by assumption) w hw | exact RdL.own 0 rfl w hw | exact RdL.own 1 rfl w hw | exact RdL.own 2 rfl w hw | exact RdL.own 3 rfl w hw | exact RdL.own 4 rfl w hw | exact RdL.own 5 rfl w hw | exact RdL.own 6 rfl w hw | exact RdL.own 7 rfl w hw | exact RdL.own 8 rfl w hw | exact RdL.own 9 rfl w hw | exact RdL.boxM 0 rfl rfl w hw | exact RdL.own 10 rfl w hw | exact RdL.own 11 rfl w hw | exact Sat.front 0 rfl hw | exact Sat.front 1 rfl hw | exact Sat.front 2 rfl hw | exact Sat.front 3 rfl hw | exact Sat.front 4 rfl hw | exact Sat.front 5 rfl hw | exact Sat.front 6 rfl hw | exact Sat.front 7 rfl hw | exact Sat.front 8 rfl hw | exact Sat.front 9 rfl hw | exact Sat.front 10 rfl hw | exact Sat.front 11 rfl hw | exact heldRd (RdL.own 0 rfl w hw) | exact heldRd (RdL.own 1 rfl w hw) | exact heldRd (RdL.own 2 rfl w hw) | exact heldRd (RdL.own 3 rfl w hw) | exact heldRd (RdL.own 4 rfl w hw) | exact heldRd (RdL.own 5 rfl w hw) | exact heldRd (RdL.own 6 rfl w hw) | exact heldRd (RdL.own 7 rfl w hw) | exact heldRd (RdL.own 8 rfl w hw) | exact heldRd (RdL.own 9 rfl w hw) | exact heldRd (RdL.own 10 rfl w hw) | exact heldRd (RdL.own 11 rfl w hw) | (rw [length_marks]; omega)) (by first | assumption | omega | exact RdL.old (by assumption) w hw | exact RdL.own 0 rfl w hw | exact RdL.own 1 rfl w hw | exact RdL.own 2 rfl w hw | exact RdL.own 3 rfl w hw | exact RdL.own 4 rfl w hw | exact RdL.own 5 rfl w hw | exact RdL.own 6 rfl w hw | exact RdL.own 7 rfl w hw | exact RdL.own 8 rfl w hw | exact RdL.own 9 rfl w hw | exact RdL.boxM 0 rfl rfl w hw | exact RdL.own 10 rfl w hw | exact RdL.own 11 rfl w hw | exact Sat.front 0 rfl hw | exact Sat.front 1 rfl hw | exact Sat.front 2 rfl hw | exact Sat.front 3 rfl hw | exact Sat.front 4 rfl hw | exact Sat.front 5 rfl hw | exact Sat.front 6 rfl hw | exact Sat.front 7 rfl hw | exact Sat.front 8 rfl hw | exact Sat.front 9 rfl hw | exact Sat.front 10 rfl hw | exact Sat.front 11 rfl hw | exact heldRd (RdL.own 0 rfl w hw) | exact heldRd (RdL.own 1 rfl w hw) | exact heldRd (RdL.own 2 rfl w hw) | exact heldRd (RdL.own 3 rfl w hw) | exact heldRd (RdL.own 4 rfl w hw) | exact heldRd (RdL.own 5 rfl w hw) | exact heldRd (RdL.own 6 rfl w hw) | exact heldRd (RdL.own 7 rfl w hw) | exact heldRd (RdL.own 8 rfl w hw) | exact heldRd (RdL.own 9 rfl w hw) | exact heldRd (RdL.own 10 rfl w hw) | exact heldRd (RdL.own 11 rfl w hw) | (rw [length_marks]; omega)) (by first | assumption | omega | exact RdL.old (by assumption) w hw | exact RdL.own 0 rfl w hw | exact RdL.own 1 rfl w hw | exact RdL.own 2 rfl w hw | exact RdL.own 3 rfl w hw | exact RdL.own 4 rfl w hw | exact RdL.own 5 rfl w hw | exact RdL.own 6 rfl w hw | exact RdL.own 7 rfl w hw | exact RdL.own 8 rfl w hw | exact RdL.own 9 rfl w hw | exact RdL.boxM 0 rfl rfl w hw | exact RdL.own 10 rfl w hw | exact RdL.own 11 rfl w hw | exact Sat.front 0 rfl hw | exact Sat.front 1 rfl hw | exact Sat.front 2 rfl hw | exact Sat.front 3 rfl hw | exact Sat.front 4 rfl hw | exact Sat.front 5 rfl hw | exact Sat.front 6 rfl hw | exact Sat.front 7 rfl hw | exact Sat.front 8 rfl hw | exact Sat.front 9 rfl hw | exact Sat.front 10 rfl hw | exact Sat.front 11 rfl hw | exact heldRd (RdL.own 0 rfl w hw) | exact heldRd (RdL.own 1 rfl w hw) | exact heldRd (RdL.own 2 rfl w hw) | exact heldRd (RdL.own 3 rfl w hw) | exact heldRd (RdL.own 4 rfl w hw) | exact heldRd (RdL.own 5 rfl w hw) | exact heldRd (RdL.own 6 rfl w hw) | exact heldRd (RdL.own 7 rfl w hw) | exact heldRd (RdL.own 8 rfl w hw) | exact heldRd (RdL.own 9 rfl w hw) | exact heldRd (RdL.own 10 rfl w hw) | exact heldRd (RdL.own 11 rfl w hw) | (rw [length_marks]; omega)) (by first | assumption | omega | exact RdL.old (by assumption) w hw | exact RdL.own 0 rfl w hw | exact RdL.own 1 rfl w hw | exact RdL.own 2 rfl w hw | exact RdL.own 3 rfl w hw | exact RdL.own 4 rfl w hw | exact RdL.own 5 rfl w hw | exact RdL.own 6 rfl w hw | exact RdL.own 7 rfl w hw | exact RdL.own 8 rfl w hw | exact RdL.own 9 rfl w hw | exact RdL.boxM 0 rfl rfl w hw | exact RdL.own 10 rfl w hw | exact RdL.own 11 rfl w hw | exact Sat.front 0 rfl hw | exact Sat.front 1 rfl hw | exact Sat.front 2 rfl hw | exact Sat.front 3 rfl hw | exact Sat.front 4 rfl hw | exact Sat.front 5 rfl hw | exact Sat.front 6 rfl hw | exact Sat.front 7 rfl hw | exact Sat.front 8 rfl hw | exact Sat.front 9 rfl hw | exact Sat.front 10 rfl hw | exact Sat.front 11 rfl hw | exact heldRd (RdL.own 0 rfl w hw) | exact heldRd (RdL.own 1 rfl w hw) | exact heldRd (RdL.own 2 rfl w hw) | exact heldRd (RdL.own 3 rfl w hw) | exact heldRd (RdL.own 4 rfl w hw) | exact heldRd (RdL.own 5 rfl w hw) | exact heldRd (RdL.own 6 rfl w hw) | exact heldRd (RdL.own 7 rfl w hw) | exact heldRd (RdL.own 8 rfl w hw) | exact heldRd (RdL.own 9 rfl w hw) | exact heldRd (RdL.own 10 rfl w hw) | exact heldRd (RdL.own 11 rfl w hw) | (rw [length_marks]; omega)) (by first | assumption | omega | exact RdL.old (by assumption) w hw | exact RdL.own 0 rfl w hw | exact RdL.own 1 rfl w hw | exact RdL.own 2 rfl w hw | exact RdL.own 3 rfl w hw | exact RdL.own 4 rfl w hw | exact RdL.own 5 rfl w hw | exact RdL.own 6 rfl w hw | exact RdL.own 7 rfl w hw | exact RdL.own 8 rfl w hw | exact RdL.own 9 rfl w hw | exact RdL.boxM 0 rfl rfl w hw | exact RdL.own 10 rfl w hw | exact RdL.own 11 rfl w hw | exact Sat.front 0 rfl hw | exact Sat.front 1 rfl hw | exact Sat.front 2 rfl hw | exact Sat.front 3 rfl hw | exact Sat.front 4 rfl hw | exact Sat.front 5 rfl hw | exact Sat.front 6 rfl hw | exact Sat.front 7 rfl hw | exact Sat.front 8 rfl hw | exact Sat.front 9 rfl hw | exact Sat.front 10 rfl hw | exact Sat.front 11 rfl hw | exact heldRd (RdL.own 0 rfl w hw) | exact heldRd (RdL.own 1 rfl w hw) | exact heldRd (RdL.own 2 rfl w hw) | exact heldRd (RdL.own 3 rfl w hw) | exact heldRd (RdL.own 4 rfl w hw) | exact heldRd (RdL.own 5 rfl w hw) | exact heldRd (RdL.own 6 rfl w hw) | exact heldRd (RdL.own 7 rfl w hw) | exact heldRd (RdL.own 8 rfl w hw) | exact heldRd (RdL.own 9 rfl w hw) | exact heldRd (RdL.own 10 rfl w hw) | exact heldRd (RdL.own 11 rfl w hw) | (rw [length_marks]; omega)))) ?_
    refine Ops.pure rfl (Pure.move rfl) ?_
    refine Ops.pure rfl (Pure.extract rfl rfl) ?_
    refine Ops.pure rfl (Pure.extract rfl rfl) ?_
    refine Ops.pure rfl (Pure.assign rfl) ?_
    refine Ops.pure rfl (Pure.assign rfl) ?_
    refine Ops.nil ?_
    refine Run.seq ?_
    refine Run.region ?_
    refine Ops.pure rfl (Pure.ldBA 1 rfl cell27 rfl rfl rfl) ?_
    refine Ops.go rfl (Loud.callR fn16 rfl (fun w hw => f_l_toPanel w _ _ _ _ (by first | assumption | omega | exact RdL.old (by assumption) w hw | exact RdL.own 0 rfl w hw | exact RdL.own 1 rfl w hw | exact RdL.own 2 rfl w hw | exact RdL.own 3 rfl w hw | exact RdL.own 4 rfl w hw | exact RdL.own 5 rfl w hw | exact RdL.own 6 rfl w hw | exact RdL.own 7 rfl w hw | exact RdL.own 8 rfl w hw | exact RdL.own 9 rfl w hw | exact RdL.boxM 0 rfl rfl w hw | exact RdL.own 10 rfl w hw | exact RdL.own 11 rfl w hw | exact Sat.front 0 rfl hw | exact Sat.front 1 rfl hw | exact Sat.front 2 rfl hw | exact Sat.front 3 rfl hw | exact Sat.front 4 rfl hw | exact Sat.front 5 rfl hw | exact Sat.front 6 rfl hw | exact Sat.front 7 rfl hw | exact Sat.front 8 rfl hw | exact Sat.front 9 rfl hw | exact Sat.front 10 rfl hw | exact Sat.front 11 rfl hw | exact heldRd (RdL.own 0 rfl w hw) | exact heldRd (RdL.own 1 rfl w hw) | exact heldRd (RdL.own 2 rfl w hw) | exact heldRd (RdL.own 3 rfl w hw) | exact heldRd (RdL.own 4 rfl w hw) | exact heldRd (RdL.own 5 rfl w hw) | exact heldRd (RdL.own 6 rfl w hw) | exact heldRd (RdL.own 7 rfl w hw) | exact heldRd (RdL.own 8 rfl w hw) | exact heldRd (RdL.own 9 rfl w hw) | exact heldRd (RdL.own 10 rfl w hw) | exact heldRd (RdL.own 11 rfl w hw) | (rw [length_marks]; omega)) (by first | assumption | omega | exact RdL.old (by assumption) w hw | exact RdL.own 0 rfl w hw | exact RdL.own 1 rfl w hw | exact RdL.own 2 rfl w hw | exact RdL.own 3 rfl w hw | exact RdL.own 4 rfl w hw | exact RdL.own 5 rfl w hw | exact RdL.own 6 rfl w hw | exact RdL.own 7 rfl w hw | exact RdL.own 8 rfl w hw | exact RdL.own 9 rfl w hw | exact RdL.boxM 0 rfl rfl w hw | exact RdL.own 10 rfl w hw | exact RdL.own 11 rfl w hw | exact Sat.front 0 rfl hw | exact Sat.front 1 rfl hw | exact Sat.front 2 rfl hw | exact Sat.front 3 rfl hw | exact Sat.front 4 rfl hw | exact Sat.front 5 rfl hw | exact Sat.front 6 rfl hw | exact Sat.front 7 rfl hw | exact Sat.front 8 rfl hw | exact Sat.front 9 rfl hw | exact Sat.front 10 rfl hw | exact Sat.front 11 rfl hw | exact heldRd (RdL.own 0 rfl w hw) | exact heldRd (RdL.own 1 rfl w hw) | exact heldRd (RdL.own 2 rfl w hw) | exact heldRd (RdL.own 3 rfl w hw) | exact heldRd (RdL.own 4 rfl w hw) | exact heldRd (RdL.own 5 rfl w hw) | exact heldRd (RdL.own 6 rfl w hw) | exact heldRd (RdL.own 7 rfl w hw) | exact heldRd (RdL.own 8 rfl w hw) | exact heldRd (RdL.own 9 rfl w hw) | exact heldRd (RdL.own 10 rfl w hw) | exact heldRd (RdL.own 11 rfl w hw) | (rw [length_marks]; omega)))) ?_
    rintro v21 _ ⟨L21, hQ21, rfl⟩
    obtain ⟨x21, h21, rfl, rfl⟩ := hQ21
    refine Ops.go rfl (Loud.alloc zero30 rfl) ?_
    rintro _ _ ⟨b6, rfl, rfl⟩
    refine Ops.store (Stores.box 0 rfl rfl rfl size30 (one3 h21) rfl rfl) ?_
    refine Ops.nil ?_
    refine Run.seq ?_
    refine Run.region ?_
    refine Ops.pure rfl (Pure.ldBA 0 rfl cell30 rfl rfl rfl) ?_
    refine Ops.q rfl (QOp.call fn17 rfl (fun w hw => f_i_PanelNumber w _ _ _ _ (by first | assumption | omega | exact RdL.old (by assumption) w hw | exact RdL.own 0 rfl w hw | exact RdL.own 1 rfl w hw | exact RdL.own 2 rfl w hw | exact RdL.own 3 rfl w hw | exact RdL.own 4 rfl w hw | exact RdL.own 5 rfl w hw | exact RdL.own 6 rfl w hw | exact RdL.own 7 rfl w hw | exact RdL.own 8 rfl w hw | exact RdL.own 9 rfl w hw | exact RdL.boxM 0 rfl rfl w hw | exact RdL.own 10 rfl w hw | exact RdL.own 11 rfl w hw | exact Sat.front 0 rfl hw | exact Sat.front 1 rfl hw | exact Sat.front 2 rfl hw | exact Sat.front 3 rfl hw | exact Sat.front 4 rfl hw | exact Sat.front 5 rfl hw | exact Sat.front 6 rfl hw | exact Sat.front 7 rfl hw | exact Sat.front 8 rfl hw | exact Sat.front 9 rfl hw | exact Sat.front 10 rfl hw | exact Sat.front 11 rfl hw | exact heldRd (RdL.own 0 rfl w hw) | exact heldRd (RdL.own 1 rfl w hw) | exact heldRd (RdL.own 2 rfl w hw) | exact heldRd (RdL.own 3 rfl w hw) | exact heldRd (RdL.own 4 rfl w hw) | exact heldRd (RdL.own 5 rfl w hw) | exact heldRd (RdL.own 6 rfl w hw) | exact heldRd (RdL.own 7 rfl w hw) | exact heldRd (RdL.own 8 rfl w hw) | exact heldRd (RdL.own 9 rfl w hw) | exact heldRd (RdL.own 10 rfl w hw) | exact heldRd (RdL.own 11 rfl w hw) | (rw [length_marks]; omega)) (by first | assumption | omega | exact RdL.old (by assumption) w hw | exact RdL.own 0 rfl w hw | exact RdL.own 1 rfl w hw | exact RdL.own 2 rfl w hw | exact RdL.own 3 rfl w hw | exact RdL.own 4 rfl w hw | exact RdL.own 5 rfl w hw | exact RdL.own 6 rfl w hw | exact RdL.own 7 rfl w hw | exact RdL.own 8 rfl w hw | exact RdL.own 9 rfl w hw | exact RdL.boxM 0 rfl rfl w hw | exact RdL.own 10 rfl w hw | exact RdL.own 11 rfl w hw | exact Sat.front 0 rfl hw | exact Sat.front 1 rfl hw | exact Sat.front 2 rfl hw | exact Sat.front 3 rfl hw | exact Sat.front 4 rfl hw | exact Sat.front 5 rfl hw | exact Sat.front 6 rfl hw | exact Sat.front 7 rfl hw | exact Sat.front 8 rfl hw | exact Sat.front 9 rfl hw | exact Sat.front 10 rfl hw | exact Sat.front 11 rfl hw | exact heldRd (RdL.own 0 rfl w hw) | exact heldRd (RdL.own 1 rfl w hw) | exact heldRd (RdL.own 2 rfl w hw) | exact heldRd (RdL.own 3 rfl w hw) | exact heldRd (RdL.own 4 rfl w hw) | exact heldRd (RdL.own 5 rfl w hw) | exact heldRd (RdL.own 6 rfl w hw) | exact heldRd (RdL.own 7 rfl w hw) | exact heldRd (RdL.own 8 rfl w hw) | exact heldRd (RdL.own 9 rfl w hw) | exact heldRd (RdL.own 10 rfl w hw) | exact heldRd (RdL.own 11 rfl w hw) | (rw [length_marks]; omega)) (by first | assumption | omega | exact RdL.old (by assumption) w hw | exact RdL.own 0 rfl w hw | exact RdL.own 1 rfl w hw | exact RdL.own 2 rfl w hw | exact RdL.own 3 rfl w hw | exact RdL.own 4 rfl w hw | exact RdL.own 5 rfl w hw | exact RdL.own 6 rfl w hw | exact RdL.own 7 rfl w hw | exact RdL.own 8 rfl w hw | exact RdL.own 9 rfl w hw | exact RdL.boxM 0 rfl rfl w hw | exact RdL.own 10 rfl w hw | exact RdL.own 11 rfl w hw | exact Sat.front 0 rfl hw | exact Sat.front 1 rfl hw | exact Sat.front 2 rfl hw | exact Sat.front 3 rfl hw | exact Sat.front 4 rfl hw | exact Sat.front 5 rfl hw | exact Sat.front 6 rfl hw | exact Sat.front 7 rfl hw | exact Sat.front 8 rfl hw | exact Sat.front 9 rfl hw | exact Sat.front 10 rfl hw | exact Sat.front 11 rfl hw | exact heldRd (RdL.own 0 rfl w hw) | exact heldRd (RdL.own 1 rfl w hw) | exact heldRd (RdL.own 2 rfl w hw) | exact heldRd (RdL.own 3 rfl w hw) | exact heldRd (RdL.own 4 rfl w hw) | exact heldRd (RdL.own 5 rfl w hw) | exact heldRd (RdL.own 6 rfl w hw) | exact heldRd (RdL.own 7 rfl w hw) | exact heldRd (RdL.own 8 rfl w hw) | exact heldRd (RdL.own 9 rfl w hw) | exact heldRd (RdL.own 10 rfl w hw) | exact heldRd (RdL.own 11 rfl w hw) | (rw [length_marks]; omega)) (by first | assumption | omega | exact RdL.old (by assumption) w hw | exact RdL.own 0 rfl w hw | exact RdL.own 1 rfl w hw | exact RdL.own 2 rfl w hw | exact RdL.own 3 rfl w hw | exact RdL.own 4 rfl w hw | exact RdL.own 5 rfl w hw | exact RdL.own 6 rfl w hw | exact RdL.own 7 rfl w hw | exact RdL.own 8 rfl w hw | exact RdL.own 9 rfl w hw | exact RdL.boxM 0 rfl rfl w hw | exact RdL.own 10 rfl w hw | exact RdL.own 11 rfl w hw | exact Sat.front 0 rfl hw | exact Sat.front 1 rfl hw | exact Sat.front 2 rfl hw | exact Sat.front 3 rfl hw | exact Sat.front 4 rfl hw | exact Sat.front 5 rfl hw | exact Sat.front 6 rfl hw | exact Sat.front 7 rfl hw | exact Sat.front 8 rfl hw | exact Sat.front 9 rfl hw | exact Sat.front 10 rfl hw | exact Sat.front 11 rfl hw | exact heldRd (RdL.own 0 rfl w hw) | exact heldRd (RdL.own 1 rfl w hw) | exact heldRd (RdL.own 2 rfl w hw) | exact heldRd (RdL.own 3 rfl w hw) | exact heldRd (RdL.own 4 rfl w hw) | exact heldRd (RdL.own 5 rfl w hw) | exact heldRd (RdL.own 6 rfl w hw) | exact heldRd (RdL.own 7 rfl w hw) | exact heldRd (RdL.own 8 rfl w hw) | exact heldRd (RdL.own 9 rfl w hw) | exact heldRd (RdL.own 10 rfl w hw) | exact heldRd (RdL.own 11 rfl w hw) | (rw [length_marks]; omega)) (by first | assumption | omega | exact RdL.old (by assumption) w hw | exact RdL.own 0 rfl w hw | exact RdL.own 1 rfl w hw | exact RdL.own 2 rfl w hw | exact RdL.own 3 rfl w hw | exact RdL.own 4 rfl w hw | exact RdL.own 5 rfl w hw | exact RdL.own 6 rfl w hw | exact RdL.own 7 rfl w hw | exact RdL.own 8 rfl w hw | exact RdL.own 9 rfl w hw | exact RdL.boxM 0 rfl rfl w hw | exact RdL.own 10 rfl w hw | exact RdL.own 11 rfl w hw | exact Sat.front 0 rfl hw | exact Sat.front 1 rfl hw | exact Sat.front 2 rfl hw | exact Sat.front 3 rfl hw | exact Sat.front 4 rfl hw | exact Sat.front 5 rfl hw | exact Sat.front 6 rfl hw | exact Sat.front 7 rfl hw | exact Sat.front 8 rfl hw | exact Sat.front 9 rfl hw | exact Sat.front 10 rfl hw | exact Sat.front 11 rfl hw | exact heldRd (RdL.own 0 rfl w hw) | exact heldRd (RdL.own 1 rfl w hw) | exact heldRd (RdL.own 2 rfl w hw) | exact heldRd (RdL.own 3 rfl w hw) | exact heldRd (RdL.own 4 rfl w hw) | exact heldRd (RdL.own 5 rfl w hw) | exact heldRd (RdL.own 6 rfl w hw) | exact heldRd (RdL.own 7 rfl w hw) | exact heldRd (RdL.own 8 rfl w hw) | exact heldRd (RdL.own 9 rfl w hw) | exact heldRd (RdL.own 10 rfl w hw) | exact heldRd (RdL.own 11 rfl w hw) | (rw [length_marks]; omega)) (by first | assumption | omega | exact RdL.old (by assumption) w hw | exact RdL.own 0 rfl w hw | exact RdL.own 1 rfl w hw | exact RdL.own 2 rfl w hw | exact RdL.own 3 rfl w hw | exact RdL.own 4 rfl w hw | exact RdL.own 5 rfl w hw | exact RdL.own 6 rfl w hw | exact RdL.own 7 rfl w hw | exact RdL.own 8 rfl w hw | exact RdL.own 9 rfl w hw | exact RdL.boxM 0 rfl rfl w hw | exact RdL.own 10 rfl w hw | exact RdL.own 11 rfl w hw | exact Sat.front 0 rfl hw | exact Sat.front 1 rfl hw | exact Sat.front 2 rfl hw | exact Sat.front 3 rfl hw | exact Sat.front 4 rfl hw | exact Sat.front 5 rfl hw | exact Sat.front 6 rfl hw | exact Sat.front 7 rfl hw | exact Sat.front 8 rfl hw | exact Sat.front 9 rfl hw | exact Sat.front 10 rfl hw | exact Sat.front 11 rfl hw | exact heldRd (RdL.own 0 rfl w hw) | exact heldRd (RdL.own 1 rfl w hw) | exact heldRd (RdL.own 2 rfl w hw) | exact heldRd (RdL.own 3 rfl w hw) | exact heldRd (RdL.own 4 rfl w hw) | exact heldRd (RdL.own 5 rfl w hw) | exact heldRd (RdL.own 6 rfl w hw) | exact heldRd (RdL.own 7 rfl w hw) | exact heldRd (RdL.own 8 rfl w hw) | exact heldRd (RdL.own 9 rfl w hw) | exact heldRd (RdL.own 10 rfl w hw) | exact heldRd (RdL.own 11 rfl w hw) | (rw [length_marks]; omega)))) ?_
    refine Ops.pure rfl (Pure.move rfl) ?_
    refine Ops.pure rfl (Pure.extract rfl rfl) ?_
    refine Ops.pure rfl (Pure.extract rfl rfl) ?_
    refine Ops.pure rfl (Pure.assign rfl) ?_
    refine Ops.pure rfl (Pure.assign rfl) ?_
    refine Ops.nil ?_
    refine Run.seq ?_
    refine Run.seq ?_
    refine Run.region ?_
    refine Ops.pure rfl (Pure.move rfl) ?_
    refine Ops.pure rfl (Pure.move rfl) ?_
    refine Ops.pure rfl (Pure.neq rfl rfl) ?_
    refine Ops.pure rfl (Pure.move rfl) ?_
    refine Ops.guardY rfl rfl rfl (by simp) ?_
    refine Ops.pure rfl (Pure.move rfl) ?_
    refine Ops.guardY rfl rfl rfl (by simp) ?_
    refine Ops.pure rfl (Pure.move rfl) ?_
    refine Ops.guardY rfl rfl rfl (by simp) ?_
    refine Ops.pure rfl (Pure.neq rfl rfl) ?_
    refine Ops.pure rfl (Pure.pickF rfl (by simp) rfl) ?_
    refine Ops.nil ?_
    refine Run.condEF rfl (by simp) ?_
    refine Run.skip ?_
    refine Run.seq ?_
    refine Run.seq ?_
    refine Any.start follows ?_
    refine Any.take 0 rfl (by kernel_rfl) rfl (QOp.pure (Pure.ldBA 0 rfl cell30 rfl rfl rfl)) ?_
    refine Any.take 1 rfl (by kernel_rfl) rfl (QOp.pure (Pure.ldBA 3 rfl cell27 rfl rfl rfl)) ?_
    refine Any.one 2 (by kernel_rfl) ?_
    refine OneL.loud rfl rfl (Loud.callR fn16 rfl (fun w hw => f_l_toPanel w _ _ _ _ (by first | assumption | omega | exact RdL.old (by assumption) w hw | exact RdL.own 0 rfl w hw | exact RdL.own 1 rfl w hw | exact RdL.own 2 rfl w hw | exact RdL.own 3 rfl w hw | exact RdL.own 4 rfl w hw | exact RdL.own 5 rfl w hw | exact RdL.own 6 rfl w hw | exact RdL.own 7 rfl w hw | exact RdL.own 8 rfl w hw | exact RdL.own 9 rfl w hw | exact RdL.boxM 0 rfl rfl w hw | exact RdL.own 10 rfl w hw | exact RdL.own 11 rfl w hw | exact Sat.front 0 rfl hw | exact Sat.front 1 rfl hw | exact Sat.front 2 rfl hw | exact Sat.front 3 rfl hw | exact Sat.front 4 rfl hw | exact Sat.front 5 rfl hw | exact Sat.front 6 rfl hw | exact Sat.front 7 rfl hw | exact Sat.front 8 rfl hw | exact Sat.front 9 rfl hw | exact Sat.front 10 rfl hw | exact Sat.front 11 rfl hw | exact heldRd (RdL.own 0 rfl w hw) | exact heldRd (RdL.own 1 rfl w hw) | exact heldRd (RdL.own 2 rfl w hw) | exact heldRd (RdL.own 3 rfl w hw) | exact heldRd (RdL.own 4 rfl w hw) | exact heldRd (RdL.own 5 rfl w hw) | exact heldRd (RdL.own 6 rfl w hw) | exact heldRd (RdL.own 7 rfl w hw) | exact heldRd (RdL.own 8 rfl w hw) | exact heldRd (RdL.own 9 rfl w hw) | exact heldRd (RdL.own 10 rfl w hw) | exact heldRd (RdL.own 11 rfl w hw) | (rw [length_marks]; omega)) (by first | assumption | omega | exact RdL.old (by assumption) w hw | exact RdL.own 0 rfl w hw | exact RdL.own 1 rfl w hw | exact RdL.own 2 rfl w hw | exact RdL.own 3 rfl w hw | exact RdL.own 4 rfl w hw | exact RdL.own 5 rfl w hw | exact RdL.own 6 rfl w hw | exact RdL.own 7 rfl w hw | exact RdL.own 8 rfl w hw | exact RdL.own 9 rfl w hw | exact RdL.boxM 0 rfl rfl w hw | exact RdL.own 10 rfl w hw | exact RdL.own 11 rfl w hw | exact Sat.front 0 rfl hw | exact Sat.front 1 rfl hw | exact Sat.front 2 rfl hw | exact Sat.front 3 rfl hw | exact Sat.front 4 rfl hw | exact Sat.front 5 rfl hw | exact Sat.front 6 rfl hw | exact Sat.front 7 rfl hw | exact Sat.front 8 rfl hw | exact Sat.front 9 rfl hw | exact Sat.front 10 rfl hw | exact Sat.front 11 rfl hw | exact heldRd (RdL.own 0 rfl w hw) | exact heldRd (RdL.own 1 rfl w hw) | exact heldRd (RdL.own 2 rfl w hw) | exact heldRd (RdL.own 3 rfl w hw) | exact heldRd (RdL.own 4 rfl w hw) | exact heldRd (RdL.own 5 rfl w hw) | exact heldRd (RdL.own 6 rfl w hw) | exact heldRd (RdL.own 7 rfl w hw) | exact heldRd (RdL.own 8 rfl w hw) | exact heldRd (RdL.own 9 rfl w hw) | exact heldRd (RdL.own 10 rfl w hw) | exact heldRd (RdL.own 11 rfl w hw) | (rw [length_marks]; omega)))) ?_
    rintro v37 _ ⟨L37, hQ37, rfl⟩
    obtain ⟨x37, h37, rfl, rfl⟩ := hQ37
    refine ⟨.inr (by first | exact Ext.right _ _ | exact Ext.right [_] _ | exact Ext.refl _), ?_⟩
    refine Any.take 3 rfl (by kernel_rfl) rfl (QOp.call fn18 rfl (fun w hw => f_l_eqPanel w _ _ _ _ _ _ _ _ (by first | assumption | omega | exact RdL.old (by assumption) w hw | exact RdL.own 0 rfl w hw | exact RdL.own 1 rfl w hw | exact RdL.own 2 rfl w hw | exact RdL.own 3 rfl w hw | exact RdL.own 4 rfl w hw | exact RdL.own 5 rfl w hw | exact RdL.own 6 rfl w hw | exact RdL.own 7 rfl w hw | exact RdL.own 8 rfl w hw | exact RdL.own 9 rfl w hw | exact RdL.boxM 0 rfl rfl w hw | exact RdL.own 10 rfl w hw | exact RdL.own 11 rfl w hw | exact Sat.front 0 rfl hw | exact Sat.front 1 rfl hw | exact Sat.front 2 rfl hw | exact Sat.front 3 rfl hw | exact Sat.front 4 rfl hw | exact Sat.front 5 rfl hw | exact Sat.front 6 rfl hw | exact Sat.front 7 rfl hw | exact Sat.front 8 rfl hw | exact Sat.front 9 rfl hw | exact Sat.front 10 rfl hw | exact Sat.front 11 rfl hw | exact heldRd (RdL.own 0 rfl w hw) | exact heldRd (RdL.own 1 rfl w hw) | exact heldRd (RdL.own 2 rfl w hw) | exact heldRd (RdL.own 3 rfl w hw) | exact heldRd (RdL.own 4 rfl w hw) | exact heldRd (RdL.own 5 rfl w hw) | exact heldRd (RdL.own 6 rfl w hw) | exact heldRd (RdL.own 7 rfl w hw) | exact heldRd (RdL.own 8 rfl w hw) | exact heldRd (RdL.own 9 rfl w hw) | exact heldRd (RdL.own 10 rfl w hw) | exact heldRd (RdL.own 11 rfl w hw) | (rw [length_marks]; omega)) (by first | assumption | omega | exact RdL.old (by assumption) w hw | exact RdL.own 0 rfl w hw | exact RdL.own 1 rfl w hw | exact RdL.own 2 rfl w hw | exact RdL.own 3 rfl w hw | exact RdL.own 4 rfl w hw | exact RdL.own 5 rfl w hw | exact RdL.own 6 rfl w hw | exact RdL.own 7 rfl w hw | exact RdL.own 8 rfl w hw | exact RdL.own 9 rfl w hw | exact RdL.boxM 0 rfl rfl w hw | exact RdL.own 10 rfl w hw | exact RdL.own 11 rfl w hw | exact Sat.front 0 rfl hw | exact Sat.front 1 rfl hw | exact Sat.front 2 rfl hw | exact Sat.front 3 rfl hw | exact Sat.front 4 rfl hw | exact Sat.front 5 rfl hw | exact Sat.front 6 rfl hw | exact Sat.front 7 rfl hw | exact Sat.front 8 rfl hw | exact Sat.front 9 rfl hw | exact Sat.front 10 rfl hw | exact Sat.front 11 rfl hw | exact heldRd (RdL.own 0 rfl w hw) | exact heldRd (RdL.own 1 rfl w hw) | exact heldRd (RdL.own 2 rfl w hw) | exact heldRd (RdL.own 3 rfl w hw) | exact heldRd (RdL.own 4 rfl w hw) | exact heldRd (RdL.own 5 rfl w hw) | exact heldRd (RdL.own 6 rfl w hw) | exact heldRd (RdL.own 7 rfl w hw) | exact heldRd (RdL.own 8 rfl w hw) | exact heldRd (RdL.own 9 rfl w hw) | exact heldRd (RdL.own 10 rfl w hw) | exact heldRd (RdL.own 11 rfl w hw) | (rw [length_marks]; omega)) (by first | assumption | omega | exact RdL.old (by assumption) w hw | exact RdL.own 0 rfl w hw | exact RdL.own 1 rfl w hw | exact RdL.own 2 rfl w hw | exact RdL.own 3 rfl w hw | exact RdL.own 4 rfl w hw | exact RdL.own 5 rfl w hw | exact RdL.own 6 rfl w hw | exact RdL.own 7 rfl w hw | exact RdL.own 8 rfl w hw | exact RdL.own 9 rfl w hw | exact RdL.boxM 0 rfl rfl w hw | exact RdL.own 10 rfl w hw | exact RdL.own 11 rfl w hw | exact Sat.front 0 rfl hw | exact Sat.front 1 rfl hw | exact Sat.front 2 rfl hw | exact Sat.front 3 rfl hw | exact Sat.front 4 rfl hw | exact Sat.front 5 rfl hw | exact Sat.front 6 rfl hw | exact Sat.front 7 rfl hw | exact Sat.front 8 rfl hw | exact Sat.front 9 rfl hw | exact Sat.front 10 rfl hw | exact Sat.front 11 rfl hw | exact heldRd (RdL.own 0 rfl w hw) | exact heldRd (RdL.own 1 rfl w hw) | exact heldRd (RdL.own 2 rfl w hw) | exact heldRd (RdL.own 3 rfl w hw) | exact heldRd (RdL.own 4 rfl w hw) | exact heldRd (RdL.own 5 rfl w hw) | exact heldRd (RdL.own 6 rfl w hw) | exact heldRd (RdL.own 7 rfl w hw) | exact heldRd (RdL.own 8 rfl w hw) | exact heldRd (RdL.own 9 rfl w hw) | exact heldRd (RdL.own 10 rfl w hw) | exact heldRd (RdL.own 11 rfl w hw) | (rw [length_marks]; omega)) (by first | assumption | omega | exact RdL.old (by assumption) w hw | exact RdL.own 0 rfl w hw | exact RdL.own 1 rfl w hw | exact RdL.own 2 rfl w hw | exact RdL.own 3 rfl w hw | exact RdL.own 4 rfl w hw | exact RdL.own 5 rfl w hw | exact RdL.own 6 rfl w hw | exact RdL.own 7 rfl w hw | exact RdL.own 8 rfl w hw | exact RdL.own 9 rfl w hw | exact RdL.boxM 0 rfl rfl w hw | exact RdL.own 10 rfl w hw | exact RdL.own 11 rfl w hw | exact Sat.front 0 rfl hw | exact Sat.front 1 rfl hw | exact Sat.front 2 rfl hw | exact Sat.front 3 rfl hw | exact Sat.front 4 rfl hw | exact Sat.front 5 rfl hw | exact Sat.front 6 rfl hw | exact Sat.front 7 rfl hw | exact Sat.front 8 rfl hw | exact Sat.front 9 rfl hw | exact Sat.front 10 rfl hw | exact Sat.front 11 rfl hw | exact heldRd (RdL.own 0 rfl w hw) | exact heldRd (RdL.own 1 rfl w hw) | exact heldRd (RdL.own 2 rfl w hw) | exact heldRd (RdL.own 3 rfl w hw) | exact heldRd (RdL.own 4 rfl w hw) | exact heldRd (RdL.own 5 rfl w hw) | exact heldRd (RdL.own 6 rfl w hw) | exact heldRd (RdL.own 7 rfl w hw) | exact heldRd (RdL.own 8 rfl w hw) | exact heldRd (RdL.own 9 rfl w hw) | exact heldRd (RdL.own 10 rfl w hw) | exact heldRd (RdL.own 11 rfl w hw) | (rw [length_marks]; omega)))) ?_
    refine Any.take 4 rfl (by kernel_rfl) rfl (QOp.pure (Pure.not rfl)) ?_
    refine Any.done (by kernel_rfl) ?_
    refine Run.condEF rfl (by simp) ?_
    refine Run.skip ?_
    refine Run.seq ?_
    refine Run.region ?_
    refine Ops.pure rfl (Pure.assign rfl) ?_
    refine Ops.nil ?_
    refine Run.ret1 rfl rfl ?_
    rfl
  · skip
    rw [if_neg hz0]
    refine Run.region ?_
    refine Ops.pure rfl (Pure.move rfl) ?_
    refine Ops.pure rfl (Pure.lss rfl rfl) ?_
    refine Ops.nil ?_
    refine Run.condE rfl (decide_eq_true (by omega)) ?_
    refine Run.seq ?_
    refine Run.region ?_
    refine Ops.pure rfl (Pure.assign rfl) ?_
    refine Ops.nil ?_
    refine Run.ret1 rfl rfl ?_
    rfl

end Go.Proofs.Ythomfbmgiokdbaa
