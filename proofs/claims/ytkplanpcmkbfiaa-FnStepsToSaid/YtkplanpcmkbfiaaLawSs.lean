/- Contracts of functions, printed by program from annotations. -/
import Derived.Test.YtkplanpcmkbfiaaStpL
namespace Go.Proofs.Ytkplanpcmkbfiaa
open Go Go.AW Go.RowKit
set_option linter.unusedVariables false
set_option linter.unusedSimpArgs false

theorem stV_ok {a b c : Int} {l : List Int} (h : stE a b l c = 0) (x : Int) : stV a b l c x = x := by unfold stV; rw [if_pos h]
theorem fi_zero {a b c : Int} {l : List Int} (h : fiE a b l c = 0) : okP a b l = true ∧ ¬ fcA a b l c < 0 ∧ (∀ x, fiV a b l c x = x) ∧ PtOk a b (ptX a (fcA a b l c)) (ptY a (fcA a b l c)) ∧ ¬ Edge a b (ptX a (fcA a b l c)) (ptY a (fcA a b l c)) ∧ num a (ptX a (fcA a b l c)) (ptY a (fcA a b l c)) = fcA a b l c ∧ 0 ≤ fcK a b l c ∧ fcK a b l c ≤ 2 ∧ okP a b (nxL a b l c) = true := by
  have hg : gcE a b l c = 0 := by
    unfold fiE at h
    split at h
    · assumption
    · exact h
  have hn : ¬ fcA a b l c < 0 := fun hn => by rw [(fi_no hg hn).1] at h; omega
  obtain ⟨g1, g2, g3, g4, g5⟩ := fc_yes hn
  have hk := (gc_zero hg).1
  have hli := okP_inn hk
  obtain ⟨p1, p2, p3⟩ := pt_spec (okP_size hk) g1 (by omega)
  exact ⟨hk, hn, (fi_ok hg hn).2, p1, p2, p3, g3, g4, okP_set hk _ g3 g4⟩

set_option maxRecDepth 4000 in
/-- laws.FnStepsTo -/
theorem f_l_FnStepsTo (w : World) (vc : Value) (co : List Int) (hc : Rd w vc 1 co.length (AW.bytes co)) (hcl : co.length ≤ 9223372036854775807) (hb : ∀ x ∈ co, 0 ≤ x ∧ x ≤ 255) : RetV Try.prog 11 [vc] w (.bool true) := by
  refine Ret.enter Try.func11 rfl Try.ntmps11 rfl ?_
  refine Run.seq ?_
  refine Run.region ?_
  refine Ops.pure rfl (Pure.assign rfl) ?_
  refine Ops.nil ?_
  refine Run.seq ?_
  refine Run.seq ?_
  refine Run.region ?_
  refine Ops.pure rfl (Pure.move rfl) ?_
  refine Ops.q rfl (QOp.call fn50 rfl (fun w hw => f_l_f6big w vc _ _ (RdL.old hc w hw))) ?_
  refine Ops.nil ?_
  refine Run.cond rfl (fun c33 => ?_) (fun c33 => ?_)
  · skip
    replace c33 := dT c33
    refine Run.seq ?_
    refine Run.region ?_
    refine Ops.pure rfl (Pure.assign rfl) ?_
    refine Ops.nil ?_
    refine Run.ret1 rfl rfl ?_
    rfl
  · skip
    replace c33 := dF c33
    have hcl2 : co.length ≤ 1000000000 := by omega
    refine Run.skip ?_
    refine Run.seq ?_
    refine Run.region ?_
    refine Ops.pure rfl (Pure.move rfl) ?_
    refine Ops.go rfl (Loud.callR fn51 rfl (fun w hw => f_s_DrawStepsTo w vc co (RdL.old hc w hw) hb hcl2)) ?_
    rintro v36 _ ⟨L36, hQ36, rfl⟩
    obtain ⟨a36, c36, l36, x36, y36, ha36, hA36, hc36, hC36, hn36, h36, hy36, hY36, rfl, rfl⟩ := hQ36
    have hsz := stL_size a36 c36 l36 y36
    refine Ops.pure rfl (Pure.move rfl) ?_
    refine Ops.pure rfl (Pure.extract rfl rfl) ?_
    refine Ops.pure rfl (Pure.extract rfl rfl) ?_
    refine Ops.go rfl (Loud.alloc zero28 rfl) ?_
    rintro _ _ ⟨b3, rfl, rfl⟩
    refine Ops.store (Stores.box 0 rfl rfl rfl size28 (one3 h36) rfl rfl) ?_
    refine Ops.pure rfl (Pure.assign rfl) ?_
    refine Ops.nil ?_
    refine Run.seq ?_
    refine Run.region ?_
    refine Ops.pure rfl (Pure.ldBA 0 rfl cell28 rfl rfl rfl) ?_
    refine Ops.pure rfl (Pure.move rfl) ?_
    refine Ops.go rfl (Loud.callR fn52 rfl (fun w hw => f_i_StepsTo w _ _ _ _ _ (by exact RdL.own 1 rfl w hw) (by omega) (by omega) (by omega) (by omega) (by omega))) ?_
    rintro v42 _ ⟨L42, hQ42, rfl⟩
    obtain ⟨x42, h42, rfl, rfl⟩ := hQ42
    refine Ops.pure rfl (Pure.move rfl) ?_
    refine Ops.pure rfl (Pure.extract rfl rfl) ?_
    refine Ops.pure rfl (Pure.extract rfl rfl) ?_
    refine Ops.pure rfl (Pure.extract rfl rfl) ?_
    refine Ops.go rfl (Loud.alloc zero28 rfl) ?_
    rintro _ _ ⟨b5, rfl, rfl⟩
    refine Ops.store (Stores.box 0 rfl rfl rfl size28 (one3 h42) rfl rfl) ?_
    refine Ops.pure rfl (Pure.assign rfl) ?_
    refine Ops.pure rfl (Pure.assign rfl) ?_
    refine Ops.nil ?_
    refine Run.seq ?_
    refine Run.region ?_
    refine Ops.pure rfl (Pure.ldBA 2 rfl cell28 rfl rfl rfl) ?_
    refine Ops.pure rfl (Pure.move rfl) ?_
    refine Ops.go rfl (Loud.callR fn53 rfl (fun w hw => f_s_StepsTo w _ _ _ _ _ (by exact RdL.own 3 rfl w hw) (by omega) (by omega) (by omega) (by omega) (by omega))) ?_
    rintro v49 _ ⟨L49, hQ49, rfl⟩
    obtain ⟨x49, h49, rfl, rfl⟩ := hQ49
    refine Ops.pure rfl (Pure.move rfl) ?_
    refine Ops.pure rfl (Pure.extract rfl rfl) ?_
    refine Ops.pure rfl (Pure.extract rfl rfl) ?_
    refine Ops.pure rfl (Pure.extract rfl rfl) ?_
    refine Ops.go rfl (Loud.alloc zero28 rfl) ?_
    rintro _ _ ⟨b8, rfl, rfl⟩
    refine Ops.store (Stores.box 0 rfl rfl rfl size28 (one3 h49) rfl rfl) ?_
    refine Ops.pure rfl (Pure.assign rfl) ?_
    refine Ops.pure rfl (Pure.assign rfl) ?_
    refine Ops.nil ?_
    refine Run.seq ?_
    refine Run.region ?_
    refine Ops.pure rfl (Pure.move rfl) ?_
    refine Ops.go rfl (Loud.callR fn54 rfl (fun w hw => f_s_DrawFirstChange w vc co (RdL.old hc w hw) hb hcl2)) ?_
    rintro v55 _ ⟨L55, hQ55, rfl⟩
    obtain ⟨a55, c55, l55, x55, y55, ha55, hA55, hc55, hC55, hn55, h55, hy55, hY55, rfl, rfl⟩ := hQ55
    refine Ops.pure rfl (Pure.move rfl) ?_
    refine Ops.pure rfl (Pure.extract rfl rfl) ?_
    refine Ops.pure rfl (Pure.extract rfl rfl) ?_
    refine Ops.go rfl (Loud.alloc zero28 rfl) ?_
    rintro _ _ ⟨b11, rfl, rfl⟩
    refine Ops.store (Stores.box 0 rfl rfl rfl size28 (one3 h55) rfl rfl) ?_
    refine Ops.pure rfl (Pure.assign rfl) ?_
    refine Ops.nil ?_
    refine Run.seq ?_
    refine Run.region ?_
    refine Ops.pure rfl (Pure.ldBA 0 rfl cell28 rfl rfl rfl) ?_
    refine Ops.pure rfl (Pure.move rfl) ?_
    refine Ops.q rfl (QOp.call fn55 rfl (fun w hw => f_i_FirstChange w _ _ _ _ _ (by exact RdL.own 1 rfl w hw) (by omega) (by omega) (by omega) (by omega) (by omega))) ?_
    refine Ops.pure rfl (Pure.move rfl) ?_
    refine Ops.pure rfl (Pure.extract rfl rfl) ?_
    refine Ops.pure rfl (Pure.extract rfl rfl) ?_
    refine Ops.pure rfl (Pure.extract rfl rfl) ?_
    refine Ops.go rfl (Loud.alloc zero55 rfl) ?_
    rintro _ _ ⟨b13, rfl, rfl⟩
    refine Ops.store (Stores.box 0 rfl rfl rfl size55 (allOne rfl) rfl rfl) ?_
    refine Ops.pure rfl (Pure.assign rfl) ?_
    refine Ops.pure rfl (Pure.assign rfl) ?_
    refine Ops.nil ?_
    refine Run.seq ?_
    refine Run.region ?_
    refine Ops.pure rfl (Pure.ldBA 1 rfl cell28 rfl rfl rfl) ?_
    refine Ops.pure rfl (Pure.move rfl) ?_
    refine Ops.q rfl (QOp.call fn56 rfl (fun w hw => f_s_FirstChange w _ _ _ _ _ (by exact RdL.own 2 rfl w hw) (by omega) (by omega) (by omega) (by omega) (by omega))) ?_
    refine Ops.pure rfl (Pure.move rfl) ?_
    refine Ops.pure rfl (Pure.extract rfl rfl) ?_
    refine Ops.pure rfl (Pure.extract rfl rfl) ?_
    refine Ops.pure rfl (Pure.extract rfl rfl) ?_
    refine Ops.go rfl (Loud.alloc zero55 rfl) ?_
    rintro _ _ ⟨b16, rfl, rfl⟩
    refine Ops.store (Stores.box 0 rfl rfl rfl size55 (allOne rfl) rfl rfl) ?_
    refine Ops.pure rfl (Pure.assign rfl) ?_
    refine Ops.pure rfl (Pure.assign rfl) ?_
    refine Ops.nil ?_
    refine Run.seq ?_
    refine Run.seq ?_
    refine Run.region ?_
    refine Ops.pure rfl (Pure.move rfl) ?_
    refine Ops.pure rfl (Pure.move rfl) ?_
    refine Ops.pure rfl (Pure.neq rfl rfl) ?_
    refine Ops.pure rfl (Pure.move rfl) ?_
    refine Ops.guardY rfl rfl rfl (by simp) ?_
    refine Ops.pure rfl (Pure.move rfl) ?_
    refine Ops.guardY rfl rfl rfl (by simp) ?_
    refine Ops.pure rfl (Pure.move rfl) ?_
    refine Ops.guardY rfl rfl rfl (by simp) ?_
    refine Ops.pure rfl (Pure.neq rfl rfl) ?_
    refine Ops.pure rfl (Pure.pickF rfl (by simp) rfl) ?_
    refine Ops.pure rfl (Pure.move rfl) ?_
    refine Ops.guardY rfl rfl rfl (by simp) ?_
    refine Ops.pure rfl (Pure.ldBA 6 rfl cell28 rfl rfl rfl) ?_
    refine Ops.guardY rfl rfl rfl (by simp) ?_
    refine Ops.pure rfl (Pure.ldBA 4 rfl cell28 rfl rfl rfl) ?_
    refine Ops.guardY rfl rfl rfl (by simp) ?_
    refine Ops.q rfl (QOp.call fn49 rfl (fun w hw => f_s_SamePanel w _ _ _ _ _ _ _ _ (by exact RdL.own 7 rfl w hw) (by exact RdL.own 5 rfl w hw) (by omega) (by omega))) ?_
    refine Ops.guardY rfl rfl rfl (by simp) ?_
    refine Ops.pure rfl (Pure.not rfl) ?_
    refine Ops.pure rfl (Pure.pickF rfl (by simp) rfl) ?_
    refine Ops.pure rfl (Pure.move rfl) ?_
    refine Ops.guardY rfl rfl rfl (by simp) ?_
    refine Ops.pure rfl (Pure.move rfl) ?_
    refine Ops.guardY rfl rfl rfl (by simp) ?_
    refine Ops.pure rfl (Pure.move rfl) ?_
    refine Ops.guardY rfl rfl rfl (by simp) ?_
    refine Ops.pure rfl (Pure.neq rfl rfl) ?_
    refine Ops.pure rfl (Pure.pickF rfl (by simp) rfl) ?_
    refine Ops.pure rfl (Pure.move rfl) ?_
    refine Ops.guardY rfl rfl rfl (by simp) ?_
    refine Ops.pure rfl (Pure.ldBA 1 rfl cell55 rfl rfl rfl) ?_
    refine Ops.guardY rfl rfl rfl (by simp) ?_
    refine Ops.pure rfl (Pure.ldBA 0 rfl cell55 rfl rfl rfl) ?_
    refine Ops.guardY rfl rfl rfl (by simp) ?_
    refine Ops.pure rfl (Pure.neq2 eqs55 rfl rfl) ?_
    refine Ops.pure rfl (Pure.pickF rfl (by simp) rfl) ?_
    refine Ops.pure rfl (Pure.move rfl) ?_
    refine Ops.guardY rfl rfl rfl (by simp) ?_
    refine Ops.pure rfl (Pure.move rfl) ?_
    refine Ops.guardY rfl rfl rfl (by simp) ?_
    refine Ops.pure rfl (Pure.move rfl) ?_
    refine Ops.guardY rfl rfl rfl (by simp) ?_
    refine Ops.pure rfl (Pure.neq rfl rfl) ?_
    refine Ops.pure rfl (Pure.pickF rfl (by simp) rfl) ?_
    refine Ops.nil ?_
    refine Run.condEF rfl (by simp) ?_
    refine Run.skip ?_
    refine Run.seq ?_
    refine Run.seq ?_
    refine Run.region ?_
    refine Ops.pure rfl (Pure.move rfl) ?_
    refine Ops.pure rfl (Pure.eql rfl rfl) ?_
    refine Ops.nil ?_
    refine Run.cond rfl (fun c102 => ?_) (fun c102 => ?_)
    · skip
      replace c102 := dT c102
      refine Run.seq ?_
      obtain ⟨hkq, hnq, hfv, hpq, heq, hnum, hk0, hk1, hknx⟩ := fi_zero (show fiE a55 c55 l55 y55 = 0 by first | exact c102 | omega)
      obtain ⟨hside1, hside2⟩ := fc_side hkq hnq
      simp only [hfv]
      refine Run.region ?_
      refine Ops.pure rfl (Pure.ldBA 2 rfl cell28 rfl rfl rfl) ?_
      refine Ops.pure rfl (Pure.ldBA 1 rfl cell55 rfl rfl rfl) ?_
      refine Ops.pure rfl (Pure.move rfl) ?_
      refine Ops.go rfl (Loud.callR fn57 rfl (fun w hw => f_i_SetBreak w a55 c55 x55 l55 _ _ _ (RdL.own 3 rfl w hw) (by omega) hkq hpq heq hk0 hk1)) ?_
      rintro v107 _ ⟨L107, hQ107, rfl⟩
      rw [hnum] at hQ107
      obtain ⟨x107, h107, rfl, rfl⟩ := hQ107
      refine Ops.pure rfl (Pure.move rfl) ?_
      refine Ops.pure rfl (Pure.extract rfl rfl) ?_
      refine Ops.pure rfl (Pure.extract rfl rfl) ?_
      refine Ops.go rfl (Loud.alloc zero28 rfl) ?_
      rintro _ _ ⟨b19, rfl, rfl⟩
      refine Ops.store (Stores.box 0 rfl rfl rfl size28 (one3 h107) rfl rfl) ?_
      refine Ops.pure rfl (Pure.assign rfl) ?_
      refine Ops.nil ?_
      refine Run.seq ?_
      refine Run.region ?_
      refine Ops.pure rfl (Pure.ldBA 4 rfl cell28 rfl rfl rfl) ?_
      refine Ops.q rfl (QOp.call fn58 rfl (fun w hw => f_i_CountCurves w _ _ _ _ (by exact RdL.own 5 rfl w hw) (by omega) (by assumption))) ?_
      refine Ops.pure rfl (Pure.move rfl) ?_
      refine Ops.pure rfl (Pure.extract rfl rfl) ?_
      refine Ops.pure rfl (Pure.extract rfl rfl) ?_
      refine Ops.pure rfl (Pure.assign rfl) ?_
      refine Ops.pure rfl (Pure.assign rfl) ?_
      refine Ops.nil ?_
      refine Run.seq ?_
      refine Run.region ?_
      refine Ops.pure rfl (Pure.ldBA 0 rfl cell28 rfl rfl rfl) ?_
      refine Ops.q rfl (QOp.call fn58 rfl (fun w hw => f_i_CountCurves w a55 c55 x107 (nxL a55 c55 l55 y55) (by rw [show (nxL a55 c55 l55 y55).length = l55.length by unfold nxL; exact List.length_set]; exact RdL.own 1 rfl w hw) (by have := okP_ln hknx; omega) hknx)) ?_
      refine Ops.pure rfl (Pure.move rfl) ?_
      refine Ops.pure rfl (Pure.extract rfl rfl) ?_
      refine Ops.pure rfl (Pure.extract rfl rfl) ?_
      refine Ops.pure rfl (Pure.assign rfl) ?_
      refine Ops.pure rfl (Pure.assign rfl) ?_
      refine Ops.nil ?_
      refine Run.seq ?_
      refine Run.region ?_
      refine Ops.pure rfl (Pure.move rfl) ?_
      refine Ops.pure rfl (Pure.neq rfl rfl) ?_
      refine Ops.pure rfl (Pure.move rfl) ?_
      refine Ops.guardY rfl rfl rfl (by simp) ?_
      refine Ops.pure rfl (Pure.move rfl) ?_
      refine Ops.guardY rfl rfl rfl (by simp) ?_
      refine Ops.pure rfl (Pure.neq rfl rfl) ?_
      refine Ops.pure rfl (Pure.pickF rfl (by simp) rfl) ?_
      refine Ops.pure rfl (Pure.move rfl) ?_
      refine Ops.guardY rfl rfl rfl (by simp) ?_
      refine Ops.pure rfl (Pure.move rfl) ?_
      refine Ops.guardY rfl rfl rfl (by simp) ?_
      refine Ops.pure rfl (Pure.neq rfl rfl) ?_
      refine Ops.pure rfl (Pure.pickF rfl (by simp) rfl) ?_
      refine Ops.pure rfl (Pure.move rfl) ?_
      refine Ops.guardY rfl rfl rfl (by simp) ?_
      refine Ops.pure rfl (Pure.move rfl) ?_
      refine Ops.guardY rfl rfl rfl (by simp) ?_
      refine Ops.pure rfl (Pure.move rfl) ?_
      refine Ops.guardY rfl rfl rfl (by simp) ?_
      refine Ops.pure rfl (Pure.eql rfl rfl) ?_
      refine Ops.pure rfl (Pure.pickF rfl (by simp) rfl) ?_
      refine Ops.pure rfl (Pure.move rfl) ?_
      refine Ops.guardY rfl rfl rfl (decide_eq_false hside1) ?_
      refine Ops.pure rfl (Pure.move rfl) ?_
      refine Ops.guardY rfl rfl rfl (decide_eq_false hside1) ?_
      refine Ops.pure rfl (Pure.move rfl) ?_
      refine Ops.guardY rfl rfl rfl (decide_eq_false hside1) ?_
      refine Ops.pure rfl (Pure.gtr rfl rfl) ?_
      refine Ops.guardY rfl rfl rfl (decide_eq_false hside1) ?_
      refine Ops.pure rfl (Pure.move rfl) ?_
      refine Ops.guardY rfl rfl rfl (decide_eq_false hside1) ?_
      refine Ops.pure rfl (Pure.move rfl) ?_
      refine Ops.guardY rfl rfl rfl (decide_eq_false hside1) ?_
      refine Ops.pure rfl (Pure.gtr rfl rfl) ?_
      refine Ops.guardY rfl rfl rfl (decide_eq_false hside1) ?_
      refine Ops.pure rfl (Pure.neqB und4 rfl rfl) ?_
      refine Ops.pure rfl (Pure.pickF rfl (decide_eq_false hside1) rfl) ?_
      refine Ops.nil ?_
      refine Run.condEF rfl (by simp [hside2]) ?_
      refine Run.skip ?_
      refine Run.seq ?_
      refine Run.seq ?_
      refine Run.region ?_
      refine Ops.pure rfl (Pure.move rfl) ?_
      refine Ops.pure rfl (Pure.neq rfl rfl) ?_
      refine Ops.nil ?_
      refine Run.cond rfl (fun c145 => ?_) (fun c145 => ?_)
      · skip
        replace c145 := nT c145
        refine Run.seq ?_
        refine Run.region ?_
        refine Ops.pure rfl (Pure.assign rfl) ?_
        refine Ops.nil ?_
        refine Run.ret1 rfl rfl ?_
        rfl
      · skip
        replace c145 := nF c145
        refine Run.skip ?_
        refine Run.seq ?_
        have hst0 : stE a36 c36 l36 y36 = 0 := by omega
        obtain ⟨hs1, hs2, hs3, hs4, hs5, hs6⟩ := st_spec hst0
        simp only [stV_ok hst0]
        have hcn1 := cnt_le (l := l36) (okP_size hs1)
        have hcn2 := cnt_le (l := stL a36 c36 l36 y36) (okP_size hs1)
        refine Run.region ?_
        refine Ops.pure rfl (Pure.ldBA 10 rfl cell28 rfl rfl rfl) ?_
        refine Ops.q rfl (QOp.call fn58 rfl (fun w hw => f_i_CountCurves w _ _ _ _ (by exact RdL.own 11 rfl w hw) (by omega) (by assumption))) ?_
        refine Ops.pure rfl (Pure.move rfl) ?_
        refine Ops.pure rfl (Pure.extract rfl rfl) ?_
        refine Ops.pure rfl (Pure.extract rfl rfl) ?_
        refine Ops.pure rfl (Pure.assign rfl) ?_
        refine Ops.pure rfl (Pure.assign rfl) ?_
        refine Ops.nil ?_
        refine Run.seq ?_
        refine Run.region ?_
        refine Ops.pure rfl (Pure.ldBA 8 rfl cell28 rfl rfl rfl) ?_
        refine Ops.q rfl (QOp.call fn58 rfl (fun w hw => f_i_CountCurves w _ _ _ _ (by exact RdL.own 9 rfl w hw) (by omega) (by assumption))) ?_
        refine Ops.pure rfl (Pure.move rfl) ?_
        refine Ops.pure rfl (Pure.extract rfl rfl) ?_
        refine Ops.pure rfl (Pure.extract rfl rfl) ?_
        refine Ops.pure rfl (Pure.assign rfl) ?_
        refine Ops.pure rfl (Pure.assign rfl) ?_
        refine Ops.nil ?_
        refine Run.seq ?_
        refine Run.region ?_
        refine Ops.pure rfl (Pure.move rfl) ?_
        refine Ops.pure rfl (Pure.move rfl) ?_
        refine Ops.pure rfl (Pure.sub rfl rfl (by omega) (by omega)) ?_
        refine Ops.pure rfl (Pure.assign rfl) ?_
        refine Ops.nil ?_
        refine Run.seq ?_
        refine Run.seq ?_
        refine Run.region ?_
        refine Ops.pure rfl (Pure.move rfl) ?_
        refine Ops.pure rfl (Pure.lss rfl rfl) ?_
        refine Ops.nil ?_
        refine Run.cond rfl (fun c160 => ?_) (fun c160 => ?_)
        · skip
          replace c160 := dT c160
          refine Run.region ?_
          refine Ops.pure rfl (Pure.move rfl) ?_
          refine Ops.pure rfl (Pure.neg rfl (by omega) (by omega)) ?_
          refine Ops.pure rfl (Pure.assign rfl) ?_
          refine Ops.nil ?_
          refine Run.seq ?_
          refine Run.region ?_
          refine Ops.pure rfl (Pure.ldBA 10 rfl cell28 rfl rfl rfl) ?_
          refine Ops.pure rfl (Pure.ldBA 8 rfl cell28 rfl rfl rfl) ?_
          refine Ops.q rfl (QOp.call fn59 rfl (fun w hw => f_i_DistanceOf w _ _ _ _ _ _ (by exact RdL.own 11 rfl w hw) (by exact RdL.own 9 rfl w hw) (by assumption) (by assumption))) ?_
          refine Ops.pure rfl (Pure.move rfl) ?_
          refine Ops.pure rfl (Pure.extract rfl rfl) ?_
          refine Ops.pure rfl (Pure.extract rfl rfl) ?_
          refine Ops.pure rfl (Pure.assign rfl) ?_
          refine Ops.pure rfl (Pure.assign rfl) ?_
          refine Ops.nil ?_
          refine Run.seq ?_
          refine Run.region ?_
          refine Ops.pure rfl (Pure.move rfl) ?_
          refine Ops.pure rfl (Pure.eql rfl rfl) ?_
          refine Ops.pure rfl (Pure.move rfl) ?_
          refine Ops.guardY rfl rfl rfl (by simp) ?_
          refine Ops.pure rfl (Pure.move rfl) ?_
          refine Ops.guardY rfl rfl rfl (by simp) ?_
          refine Ops.pure rfl (Pure.eql rfl rfl) ?_
          refine Ops.pure rfl (Pure.pickT rfl (by simp) rfl) ?_
          refine Ops.pure rfl (Pure.move rfl) ?_
          refine Ops.guardY rfl rfl rfl (by simp) ?_
          refine Ops.pure rfl (Pure.move rfl) ?_
          refine Ops.guardY rfl rfl rfl (by simp) ?_
          refine Ops.pure rfl (Pure.move rfl) ?_
          refine Ops.guardY rfl rfl rfl (by simp) ?_
          refine Ops.pure rfl (Pure.eql rfl rfl) ?_
          refine Ops.pure rfl (Pure.pickT rfl (by simp) rfl) ?_
          refine Ops.pure rfl (Pure.move rfl) ?_
          refine Ops.guardY rfl rfl rfl (decide_eq_true hs4) ?_
          refine Ops.pure rfl (Pure.move rfl) ?_
          refine Ops.guardY rfl rfl rfl (decide_eq_true hs4) ?_
          refine Ops.pure rfl (Pure.move rfl) ?_
          refine Ops.guardY rfl rfl rfl (decide_eq_true hs4) ?_
          refine Ops.pure rfl (Pure.eql rfl rfl) ?_
          refine Ops.pure rfl (Pure.pickT rfl (decide_eq_true hs4) rfl) ?_
          refine Ops.pure rfl (Pure.move rfl) ?_
          refine Ops.guardY rfl rfl rfl (decide_eq_true (by unfold dst at hs5; omega)) ?_
          refine Ops.pure rfl (Pure.move rfl) ?_
          refine Ops.guardY rfl rfl rfl (decide_eq_true (by unfold dst at hs5; omega)) ?_
          refine Ops.pure rfl (Pure.eql rfl rfl) ?_
          refine Ops.pure rfl (Pure.pickT rfl (decide_eq_true (by unfold dst at hs5; omega)) rfl) ?_
          refine Ops.pure rfl (Pure.move rfl) ?_
          refine Ops.guardY rfl rfl rfl (by simp) ?_
          refine Ops.pure rfl (Pure.move rfl) ?_
          refine Ops.guardY rfl rfl rfl (by simp) ?_
          refine Ops.pure rfl (Pure.move rfl) ?_
          refine Ops.guardY rfl rfl rfl (by simp) ?_
          refine Ops.pure rfl (Pure.leq rfl rfl) ?_
          refine Ops.pure rfl (Pure.pickT rfl (by simp) rfl) ?_
          refine Ops.pure rfl (Pure.assign rfl) ?_
          refine Ops.nil ?_
          refine Run.ret1 rfl rfl ?_
          rw [decide_eq_true (by omega)]
        · skip
          replace c160 := dF c160
          refine Run.skip ?_
          refine Run.seq ?_
          refine Run.region ?_
          refine Ops.pure rfl (Pure.ldBA 10 rfl cell28 rfl rfl rfl) ?_
          refine Ops.pure rfl (Pure.ldBA 8 rfl cell28 rfl rfl rfl) ?_
          refine Ops.q rfl (QOp.call fn59 rfl (fun w hw => f_i_DistanceOf w _ _ _ _ _ _ (by exact RdL.own 11 rfl w hw) (by exact RdL.own 9 rfl w hw) (by assumption) (by assumption))) ?_
          refine Ops.pure rfl (Pure.move rfl) ?_
          refine Ops.pure rfl (Pure.extract rfl rfl) ?_
          refine Ops.pure rfl (Pure.extract rfl rfl) ?_
          refine Ops.pure rfl (Pure.assign rfl) ?_
          refine Ops.pure rfl (Pure.assign rfl) ?_
          refine Ops.nil ?_
          refine Run.seq ?_
          refine Run.region ?_
          refine Ops.pure rfl (Pure.move rfl) ?_
          refine Ops.pure rfl (Pure.eql rfl rfl) ?_
          refine Ops.pure rfl (Pure.move rfl) ?_
          refine Ops.guardY rfl rfl rfl (by simp) ?_
          refine Ops.pure rfl (Pure.move rfl) ?_
          refine Ops.guardY rfl rfl rfl (by simp) ?_
          refine Ops.pure rfl (Pure.eql rfl rfl) ?_
          refine Ops.pure rfl (Pure.pickT rfl (by simp) rfl) ?_
          refine Ops.pure rfl (Pure.move rfl) ?_
          refine Ops.guardY rfl rfl rfl (by simp) ?_
          refine Ops.pure rfl (Pure.move rfl) ?_
          refine Ops.guardY rfl rfl rfl (by simp) ?_
          refine Ops.pure rfl (Pure.move rfl) ?_
          refine Ops.guardY rfl rfl rfl (by simp) ?_
          refine Ops.pure rfl (Pure.eql rfl rfl) ?_
          refine Ops.pure rfl (Pure.pickT rfl (by simp) rfl) ?_
          refine Ops.pure rfl (Pure.move rfl) ?_
          refine Ops.guardY rfl rfl rfl (decide_eq_true hs4) ?_
          refine Ops.pure rfl (Pure.move rfl) ?_
          refine Ops.guardY rfl rfl rfl (decide_eq_true hs4) ?_
          refine Ops.pure rfl (Pure.move rfl) ?_
          refine Ops.guardY rfl rfl rfl (decide_eq_true hs4) ?_
          refine Ops.pure rfl (Pure.eql rfl rfl) ?_
          refine Ops.pure rfl (Pure.pickT rfl (decide_eq_true hs4) rfl) ?_
          refine Ops.pure rfl (Pure.move rfl) ?_
          refine Ops.guardY rfl rfl rfl (decide_eq_true (by unfold dst at hs5; omega)) ?_
          refine Ops.pure rfl (Pure.move rfl) ?_
          refine Ops.guardY rfl rfl rfl (decide_eq_true (by unfold dst at hs5; omega)) ?_
          refine Ops.pure rfl (Pure.eql rfl rfl) ?_
          refine Ops.pure rfl (Pure.pickT rfl (decide_eq_true (by unfold dst at hs5; omega)) rfl) ?_
          refine Ops.pure rfl (Pure.move rfl) ?_
          refine Ops.guardY rfl rfl rfl (by simp) ?_
          refine Ops.pure rfl (Pure.move rfl) ?_
          refine Ops.guardY rfl rfl rfl (by simp) ?_
          refine Ops.pure rfl (Pure.move rfl) ?_
          refine Ops.guardY rfl rfl rfl (by simp) ?_
          refine Ops.pure rfl (Pure.leq rfl rfl) ?_
          refine Ops.pure rfl (Pure.pickT rfl (by simp) rfl) ?_
          refine Ops.pure rfl (Pure.assign rfl) ?_
          refine Ops.nil ?_
          refine Run.ret1 rfl rfl ?_
          rw [decide_eq_true (by omega)]
    · skip
      replace c102 := dF c102
      refine Run.skip ?_
      refine Run.seq ?_
      refine Run.seq ?_
      refine Run.region ?_
      refine Ops.pure rfl (Pure.move rfl) ?_
      refine Ops.pure rfl (Pure.neq rfl rfl) ?_
      refine Ops.nil ?_
      refine Run.cond rfl (fun c145 => ?_) (fun c145 => ?_)
      · skip
        replace c145 := nT c145
        refine Run.seq ?_
        refine Run.region ?_
        refine Ops.pure rfl (Pure.assign rfl) ?_
        refine Ops.nil ?_
        refine Run.ret1 rfl rfl ?_
        rfl
      · skip
        replace c145 := nF c145
        refine Run.skip ?_
        refine Run.seq ?_
        have hst0 : stE a36 c36 l36 y36 = 0 := by omega
        obtain ⟨hs1, hs2, hs3, hs4, hs5, hs6⟩ := st_spec hst0
        simp only [stV_ok hst0]
        have hcn1 := cnt_le (l := l36) (okP_size hs1)
        have hcn2 := cnt_le (l := stL a36 c36 l36 y36) (okP_size hs1)
        refine Run.region ?_
        refine Ops.pure rfl (Pure.ldBA 8 rfl cell28 rfl rfl rfl) ?_
        refine Ops.q rfl (QOp.call fn58 rfl (fun w hw => f_i_CountCurves w _ _ _ _ (by exact RdL.own 9 rfl w hw) (by omega) (by assumption))) ?_
        refine Ops.pure rfl (Pure.move rfl) ?_
        refine Ops.pure rfl (Pure.extract rfl rfl) ?_
        refine Ops.pure rfl (Pure.extract rfl rfl) ?_
        refine Ops.pure rfl (Pure.assign rfl) ?_
        refine Ops.pure rfl (Pure.assign rfl) ?_
        refine Ops.nil ?_
        refine Run.seq ?_
        refine Run.region ?_
        refine Ops.pure rfl (Pure.ldBA 6 rfl cell28 rfl rfl rfl) ?_
        refine Ops.q rfl (QOp.call fn58 rfl (fun w hw => f_i_CountCurves w _ _ _ _ (by exact RdL.own 7 rfl w hw) (by omega) (by assumption))) ?_
        refine Ops.pure rfl (Pure.move rfl) ?_
        refine Ops.pure rfl (Pure.extract rfl rfl) ?_
        refine Ops.pure rfl (Pure.extract rfl rfl) ?_
        refine Ops.pure rfl (Pure.assign rfl) ?_
        refine Ops.pure rfl (Pure.assign rfl) ?_
        refine Ops.nil ?_
        refine Run.seq ?_
        refine Run.region ?_
        refine Ops.pure rfl (Pure.move rfl) ?_
        refine Ops.pure rfl (Pure.move rfl) ?_
        refine Ops.pure rfl (Pure.sub rfl rfl (by omega) (by omega)) ?_
        refine Ops.pure rfl (Pure.assign rfl) ?_
        refine Ops.nil ?_
        refine Run.seq ?_
        refine Run.seq ?_
        refine Run.region ?_
        refine Ops.pure rfl (Pure.move rfl) ?_
        refine Ops.pure rfl (Pure.lss rfl rfl) ?_
        refine Ops.nil ?_
        refine Run.cond rfl (fun c160 => ?_) (fun c160 => ?_)
        · skip
          replace c160 := dT c160
          refine Run.region ?_
          refine Ops.pure rfl (Pure.move rfl) ?_
          refine Ops.pure rfl (Pure.neg rfl (by omega) (by omega)) ?_
          refine Ops.pure rfl (Pure.assign rfl) ?_
          refine Ops.nil ?_
          refine Run.seq ?_
          refine Run.region ?_
          refine Ops.pure rfl (Pure.ldBA 8 rfl cell28 rfl rfl rfl) ?_
          refine Ops.pure rfl (Pure.ldBA 6 rfl cell28 rfl rfl rfl) ?_
          refine Ops.q rfl (QOp.call fn59 rfl (fun w hw => f_i_DistanceOf w _ _ _ _ _ _ (by exact RdL.own 9 rfl w hw) (by exact RdL.own 7 rfl w hw) (by assumption) (by assumption))) ?_
          refine Ops.pure rfl (Pure.move rfl) ?_
          refine Ops.pure rfl (Pure.extract rfl rfl) ?_
          refine Ops.pure rfl (Pure.extract rfl rfl) ?_
          refine Ops.pure rfl (Pure.assign rfl) ?_
          refine Ops.pure rfl (Pure.assign rfl) ?_
          refine Ops.nil ?_
          refine Run.seq ?_
          refine Run.region ?_
          refine Ops.pure rfl (Pure.move rfl) ?_
          refine Ops.pure rfl (Pure.eql rfl rfl) ?_
          refine Ops.pure rfl (Pure.move rfl) ?_
          refine Ops.guardY rfl rfl rfl (by simp) ?_
          refine Ops.pure rfl (Pure.move rfl) ?_
          refine Ops.guardY rfl rfl rfl (by simp) ?_
          refine Ops.pure rfl (Pure.eql rfl rfl) ?_
          refine Ops.pure rfl (Pure.pickT rfl (by simp) rfl) ?_
          refine Ops.pure rfl (Pure.move rfl) ?_
          refine Ops.guardY rfl rfl rfl (by simp) ?_
          refine Ops.pure rfl (Pure.move rfl) ?_
          refine Ops.guardY rfl rfl rfl (by simp) ?_
          refine Ops.pure rfl (Pure.move rfl) ?_
          refine Ops.guardY rfl rfl rfl (by simp) ?_
          refine Ops.pure rfl (Pure.eql rfl rfl) ?_
          refine Ops.pure rfl (Pure.pickT rfl (by simp) rfl) ?_
          refine Ops.pure rfl (Pure.move rfl) ?_
          refine Ops.guardY rfl rfl rfl (decide_eq_true hs4) ?_
          refine Ops.pure rfl (Pure.move rfl) ?_
          refine Ops.guardY rfl rfl rfl (decide_eq_true hs4) ?_
          refine Ops.pure rfl (Pure.move rfl) ?_
          refine Ops.guardY rfl rfl rfl (decide_eq_true hs4) ?_
          refine Ops.pure rfl (Pure.eql rfl rfl) ?_
          refine Ops.pure rfl (Pure.pickT rfl (decide_eq_true hs4) rfl) ?_
          refine Ops.pure rfl (Pure.move rfl) ?_
          refine Ops.guardY rfl rfl rfl (decide_eq_true (by unfold dst at hs5; omega)) ?_
          refine Ops.pure rfl (Pure.move rfl) ?_
          refine Ops.guardY rfl rfl rfl (decide_eq_true (by unfold dst at hs5; omega)) ?_
          refine Ops.pure rfl (Pure.eql rfl rfl) ?_
          refine Ops.pure rfl (Pure.pickT rfl (decide_eq_true (by unfold dst at hs5; omega)) rfl) ?_
          refine Ops.pure rfl (Pure.move rfl) ?_
          refine Ops.guardY rfl rfl rfl (by simp) ?_
          refine Ops.pure rfl (Pure.move rfl) ?_
          refine Ops.guardY rfl rfl rfl (by simp) ?_
          refine Ops.pure rfl (Pure.move rfl) ?_
          refine Ops.guardY rfl rfl rfl (by simp) ?_
          refine Ops.pure rfl (Pure.leq rfl rfl) ?_
          refine Ops.pure rfl (Pure.pickT rfl (by simp) rfl) ?_
          refine Ops.pure rfl (Pure.assign rfl) ?_
          refine Ops.nil ?_
          refine Run.ret1 rfl rfl ?_
          rw [decide_eq_true (by omega)]
        · skip
          replace c160 := dF c160
          refine Run.skip ?_
          refine Run.seq ?_
          refine Run.region ?_
          refine Ops.pure rfl (Pure.ldBA 8 rfl cell28 rfl rfl rfl) ?_
          refine Ops.pure rfl (Pure.ldBA 6 rfl cell28 rfl rfl rfl) ?_
          refine Ops.q rfl (QOp.call fn59 rfl (fun w hw => f_i_DistanceOf w _ _ _ _ _ _ (by exact RdL.own 9 rfl w hw) (by exact RdL.own 7 rfl w hw) (by assumption) (by assumption))) ?_
          refine Ops.pure rfl (Pure.move rfl) ?_
          refine Ops.pure rfl (Pure.extract rfl rfl) ?_
          refine Ops.pure rfl (Pure.extract rfl rfl) ?_
          refine Ops.pure rfl (Pure.assign rfl) ?_
          refine Ops.pure rfl (Pure.assign rfl) ?_
          refine Ops.nil ?_
          refine Run.seq ?_
          refine Run.region ?_
          refine Ops.pure rfl (Pure.move rfl) ?_
          refine Ops.pure rfl (Pure.eql rfl rfl) ?_
          refine Ops.pure rfl (Pure.move rfl) ?_
          refine Ops.guardY rfl rfl rfl (by simp) ?_
          refine Ops.pure rfl (Pure.move rfl) ?_
          refine Ops.guardY rfl rfl rfl (by simp) ?_
          refine Ops.pure rfl (Pure.eql rfl rfl) ?_
          refine Ops.pure rfl (Pure.pickT rfl (by simp) rfl) ?_
          refine Ops.pure rfl (Pure.move rfl) ?_
          refine Ops.guardY rfl rfl rfl (by simp) ?_
          refine Ops.pure rfl (Pure.move rfl) ?_
          refine Ops.guardY rfl rfl rfl (by simp) ?_
          refine Ops.pure rfl (Pure.move rfl) ?_
          refine Ops.guardY rfl rfl rfl (by simp) ?_
          refine Ops.pure rfl (Pure.eql rfl rfl) ?_
          refine Ops.pure rfl (Pure.pickT rfl (by simp) rfl) ?_
          refine Ops.pure rfl (Pure.move rfl) ?_
          refine Ops.guardY rfl rfl rfl (decide_eq_true hs4) ?_
          refine Ops.pure rfl (Pure.move rfl) ?_
          refine Ops.guardY rfl rfl rfl (decide_eq_true hs4) ?_
          refine Ops.pure rfl (Pure.move rfl) ?_
          refine Ops.guardY rfl rfl rfl (decide_eq_true hs4) ?_
          refine Ops.pure rfl (Pure.eql rfl rfl) ?_
          refine Ops.pure rfl (Pure.pickT rfl (decide_eq_true hs4) rfl) ?_
          refine Ops.pure rfl (Pure.move rfl) ?_
          refine Ops.guardY rfl rfl rfl (decide_eq_true (by unfold dst at hs5; omega)) ?_
          refine Ops.pure rfl (Pure.move rfl) ?_
          refine Ops.guardY rfl rfl rfl (decide_eq_true (by unfold dst at hs5; omega)) ?_
          refine Ops.pure rfl (Pure.eql rfl rfl) ?_
          refine Ops.pure rfl (Pure.pickT rfl (decide_eq_true (by unfold dst at hs5; omega)) rfl) ?_
          refine Ops.pure rfl (Pure.move rfl) ?_
          refine Ops.guardY rfl rfl rfl (by simp) ?_
          refine Ops.pure rfl (Pure.move rfl) ?_
          refine Ops.guardY rfl rfl rfl (by simp) ?_
          refine Ops.pure rfl (Pure.move rfl) ?_
          refine Ops.guardY rfl rfl rfl (by simp) ?_
          refine Ops.pure rfl (Pure.leq rfl rfl) ?_
          refine Ops.pure rfl (Pure.pickT rfl (by simp) rfl) ?_
          refine Ops.pure rfl (Pure.assign rfl) ?_
          refine Ops.nil ?_
          refine Run.ret1 rfl rfl ?_
          rw [decide_eq_true (by omega)]

end Go.Proofs.Ytkplanpcmkbfiaa
