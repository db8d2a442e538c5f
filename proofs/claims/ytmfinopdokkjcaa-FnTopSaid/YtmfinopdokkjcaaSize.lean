/- Contracts of functions, printed by program from annotations. -/
import Derived.Test.YtmfinopdokkjcaaInts
namespace Go.Proofs.Ytmfinopdokkjcaa
open Go Go.AW Go.RowKit
set_option linter.unusedVariables false
set_option linter.unusedSimpArgs false

def SizeOk (w h : Int) : Prop := 1 ≤ w ∧ w ≤ 8 ∧ 1 ≤ h ∧ h ≤ 8
instance (w h : Int) : Decidable (SizeOk w h) := by unfold SizeOk; infer_instance
theorem mul_bd {a b A B : Int} (h1 : 0 ≤ a) (h2 : a ≤ A) (h3 : 0 ≤ b) (h4 : b ≤ B) : 0 ≤ a * b ∧ a * b ≤ A * B :=
  ⟨Int.mul_nonneg h1 h3, Int.le_trans (Int.mul_le_mul_of_nonneg_right h2 h3) (Int.mul_le_mul_of_nonneg_left h4 (Int.le_trans h1 h2))⟩
/-- the points inside -/
def inn (w h : Int) : Nat := (w * (h - 1) + h * (w - 1)).toNat
theorem inn_eq {w h : Int} (hs : SizeOk w h) : w * (h - 1) + h * (w - 1) = inn w h ∧ inn w h ≤ 112 ∧ 0 ≤ w * (h - 1) ∧ w * (h - 1) ≤ 56 ∧ 0 ≤ h * (w - 1) ∧ h * (w - 1) ≤ 56 := by
  obtain ⟨h1, h2, h3, h4⟩ := hs
  obtain ⟨e1, e2⟩ := mul_bd (a := w) (b := h - 1) (A := 8) (B := 7) (by omega) h2 (by omega) (by omega)
  obtain ⟨e3, e4⟩ := mul_bd (a := h) (b := w - 1) (A := 8) (B := 7) (by omega) h4 (by omega) (by omega)
  unfold inn
  omega
def p3 (k : Nat) : Nat := 3 ^ k
theorem p3_succ (k : Nat) : p3 (k + 1) = 3 * p3 k := by unfold p3; rw [Nat.pow_succ]; omega
theorem p3_mono {i k : Nat} (h : i ≤ k) : p3 i ≤ p3 k := Nat.pow_le_pow_right (by omega) h
def many (w h : Int) : Nat := min 2501 (p3 (inn w h))
theorem min_pow (k : Nat) : min 2501 (3 * min 2501 (p3 k)) = min 2501 (p3 (k + 1)) := by rw [p3_succ]; omega
def pcE (w h : Int) : Int := if SizeOk w h then (if many w h ≤ 2500 then 0 else 5) else 2
def pcN (w h : Int) : Int := if SizeOk w h ∧ many w h ≤ 2500 then (many w h : Int) else 0
theorem pc_bad {w h : Int} (hs : ¬ SizeOk w h) : pcE w h = 2 ∧ pcN w h = 0 := by unfold pcE pcN; rw [if_neg hs, if_neg (fun hh => hs hh.1)]; exact ⟨rfl, rfl⟩
theorem pc_many {w h : Int} (hs : SizeOk w h) (hm : ¬ many w h ≤ 2500) : pcE w h = 5 ∧ pcN w h = 0 := by unfold pcE pcN; rw [if_pos hs, if_neg hm, if_neg (fun hh => hm hh.2)]; exact ⟨rfl, rfl⟩
theorem pc_ok {w h : Int} (hs : SizeOk w h) (hm : many w h ≤ 2500) : pcE w h = 0 ∧ pcN w h = many w h := by unfold pcE pcN; rw [if_pos hs, if_pos hm, if_pos ⟨hs, hm⟩]; exact ⟨rfl, rfl⟩
theorem many_big {w h : Int} {k : Nat} (hk : k ≤ inn w h) (h3 : ¬ p3 k ≤ 2500) : ¬ many w h ≤ 2500 := by
  have := p3_mono hk
  unfold many
  omega
theorem many_small {w h : Int} {k : Nat} (hk : k = inn w h) (h3 : p3 k ≤ 2500) : many w h = p3 k ∧ many w h ≤ 2500 := by
  subst hk
  unfold many
  omega

set_option maxRecDepth 4000 in
/-- spec.l00Min -/
theorem f_s_l00Min (w : World) (a : Int) (b : Int) : RetV Try.prog 183 [.int .i64 a, .int .i64 b] w (.int .i64 (min a b)) := by
  refine Ret.enter Try.func183 rfl Try.ntmps183 rfl ?_
  refine Run.seq ?_
  refine Run.region ?_
  refine Ops.pure rfl (Pure.assign rfl) ?_
  refine Ops.nil ?_
  refine Run.seq ?_
  refine Run.seq ?_
  refine Run.region ?_
  refine Ops.pure rfl (Pure.move rfl) ?_
  refine Ops.pure rfl (Pure.move rfl) ?_
  refine Ops.pure rfl (Pure.lss rfl rfl) ?_
  refine Ops.nil ?_
  refine Run.cond rfl (fun c7 => ?_) (fun c7 => ?_)
  · skip
    replace c7 := dT c7
    refine Run.seq ?_
    refine Run.region ?_
    refine Ops.pure rfl (Pure.move rfl) ?_
    refine Ops.pure rfl (Pure.assign rfl) ?_
    refine Ops.nil ?_
    refine Run.ret1 rfl rfl ?_
    first
      | (congr 1; omega)
      | (simp only [Value.int.injEq, true_and]; omega)
  · skip
    replace c7 := dF c7
    refine Run.skip ?_
    refine Run.seq ?_
    refine Run.region ?_
    refine Ops.pure rfl (Pure.move rfl) ?_
    refine Ops.pure rfl (Pure.assign rfl) ?_
    refine Ops.nil ?_
    refine Run.ret1 rfl rfl ?_
    first
      | (congr 1; omega)
      | (simp only [Value.int.injEq, true_and]; omega)

set_option maxRecDepth 4000 in
/-- spec.l02Side -/
theorem f_s_l02Side (w : World) (a : Int) : RetV Try.prog 179 [.int .i64 a] w (.bool (decide (1 ≤ a ∧ a ≤ 8))) := by
  refine Ret.enter Try.func179 rfl Try.ntmps179 rfl ?_
  refine Run.seq ?_
  refine Run.region ?_
  refine Ops.pure rfl (Pure.assign rfl) ?_
  refine Ops.nil ?_
  refine Run.seq ?_
  refine Run.region ?_
  refine Ops.pure rfl (Pure.move rfl) ?_
  refine Ops.q rfl (QOp.call fn119 rfl (fun w hw => f_s_l00In w _ _ _)) ?_
  refine Ops.pure rfl (Pure.assign rfl) ?_
  refine Ops.nil ?_
  refine Run.ret1 rfl rfl ?_
  rfl

set_option maxRecDepth 4000 in
/-- impl.validSize -/
theorem f_i_validSize (w : World) (a : Int) (b : Int) : RetV Try.prog 171 [.int .i64 a, .int .i64 b] w (.bool (decide (SizeOk a b))) := by
  refine Ret.enter Try.func171 rfl Try.ntmps171 rfl ?_
  refine Run.seq ?_
  refine Run.region ?_
  refine Ops.pure rfl (Pure.assign rfl) ?_
  refine Ops.nil ?_
  refine Run.seq ?_
  refine Run.region ?_
  refine Ops.pure rfl (Pure.move rfl) ?_
  refine Ops.q rfl (QOp.call fn93 rfl (fun w hw => f_i_inRange w _ _ _)) ?_
  refine Ops.pure rfl (Pure.move rfl) ?_
  refine Ops.guard rfl rfl rfl rfl (fun c7 => ?_) (fun c7 => ?_)
  · skip
    have c7' := dT c7
    refine Ops.pure rfl (Pure.move rfl) ?_
    refine Ops.guardY rfl rfl rfl c7 ?_
    refine Ops.q rfl (QOp.call fn93 rfl (fun w hw => f_i_inRange w _ _ _)) ?_
    refine Ops.pure rfl (Pure.pickT rfl c7 rfl) ?_
    refine Ops.pure rfl (Pure.assign rfl) ?_
    refine Ops.nil ?_
    refine Run.ret1 rfl rfl ?_
    first
      | rfl
      | (simp only [Value.bool.injEq, decide_eq_decide]; unfold SizeOk; omega)
      | (rw [decide_eq_false (by unfold SizeOk; omega)])
  · skip
    replace c7 := Bool.eq_false_of_ne c7
    have c7' := dF c7
    refine Ops.guardN rfl rfl rfl rfl (by rw [c7]; decide) ?_
    refine Ops.pure rfl (Pure.pickF rfl c7 rfl) ?_
    refine Ops.pure rfl (Pure.assign rfl) ?_
    refine Ops.nil ?_
    refine Run.ret1 rfl rfl ?_
    first
      | rfl
      | (simp only [Value.bool.injEq, decide_eq_decide]; unfold SizeOk; omega)
      | (rw [decide_eq_false (by unfold SizeOk; omega)])

set_option maxRecDepth 4000 in
/-- spec.l02Inner -/
theorem f_s_l02Inner (w : World) (a : Int) (b : Int) (hs : SizeOk a b) : RetV Try.prog 128 [.int .i64 a, .int .i64 b] w (.int .i64 (inn a b : Int)) := by
  have hin := inn_eq hs
  obtain ⟨hs1, hs2, hs3, hs4⟩ := id hs
  refine Ret.enter Try.func128 rfl Try.ntmps128 rfl ?_
  refine Run.seq ?_
  refine Run.region ?_
  refine Ops.pure rfl (Pure.assign rfl) ?_
  refine Ops.nil ?_
  refine Run.seq ?_
  refine Run.region ?_
  refine Ops.pure rfl (Pure.move rfl) ?_
  refine Ops.pure rfl (Pure.move rfl) ?_
  refine Ops.pure rfl (Pure.sub rfl rfl (by omega) (by omega)) ?_
  refine Ops.pure rfl (Pure.mul rfl rfl (by omega) (by omega)) ?_
  refine Ops.pure rfl (Pure.move rfl) ?_
  refine Ops.pure rfl (Pure.move rfl) ?_
  refine Ops.pure rfl (Pure.sub rfl rfl (by omega) (by omega)) ?_
  refine Ops.pure rfl (Pure.mul rfl rfl (by omega) (by omega)) ?_
  refine Ops.pure rfl (Pure.add rfl rfl (by omega) (by omega)) ?_
  refine Ops.pure rfl (Pure.assign rfl) ?_
  refine Ops.nil ?_
  refine Run.ret1 rfl rfl ?_
  rw [← hin.1]

set_option maxRecDepth 4000 in
/-- impl.innerPoints -/
theorem f_i_innerPoints (w : World) (a : Int) (b : Int) (hs : SizeOk a b) : RetV Try.prog 126 [.int .i64 a, .int .i64 b] w (.int .i64 (inn a b : Int)) := by
  have hin := inn_eq hs
  obtain ⟨hs1, hs2, hs3, hs4⟩ := id hs
  refine Ret.enter Try.func126 rfl Try.ntmps126 rfl ?_
  refine Run.seq ?_
  refine Run.region ?_
  refine Ops.pure rfl (Pure.assign rfl) ?_
  refine Ops.nil ?_
  refine Run.seq ?_
  refine Run.region ?_
  refine Ops.pure rfl (Pure.move rfl) ?_
  refine Ops.pure rfl (Pure.move rfl) ?_
  refine Ops.pure rfl (Pure.sub rfl rfl (by omega) (by omega)) ?_
  refine Ops.pure rfl (Pure.mul rfl rfl (by omega) (by omega)) ?_
  refine Ops.pure rfl (Pure.move rfl) ?_
  refine Ops.pure rfl (Pure.move rfl) ?_
  refine Ops.pure rfl (Pure.sub rfl rfl (by omega) (by omega)) ?_
  refine Ops.pure rfl (Pure.mul rfl rfl (by omega) (by omega)) ?_
  refine Ops.pure rfl (Pure.add rfl rfl (by omega) (by omega)) ?_
  refine Ops.pure rfl (Pure.assign rfl) ?_
  refine Ops.nil ?_
  refine Run.ret1 rfl rfl ?_
  rw [← hin.1]

set_option maxRecDepth 4000 in
/-- spec.l12Many -/
theorem f_s_l12Many (w : World) (a : Int) (b : Int) (hs : SizeOk a b) : RetV Try.prog 108 [.int .i64 a, .int .i64 b] w (.int .i64 (many a b : Int)) := by
  have hin := inn_eq hs
  obtain ⟨hs1, hs2, hs3, hs4⟩ := id hs
  refine Ret.enter Try.func108 rfl Try.ntmps108 rfl ?_
  refine Run.seq ?_
  refine Run.region ?_
  refine Ops.pure rfl (Pure.assign rfl) ?_
  refine Ops.nil ?_
  refine Run.seq ?_
  refine Run.region ?_
  refine Ops.pure rfl (Pure.assign rfl) ?_
  refine Ops.nil ?_
  refine Run.seq ?_
  refine Run.seq ?_
  refine Run.region ?_
  refine Ops.pure rfl (Pure.move rfl) ?_
  refine Ops.pure rfl (Pure.move rfl) ?_
  refine Ops.q rfl (QOp.call fn128 rfl (fun w hw => f_s_l02Inner w _ _ (by assumption))) ?_
  refine Ops.pure rfl (Pure.assign rfl) ?_
  refine Ops.nil ?_
  refine Run.block ?_
  refine Run.loop (X := Nat) (fun k => [(5, .int .i64 ((min 2501 (p3 (inn a b - k)) : Nat) : Int)), (6, .int .i64 (k : Int))]) (fun k => []) (fun k => k ≤ inn a b) (fun k => k) (inn a b) ?_ ?_ ?_ ?_
  · exact Nat.le_refl _
  · exact ⟨by rw [Nat.sub_self]; rfl, rfl, trivial⟩
  · exact Ext.refl _
  · intro k hinv0
    refine Run.seq ?_
    refine Run.seq ?_
    refine Run.region ?_
    refine Ops.pure rfl (Pure.move rfl) ?_
    refine Ops.pure rfl (Pure.gtr rfl rfl) ?_
    refine Ops.nil ?_
    refine Run.cond rfl (fun c11 => ?_) (fun c11 => ?_)
    · skip
      replace c11 := dT c11
      refine Run.skip ?_
      refine Run.seq ?_
      refine Run.block ?_
      refine Run.region ?_
      refine Ops.pure rfl (Pure.move rfl) ?_
      refine Ops.pure rfl (Pure.mul rfl rfl (by omega) (by omega)) ?_
      refine Ops.q rfl (QOp.call fn183 rfl (fun w hw => f_s_l00Min w _ _)) ?_
      refine Ops.pure rfl (Pure.assign rfl) ?_
      refine Ops.nil ?_
      refine Run.blk ?_
      refine Run.region ?_
      refine Ops.pure rfl (Pure.move rfl) ?_
      refine Ops.pure rfl (Pure.sub rfl rfl (by omega) (by omega)) ?_
      refine Ops.pure rfl (Pure.assign rfl) ?_
      refine Ops.nil ?_
      refine Run.asrt ?_
      refine ⟨k - 1, ⟨by omega, by omega⟩, ⟨?_, ?_, trivial⟩, Ext.nil _⟩
      · rw [show inn a b - (k - 1) = inn a b - k + 1 by omega, ← min_pow]
        show some _ = some _
        congr 2
        omega
      · rw [show ((k - 1 : Nat) : Int) = k - 1 by omega]; rfl
    · skip
      replace c11 := dF c11
      refine Run.exit rfl ?_
      refine Run.seq ?_
      refine Run.region ?_
      refine Ops.pure rfl (Pure.move rfl) ?_
      refine Ops.pure rfl (Pure.assign rfl) ?_
      refine Ops.nil ?_
      refine Run.ret1 rfl rfl ?_
      have e : k = 0 := by omega
      subst e
      rfl

set_option maxRecDepth 4000 in
/-- impl.panelCount -/
theorem f_i_panelCount (w : World) (a : Int) (b : Int) (a0 : -9223372036854775808 ≤ a) (a1 : a ≤ 9223372036854775807) (b0 : -9223372036854775808 ≤ b) (b1 : b ≤ 9223372036854775807) : RetV Try.prog 111 [.int .i64 a, .int .i64 b] w (.tuple #[.int .i64 (pcN a b), .int .i64 (pcE a b)]) := by
  refine Ret.enter Try.func111 rfl Try.ntmps111 rfl ?_
  refine Run.seq ?_
  refine Run.region ?_
  refine Ops.pure rfl (Pure.assign rfl) ?_
  refine Ops.pure rfl (Pure.assign rfl) ?_
  refine Ops.nil ?_
  refine Run.seq ?_
  refine Run.seq ?_
  refine Run.region ?_
  refine Ops.pure rfl (Pure.move rfl) ?_
  refine Ops.pure rfl (Pure.move rfl) ?_
  refine Ops.q rfl (QOp.call fn171 rfl (fun w hw => f_i_validSize w _ _)) ?_
  refine Ops.pure rfl (Pure.not rfl) ?_
  refine Ops.nil ?_
  refine Run.cond rfl (fun c10 => ?_) (fun c10 => ?_)
  · skip
    replace c10 := nT c10
    refine Run.seq ?_
    refine Run.region ?_
    refine Ops.pure rfl (Pure.assign rfl) ?_
    refine Ops.pure rfl (Pure.assign rfl) ?_
    refine Ops.nil ?_
    refine Run.ret2 rfl rfl rfl ?_
    rw [(pc_bad c10).1, (pc_bad c10).2]
  · skip
    replace c10 := nF c10
    refine Run.skip ?_
    refine Run.seq ?_
    refine Run.region ?_
    refine Ops.pure rfl (Pure.assign rfl) ?_
    refine Ops.nil ?_
    refine Run.seq ?_
    refine Run.seq ?_
    refine Run.region ?_
    refine Ops.pure rfl (Pure.move rfl) ?_
    refine Ops.pure rfl (Pure.move rfl) ?_
    refine Ops.q rfl (QOp.call fn126 rfl (fun w hw => f_i_innerPoints w _ _ (by assumption))) ?_
    refine Ops.pure rfl (Pure.move rfl) ?_
    refine Ops.nil ?_
    refine Run.block ?_
    refine Run.loop (X := Nat) (fun k => [(6, .int .i64 (p3 k)), (13, .int .i64 (inn a b)), (14, .int .i64 k)]) (fun k => []) (fun k => k ≤ inn a b ∧ p3 k ≤ 2500) (fun k => inn a b - k) 0 ?_ ?_ ?_ ?_
    · exact ⟨Nat.zero_le _, by decide⟩
    · exact ⟨rfl, rfl, rfl, trivial⟩
    · exact Ext.refl _
    · intro k hinv0
      have hps := p3_succ k
      have hin := inn_eq c10
      refine Run.seq ?_
      refine Run.region ?_
      refine Ops.pure rfl (Pure.lss rfl rfl) ?_
      refine Ops.nil ?_
      refine Run.seq ?_
      refine Run.cond rfl (fun c15 => ?_) (fun c15 => ?_)
      · skip
        replace c15 := dT c15
        refine Run.skip ?_
        refine Run.seq ?_
        refine Run.block ?_
        refine Run.seq ?_
        refine Run.region ?_
        refine Ops.pure rfl (Pure.move rfl) ?_
        refine Ops.pure rfl (Pure.mul rfl rfl (by omega) (by omega)) ?_
        refine Ops.pure rfl (Pure.assign rfl) ?_
        refine Ops.nil ?_
        refine Run.seq ?_
        refine Run.region ?_
        refine Ops.pure rfl (Pure.move rfl) ?_
        refine Ops.pure rfl (Pure.gtr rfl rfl) ?_
        refine Ops.nil ?_
        refine Run.cond rfl (fun c19 => ?_) (fun c19 => ?_)
        · skip
          replace c19 := dT c19
          refine Run.seq ?_
          refine Run.region ?_
          refine Ops.pure rfl (Pure.assign rfl) ?_
          refine Ops.pure rfl (Pure.assign rfl) ?_
          refine Ops.nil ?_
          refine Run.ret2 rfl rfl rfl ?_
          have hmm := many_big (w := a) (h := b) (k := k + 1) (by omega) (by omega)
          rw [(pc_many c10 hmm).1, (pc_many c10 hmm).2]
        · skip
          replace c19 := dF c19
          refine Run.skip ?_
          refine Run.blk ?_
          refine Run.region ?_
          refine Ops.pure rfl (Pure.add rfl rfl (by omega) (by omega)) ?_
          refine Ops.pure rfl (Pure.move rfl) ?_
          refine Ops.nil ?_
          refine Run.asrt ?_
          exact ⟨k + 1, ⟨⟨by omega, by omega⟩, by omega⟩, ⟨by rw [hps, Int.natCast_mul, Int.mul_comm]; rfl, rfl, rfl, trivial⟩, Ext.nil _⟩
      · skip
        replace c15 := dF c15
        refine Run.exit rfl ?_
        refine Run.seq ?_
        refine Run.region ?_
        refine Ops.pure rfl (Pure.move rfl) ?_
        refine Ops.pure rfl (Pure.assign rfl) ?_
        refine Ops.pure rfl (Pure.assign rfl) ?_
        refine Ops.nil ?_
        refine Run.ret2 rfl rfl rfl ?_
        have hms := many_small (w := a) (h := b) (k := k) (by omega) hinv0.2
        rw [(pc_ok c10 hms.2).1, (pc_ok c10 hms.2).2, hms.1]

theorem pcN_bad {w h : Int} (h0 : ¬ pcE w h = 0) : pcN w h = 0 := by
  by_cases hs : SizeOk w h
  · by_cases hm : many w h ≤ 2500
    · exact absurd (pc_ok hs hm).1 h0
    · exact (pc_many hs hm).2
  · exact (pc_bad hs).2
theorem pc_zero {w h : Int} (h0 : pcE w h = 0) : SizeOk w h ∧ many w h ≤ 2500 ∧ pcN w h = many w h := by
  by_cases hs : SizeOk w h
  · by_cases hm : many w h ≤ 2500
    · exact ⟨hs, hm, (pc_ok hs hm).2⟩
    · rw [(pc_many hs hm).1] at h0; cases h0
  · rw [(pc_bad hs).1] at h0; cases h0

set_option maxRecDepth 4000 in
/-- spec.l12Code -/
theorem f_s_l12Code (w : World) (a : Int) (b : Int) (a0 : -9223372036854775808 ≤ a) (a1 : a ≤ 9223372036854775807) (b0 : -9223372036854775808 ≤ b) (b1 : b ≤ 9223372036854775807) : RetV Try.prog 107 [.int .i64 a, .int .i64 b] w (.int .i64 (pcE a b)) := by
  refine Ret.enter Try.func107 rfl Try.ntmps107 rfl ?_
  refine Run.seq ?_
  refine Run.region ?_
  refine Ops.pure rfl (Pure.assign rfl) ?_
  refine Ops.nil ?_
  refine Run.seq ?_
  refine Run.seq ?_
  refine Run.region ?_
  refine Ops.pure rfl (Pure.move rfl) ?_
  refine Ops.q rfl (QOp.call fn179 rfl (fun w hw => f_s_l02Side w _)) ?_
  refine Ops.pure rfl (Pure.not rfl) ?_
  refine Ops.pure rfl (Pure.move rfl) ?_
  refine Ops.guard rfl rfl rfl rfl (fun c8 => ?_) (fun c8 => ?_)
  · skip
    have c8' := nF c8
    refine Ops.pure rfl (Pure.move rfl) ?_
    refine Ops.guardY rfl rfl rfl c8 ?_
    refine Ops.q rfl (QOp.call fn179 rfl (fun w hw => f_s_l02Side w _)) ?_
    refine Ops.guardY rfl rfl rfl c8 ?_
    refine Ops.pure rfl (Pure.not rfl) ?_
    refine Ops.pure rfl (Pure.pickF rfl c8 rfl) ?_
    refine Ops.nil ?_
    refine Run.cond rfl (fun c12 => ?_) (fun c12 => ?_)
    · skip
      replace c12 := nT c12
      refine Run.seq ?_
      refine Run.region ?_
      refine Ops.pure rfl (Pure.assign rfl) ?_
      refine Ops.nil ?_
      refine Run.ret1 rfl rfl ?_
      rw [(pc_bad (by unfold SizeOk; first | omega | (simp_all; done) | (simp_all; omega))).1]
    · skip
      replace c12 := nF c12
      refine Run.skip ?_
      refine Run.seq ?_
      refine Run.seq ?_
      have hs : SizeOk a b := by unfold SizeOk; first | omega | (simp_all; done) | (simp_all; omega)
      refine Run.region ?_
      refine Ops.pure rfl (Pure.move rfl) ?_
      refine Ops.pure rfl (Pure.move rfl) ?_
      refine Ops.q rfl (QOp.call fn108 rfl (fun w hw => f_s_l12Many w _ _ (by assumption))) ?_
      refine Ops.pure rfl (Pure.gtr rfl rfl) ?_
      refine Ops.nil ?_
      refine Run.cond rfl (fun c16 => ?_) (fun c16 => ?_)
      · skip
        replace c16 := dT c16
        refine Run.seq ?_
        refine Run.region ?_
        refine Ops.pure rfl (Pure.assign rfl) ?_
        refine Ops.nil ?_
        refine Run.ret1 rfl rfl ?_
        rw [(pc_many hs (by omega)).1]
      · skip
        replace c16 := dF c16
        refine Run.skip ?_
        refine Run.seq ?_
        refine Run.region ?_
        refine Ops.pure rfl (Pure.assign rfl) ?_
        refine Ops.nil ?_
        refine Run.ret1 rfl rfl ?_
        rw [(pc_ok hs (by omega)).1]
  · skip
    replace c8 := Bool.eq_true_of_ne c8
    have c8' := nT c8
    refine Ops.guardN rfl rfl rfl rfl (by rw [c8]; decide) ?_
    refine Ops.guardN rfl rfl rfl rfl (by rw [c8]; decide) ?_
    refine Ops.pure rfl (Pure.pickT rfl c8 rfl) ?_
    refine Ops.nil ?_
    refine Run.condE rfl rfl ?_
    refine Run.seq ?_
    refine Run.region ?_
    refine Ops.pure rfl (Pure.assign rfl) ?_
    refine Ops.nil ?_
    refine Run.ret1 rfl rfl ?_
    rw [(pc_bad (by unfold SizeOk; first | omega | (simp_all; done) | (simp_all; omega))).1]

set_option maxRecDepth 4000 in
/-- impl.PanelCount -/
theorem f_i_PanelCount (w : World) (a : Int) (b : Int) (a0 : -9223372036854775808 ≤ a) (a1 : a ≤ 9223372036854775807) (b0 : -9223372036854775808 ≤ b) (b1 : b ≤ 9223372036854775807) : RetV Try.prog 39 [.int .i64 a, .int .i64 b] w (.tuple #[.int .i64 (pcN a b), .int .i64 (pcE a b)]) := by
  refine Ret.enter Try.func39 rfl Try.ntmps39 rfl ?_
  refine Run.seq ?_
  refine Run.region ?_
  refine Ops.pure rfl (Pure.assign rfl) ?_
  refine Ops.pure rfl (Pure.assign rfl) ?_
  refine Ops.nil ?_
  refine Run.seq ?_
  refine Run.region ?_
  refine Ops.pure rfl (Pure.move rfl) ?_
  refine Ops.pure rfl (Pure.move rfl) ?_
  refine Ops.q rfl (QOp.call fn111 rfl (fun w hw => f_i_panelCount w _ _ (by assumption) (by assumption) (by assumption) (by assumption))) ?_
  refine Ops.pure rfl (Pure.extract rfl rfl) ?_
  refine Ops.pure rfl (Pure.extract rfl rfl) ?_
  refine Ops.pure rfl (Pure.assign rfl) ?_
  refine Ops.pure rfl (Pure.assign rfl) ?_
  refine Ops.nil ?_
  refine Run.ret2 rfl rfl rfl ?_
  rfl

set_option maxRecDepth 4000 in
/-- spec.PanelCount -/
theorem f_s_PanelCount (w : World) (a : Int) (b : Int) (a0 : -9223372036854775808 ≤ a) (a1 : a ≤ 9223372036854775807) (b0 : -9223372036854775808 ≤ b) (b1 : b ≤ 9223372036854775807) : RetV Try.prog 40 [.int .i64 a, .int .i64 b] w (.tuple #[.int .i64 (pcN a b), .int .i64 (pcE a b)]) := by
  refine Ret.enter Try.func40 rfl Try.ntmps40 rfl ?_
  refine Run.seq ?_
  refine Run.region ?_
  refine Ops.pure rfl (Pure.assign rfl) ?_
  refine Ops.pure rfl (Pure.assign rfl) ?_
  refine Ops.nil ?_
  refine Run.seq ?_
  refine Run.region ?_
  refine Ops.pure rfl (Pure.move rfl) ?_
  refine Ops.pure rfl (Pure.move rfl) ?_
  refine Ops.q rfl (QOp.call fn107 rfl (fun w hw => f_s_l12Code w _ _ (by assumption) (by assumption) (by assumption) (by assumption))) ?_
  refine Ops.pure rfl (Pure.assign rfl) ?_
  refine Ops.nil ?_
  refine Run.seq ?_
  refine Run.seq ?_
  refine Run.region ?_
  refine Ops.pure rfl (Pure.move rfl) ?_
  refine Ops.pure rfl (Pure.neq rfl rfl) ?_
  refine Ops.nil ?_
  refine Run.cond rfl (fun c11 => ?_) (fun c11 => ?_)
  · skip
    replace c11 := nT c11
    refine Run.seq ?_
    refine Run.region ?_
    refine Ops.pure rfl (Pure.move rfl) ?_
    refine Ops.pure rfl (Pure.assign rfl) ?_
    refine Ops.pure rfl (Pure.assign rfl) ?_
    refine Ops.nil ?_
    refine Run.ret2 rfl rfl rfl ?_
    rw [pcN_bad c11]
  · skip
    replace c11 := nF c11
    obtain ⟨hs, hmm, hpn⟩ := pc_zero c11
    refine Run.skip ?_
    refine Run.seq ?_
    refine Run.region ?_
    refine Ops.pure rfl (Pure.move rfl) ?_
    refine Ops.pure rfl (Pure.move rfl) ?_
    refine Ops.q rfl (QOp.call fn108 rfl (fun w hw => f_s_l12Many w _ _ (by assumption))) ?_
    refine Ops.pure rfl (Pure.assign rfl) ?_
    refine Ops.pure rfl (Pure.assign rfl) ?_
    refine Ops.nil ?_
    refine Run.ret2 rfl rfl rfl ?_
    rw [c11, hpn]

end Go.Proofs.Ytmfinopdokkjcaa
