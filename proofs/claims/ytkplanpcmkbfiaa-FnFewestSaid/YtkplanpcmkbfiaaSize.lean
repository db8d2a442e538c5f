/- Contracts of functions, printed by program from annotations. -/
import Derived.Test.YtkplanpcmkbfiaaInts
namespace Go.Proofs.Ytkplanpcmkbfiaa
open Go Go.AW Go.RowKit
set_option linter.unusedVariables false
set_option linter.unusedSimpArgs false

def SizeOk (w h : Int) : Prop := 1 ≤ w ∧ w ≤ 8 ∧ 1 ≤ h ∧ h ≤ 8
instance (w h : Int) : Decidable (SizeOk w h) := by unfold SizeOk; infer_instance
theorem mul_bd {a b A B : Int} (h1 : 0 ≤ a) (h2 : a ≤ A) (h3 : 0 ≤ b) (h4 : b ≤ B) : 0 ≤ a * b ∧ a * b ≤ A * B :=
  ⟨Int.mul_nonneg h1 h3, Int.le_trans (Int.mul_le_mul_of_nonneg_right h2 h3) (Int.mul_le_mul_of_nonneg_left h4 (Int.le_trans h1 h2))⟩
/-- the points inside -/
def inn (w h : Int) : Nat := (w * (h - 1) + h * (w - 1)).toNat
theorem inn_eq {w h : Int} (hs : SizeOk w h) : w * (h - 1) + h * (w - 1) = inn w h ∧ inn w h ≤ 112 ∧ 0 ≤ w * (h - 1) ∧ w * (h - 1) ≤ 56 ∧ 0 ≤ h * (w - 1) ∧ h * (w - 1) ≤ 56 := by
  obtain ⟨h1, h2, h3, h4⟩ := hs
  obtain ⟨e1, e2⟩ := mul_bd (a := w) (b := h - 1) (A := 8) (B := 7) (by omega) h2 (by omega) (by omega)
  obtain ⟨e3, e4⟩ := mul_bd (a := h) (b := w - 1) (A := 8) (B := 7) (by omega) h4 (by omega) (by omega)
  unfold inn
  omega
def p3 (k : Nat) : Nat := 3 ^ k
theorem p3_succ (k : Nat) : p3 (k + 1) = 3 * p3 k := by unfold p3; rw [Nat.pow_succ]; omega
theorem p3_mono {i k : Nat} (h : i ≤ k) : p3 i ≤ p3 k := Nat.pow_le_pow_right (by omega) h
def many (w h : Int) : Nat := min 2501 (p3 (inn w h))
theorem min_pow (k : Nat) : min 2501 (3 * min 2501 (p3 k)) = min 2501 (p3 (k + 1)) := by rw [p3_succ]; omega
def pcE (w h : Int) : Int := if SizeOk w h then (if many w h ≤ 2500 then 0 else 5) else 2
def pcN (w h : Int) : Int := if SizeOk w h ∧ many w h ≤ 2500 then (many w h : Int) else 0
theorem pc_bad {w h : Int} (hs : ¬ SizeOk w h) : pcE w h = 2 ∧ pcN w h = 0 := by unfold pcE pcN; rw [if_neg hs, if_neg (fun hh => hs hh.1)]; exact ⟨rfl, rfl⟩
theorem pc_many {w h : Int} (hs : SizeOk w h) (hm : ¬ many w h ≤ 2500) : pcE w h = 5 ∧ pcN w h = 0 := by unfold pcE pcN; rw [if_pos hs, if_neg hm, if_neg (fun hh => hm hh.2)]; exact ⟨rfl, rfl⟩
theorem pc_ok {w h : Int} (hs : SizeOk w h) (hm : many w h ≤ 2500) : pcE w h = 0 ∧ pcN w h = many w h := by unfold pcE pcN; rw [if_pos hs, if_pos hm, if_pos ⟨hs, hm⟩]; exact ⟨rfl, rfl⟩
theorem many_big {w h : Int} {k : Nat} (hk : k ≤ inn w h) (h3 : ¬ p3 k ≤ 2500) : ¬ many w h ≤ 2500 := by
  have := p3_mono hk
  unfold many
  omega
theorem many_small {w h : Int} {k : Nat} (hk : k = inn w h) (h3 : p3 k ≤ 2500) : many w h = p3 k ∧ many w h ≤ 2500 := by
  subst hk
  unfold many
  omega

set_option maxRecDepth 4000 in
/-- spec.l02Side -/
theorem f_s_l02Side (w : World) (a : Int) : RetV Try.prog 131 [.int .i64 a] w (.bool (decide (1 ≤ a ∧ a ≤ 8))) := by
  refine Ret.enter Try.func131 rfl Try.ntmps131 rfl ?_
  refine Run.seq ?_
  refine Run.region ?_
  refine Ops.pure rfl (Pure.assign rfl) ?_
  refine Ops.nil ?_
  refine Run.seq ?_
  refine Run.region ?_
  refine Ops.pure rfl (Pure.move rfl) ?_
  refine Ops.q rfl (QOp.call fn121 rfl (fun w hw => f_s_l00In w _ _ _)) ?_
  refine Ops.pure rfl (Pure.assign rfl) ?_
  refine Ops.nil ?_
  refine Run.ret1 rfl rfl ?_
  rfl

set_option maxRecDepth 4000 in
/-- impl.validSize -/
theorem f_i_validSize (w : World) (a : Int) (b : Int) : RetV Try.prog 143 [.int .i64 a, .int .i64 b] w (.bool (decide (SizeOk a b))) := by
  refine Ret.enter Try.func143 rfl Try.ntmps143 rfl ?_
  refine Run.seq ?_
  refine Run.region ?_
  refine Ops.pure rfl (Pure.assign rfl) ?_
  refine Ops.nil ?_
  refine Run.seq ?_
  refine Run.region ?_
  refine Ops.pure rfl (Pure.move rfl) ?_
  refine Ops.q rfl (QOp.call fn128 rfl (fun w hw => f_i_inRange w _ _ _)) ?_
  refine Ops.pure rfl (Pure.move rfl) ?_
  refine Ops.guard rfl rfl rfl rfl (fun c7 => ?_) (fun c7 => ?_)
  · skip
    have c7' := dT c7
    refine Ops.pure rfl (Pure.move rfl) ?_
    refine Ops.guardY rfl rfl rfl c7 ?_
    refine Ops.q rfl (QOp.call fn128 rfl (fun w hw => f_i_inRange w _ _ _)) ?_
    refine Ops.pure rfl (Pure.pickT rfl c7 rfl) ?_
    refine Ops.pure rfl (Pure.assign rfl) ?_
    refine Ops.nil ?_
    refine Run.ret1 rfl rfl ?_
    first
      | rfl
      | (simp only [Value.bool.injEq, decide_eq_decide]; unfold SizeOk; omega)
      | (rw [decide_eq_false (by unfold SizeOk; omega)])
  · skip
    replace c7 := Bool.eq_false_of_ne c7
    have c7' := dF c7
    refine Ops.guardN rfl rfl rfl rfl (by rw [c7]; decide) ?_
    refine Ops.pure rfl (Pure.pickF rfl c7 rfl) ?_
    refine Ops.pure rfl (Pure.assign rfl) ?_
    refine Ops.nil ?_
    refine Run.ret1 rfl rfl ?_
    first
      | rfl
      | (simp only [Value.bool.injEq, decide_eq_decide]; unfold SizeOk; omega)
      | (rw [decide_eq_false (by unfold SizeOk; omega)])

set_option maxRecDepth 4000 in
/-- spec.l02Inner -/
theorem f_s_l02Inner (w : World) (a : Int) (b : Int) (hs : SizeOk a b) : RetV Try.prog 130 [.int .i64 a, .int .i64 b] w (.int .i64 (inn a b : Int)) := by
  have hin := inn_eq hs
  obtain ⟨hs1, hs2, hs3, hs4⟩ := id hs
  refine Ret.enter Try.func130 rfl Try.ntmps130 rfl ?_
  refine Run.seq ?_
  refine Run.region ?_
  refine Ops.pure rfl (Pure.assign rfl) ?_
  refine Ops.nil ?_
  refine Run.seq ?_
  refine Run.region ?_
  refine Ops.pure rfl (Pure.move rfl) ?_
  refine Ops.pure rfl (Pure.move rfl) ?_
  refine Ops.pure rfl (Pure.sub rfl rfl (by omega) (by omega)) ?_
  refine Ops.pure rfl (Pure.mul rfl rfl (by omega) (by omega)) ?_
  refine Ops.pure rfl (Pure.move rfl) ?_
  refine Ops.pure rfl (Pure.move rfl) ?_
  refine Ops.pure rfl (Pure.sub rfl rfl (by omega) (by omega)) ?_
  refine Ops.pure rfl (Pure.mul rfl rfl (by omega) (by omega)) ?_
  refine Ops.pure rfl (Pure.add rfl rfl (by omega) (by omega)) ?_
  refine Ops.pure rfl (Pure.assign rfl) ?_
  refine Ops.nil ?_
  refine Run.ret1 rfl rfl ?_
  rw [← hin.1]

set_option maxRecDepth 4000 in
/-- impl.innerPoints -/
theorem f_i_innerPoints (w : World) (a : Int) (b : Int) (hs : SizeOk a b) : RetV Try.prog 144 [.int .i64 a, .int .i64 b] w (.int .i64 (inn a b : Int)) := by
  have hin := inn_eq hs
  obtain ⟨hs1, hs2, hs3, hs4⟩ := id hs
  refine Ret.enter Try.func144 rfl Try.ntmps144 rfl ?_
  refine Run.seq ?_
  refine Run.region ?_
  refine Ops.pure rfl (Pure.assign rfl) ?_
  refine Ops.nil ?_
  refine Run.seq ?_
  refine Run.region ?_
  refine Ops.pure rfl (Pure.move rfl) ?_
  refine Ops.pure rfl (Pure.move rfl) ?_
  refine Ops.pure rfl (Pure.sub rfl rfl (by omega) (by omega)) ?_
  refine Ops.pure rfl (Pure.mul rfl rfl (by omega) (by omega)) ?_
  refine Ops.pure rfl (Pure.move rfl) ?_
  refine Ops.pure rfl (Pure.move rfl) ?_
  refine Ops.pure rfl (Pure.sub rfl rfl (by omega) (by omega)) ?_
  refine Ops.pure rfl (Pure.mul rfl rfl (by omega) (by omega)) ?_
  refine Ops.pure rfl (Pure.add rfl rfl (by omega) (by omega)) ?_
  refine Ops.pure rfl (Pure.assign rfl) ?_
  refine Ops.nil ?_
  refine Run.ret1 rfl rfl ?_
  rw [← hin.1]

theorem pcN_bad {w h : Int} (h0 : ¬ pcE w h = 0) : pcN w h = 0 := by
  by_cases hs : SizeOk w h
  · by_cases hm : many w h ≤ 2500
    · exact absurd (pc_ok hs hm).1 h0
    · exact (pc_many hs hm).2
  · exact (pc_bad hs).2
theorem pc_zero {w h : Int} (h0 : pcE w h = 0) : SizeOk w h ∧ many w h ≤ 2500 ∧ pcN w h = many w h := by
  by_cases hs : SizeOk w h
  · by_cases hm : many w h ≤ 2500
    · exact ⟨hs, hm, (pc_ok hs hm).2⟩
    · rw [(pc_many hs hm).1] at h0; cases h0
  · rw [(pc_bad hs).1] at h0; cases h0

end Go.Proofs.Ytkplanpcmkbfiaa
