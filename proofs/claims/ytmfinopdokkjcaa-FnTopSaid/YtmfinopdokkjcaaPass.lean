/- Contracts of functions, printed by program from annotations. -/
import Derived.Test.YtmfinopdokkjcaaFacts
namespace Go.Proofs.Ytmfinopdokkjcaa
open Go Go.AW Go.RowKit
set_option linter.unusedVariables false
set_option linter.unusedSimpArgs false

abbrev encP (p : Int × Bool) : List Value := [.int .i64 p.1, .bool p.2]
theorem encP_len (p : Int × Bool) : (encP p).length = 2 := rfl
abbrev passes (l : List (Int × Bool)) : List Value := l.flatMap encP

def altB (l : List (Int × Bool)) : Bool := (List.range l.length).all fun i => (l.getD i (0, false)).2 != (l.getD ((i + 1) % l.length) (0, false)).2

theorem altB_true {l : List (Int × Bool)} {k : Nat} (hk : ¬ k < l.length) (h : ∀ j, j < k → (l.getD j (0, false)).2 ≠ (l.getD ((j + 1) % l.length) (0, false)).2) : altB l = true := by
  unfold altB
  rw [List.all_eq_true]
  intro j hj
  have := h j (by have := List.mem_range.1 hj; omega)
  simpa [bne_iff_ne] using this
theorem altB_false {l : List (Int × Bool)} {k : Nat} (hk : k < l.length) (h : (l.getD k (0, false)).2 = (l.getD ((k + 1) % l.length) (0, false)).2) : altB l = false := by
  unfold altB
  rw [List.all_eq_false]
  exact ⟨k, List.mem_range.2 hk, by rw [h]; simp⟩

set_option maxRecDepth 4000 in
/-- spec.AlternatesOn -/
theorem f_s_AlternatesOn (w : World) (v : Value) (l : List (Int × Bool)) (hv : Rd w v 2 l.length (passes l)) (hl : l.length ≤ 1048576) : RetV Try.prog 85 [v] w (.bool (altB l)) := by
  refine Ret.enter Try.func85 rfl Try.ntmps85 rfl ?_
  refine Run.seq ?_
  refine Run.region ?_
  refine Ops.pure rfl (Pure.assign rfl) ?_
  refine Ops.nil ?_
  refine Run.seq ?_
  refine Run.seq ?_
  refine Run.region ?_
  refine Ops.pure rfl (Pure.assign rfl) ?_
  refine Ops.nil ?_
  refine Run.block ?_
  refine Run.loop (X := Nat) (fun k => [(0, v), (3, .int .i64 k)]) (fun k => []) (fun k => k ≤ l.length ∧ ∀ j, j < k → (l.getD j (0, false)).2 ≠ (l.getD ((j + 1) % l.length) (0, false)).2) (fun k => l.length - k) 0 ?_ ?_ ?_ ?_
  · exact ⟨by omega, by omega⟩
  · exact ⟨rfl, rfl, trivial⟩
  · exact Ext.refl _
  · intro k hinv0
    refine Run.seq ?_
    refine Run.seq ?_
    refine Run.region ?_
    refine Ops.pure rfl (Pure.move rfl) ?_
    refine Ops.pure rfl (Pure.move rfl) ?_
    refine Ops.pure rfl (Pure.len sl88 (RdL.old hv) rfl) ?_
    refine Ops.pure rfl (Pure.lss rfl rfl) ?_
    refine Ops.nil ?_
    refine Run.cond rfl (fun c7 => ?_) (fun c7 => ?_)
    · skip
      replace c7 := dT c7
      refine Run.skip ?_
      refine Run.seq ?_
      refine Run.block ?_
      refine Run.seq ?_
      have hm : (k + 1) % l.length < l.length := Nat.mod_lt _ (by omega)
      refine Any.start follows ?_
      refine Any.take 0 rfl (by kernel_rfl) rfl (QOp.pure (Pure.move rfl)) ?_
      refine Any.take 1 rfl (by kernel_rfl) rfl (QOp.pure (Pure.move rfl)) ?_
      refine Any.take 2 rfl (by kernel_rfl) rfl (QOp.pure (Pure.idxN sl88 (RdL.old hv) rfl rfl (by first | assumption | omega | (simp; omega)))) ?_
      refine Any.take 3 rfl (by kernel_rfl) rfl (QOp.pure (Pure.fieldAddr fld108_1 rfl (RdL.old hv) (by first | omega | (simp; omega)))) ?_
      refine Any.take 4 rfl (by kernel_rfl) rfl (QOp.pure (Pure.ld cell4 rfl (RdL.old hv) (fget encP_len (by omega) (0, false) rfl))) ?_
      refine Any.take 5 rfl (by kernel_rfl) rfl (QOp.pure (Pure.move rfl)) ?_
      refine Any.take 6 rfl (by kernel_rfl) rfl (QOp.pure (Pure.move rfl)) ?_
      refine Any.take 7 rfl (by kernel_rfl) rfl (QOp.pure (Pure.add rfl rfl (by omega) (by omega))) ?_
      refine Any.take 8 rfl (by kernel_rfl) rfl (QOp.pure (Pure.move rfl)) ?_
      refine Any.take 9 rfl (by kernel_rfl) rfl (QOp.pure (Pure.len sl88 (RdL.old hv) rfl)) ?_
      refine Any.take 10 rfl (by kernel_rfl) rfl (QOp.pure (Pure.remN rfl rfl (by omega))) ?_
      refine Any.take 11 rfl (by kernel_rfl) rfl (QOp.pure (Pure.idxN sl88 (RdL.old hv) rfl rfl (by first | assumption | omega | (simp; omega)))) ?_
      refine Any.take 12 rfl (by kernel_rfl) rfl (QOp.pure (Pure.fieldAddr fld108_1 rfl (RdL.old hv) (by first | omega | (simp; omega)))) ?_
      refine Any.take 13 rfl (by kernel_rfl) rfl (QOp.pure (Pure.ld cell4 rfl (RdL.old hv) (fget encP_len (by omega) (0, false) rfl))) ?_
      refine Any.take 14 rfl (by kernel_rfl) rfl (QOp.pure (Pure.eqlB und4 rfl rfl)) ?_
      refine Any.done (by kernel_rfl) ?_
      refine Run.cond rfl (fun c24 => ?_) (fun c24 => ?_)
      · skip
        replace c24 := dT c24
        refine Run.seq ?_
        refine Run.region ?_
        refine Ops.pure rfl (Pure.assign rfl) ?_
        refine Ops.nil ?_
        refine Run.ret1 rfl rfl ?_
        rw [altB_false (k := k) (by omega) (by simpa using c24)]
      · skip
        replace c24 := dF c24
        refine Run.skip ?_
        refine Run.blk ?_
        refine Run.region ?_
        refine Ops.pure rfl (Pure.move rfl) ?_
        refine Ops.pure rfl (Pure.add rfl rfl (by omega) (by omega)) ?_
        refine Ops.pure rfl (Pure.assign rfl) ?_
        refine Ops.nil ?_
        refine Run.asrt ?_
        exact ⟨k + 1, ⟨⟨by omega, fun j hj => step_lt (p := fun j => (l.getD j (0, false)).2 ≠ (l.getD ((j + 1) % l.length) (0, false)).2) hj hinv0.2 (by simpa using c24)⟩, by omega⟩, ⟨rfl, rfl, trivial⟩, Ext.nil _⟩
    · skip
      replace c7 := dF c7
      refine Run.exit rfl ?_
      refine Run.seq ?_
      refine Run.region ?_
      refine Ops.pure rfl (Pure.assign rfl) ?_
      refine Ops.nil ?_
      refine Run.ret1 rfl rfl ?_
      rw [altB_true (k := k) (by omega) hinv0.2]

end Go.Proofs.Ytmfinopdokkjcaa
