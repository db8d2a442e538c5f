/- Contracts of functions, printed by program from annotations. -/
import Derived.Test.YtkabgeoafanmaaaFacts
namespace Go.Proofs.Ytkabgeoafanmaaa
open Go Go.AW Go.RowKit
set_option linter.unusedVariables false
set_option linter.unusedSimpArgs false

abbrev encP (p : Int × Bool) : List Value := [.int .i64 p.1, .bool p.2]
theorem encP_len (p : Int × Bool) : (encP p).length = 2 := rfl
abbrev passes (l : List (Int × Bool)) : List Value := l.flatMap encP

def altB (l : List (Int × Bool)) : Bool := (List.range l.length).all fun i => (l.getD i (0, false)).2 != (l.getD ((i + 1) % l.length) (0, false)).2

theorem altB_true {l : List (Int × Bool)} {k : Nat} (hk : ¬ k < l.length) (h : ∀ j, j < k → (l.getD j (0, false)).2 ≠ (l.getD ((j + 1) % l.length) (0, false)).2) : altB l = true := by
  unfold altB
  rw [List.all_eq_true]
  intro j hj
  have := h j (by have := List.mem_range.1 hj; omega)
  simpa [bne_iff_ne] using this
theorem altB_false {l : List (Int × Bool)} {k : Nat} (hk : k < l.length) (h : (l.getD k (0, false)).2 = (l.getD ((k + 1) % l.length) (0, false)).2) : altB l = false := by
  unfold altB
  rw [List.all_eq_false]
  exact ⟨k, List.mem_range.2 hk, by rw [h]; simp⟩

set_option maxRecDepth 4000 in
/-- laws.eqPass -/
theorem f_l_eqPass (w : World) (p : Int × Bool) (q : Int × Bool) : RetV Try.prog 73 [.agg (encP p).toArray, .agg (encP q).toArray] w (.bool (decide (p = q))) := by
  obtain ⟨p1, p2⟩ := p
  obtain ⟨q1, q2⟩ := q
  refine Ret.enter Try.func73 rfl Try.ntmps73 rfl ?_
  refine Run.seq ?_
  refine Run.region ?_
  refine Ops.go rfl (Loud.box rfl rfl) ?_
  rintro _ _ ⟨b2, rfl, rfl⟩
  refine Ops.go rfl (Loud.box rfl rfl) ?_
  rintro _ _ ⟨b3, rfl, rfl⟩
  refine Ops.pure rfl (Pure.assign rfl) ?_
  refine Ops.nil ?_
  refine Run.seq ?_
  refine Run.seq ?_
  refine Run.region ?_
  refine Ops.pure rfl (Pure.fieldAddrB fld78_0 rfl) ?_
  refine Ops.pure rfl (Pure.ldB 1 rfl cell2 rfl rfl) ?_
  refine Ops.pure rfl (Pure.fieldAddrB fld78_0 rfl) ?_
  refine Ops.pure rfl (Pure.ldB 0 rfl cell2 rfl rfl) ?_
  refine Ops.pure rfl (Pure.neq rfl rfl) ?_
  refine Ops.nil ?_
  refine Run.cond rfl (fun c9 => ?_) (fun c9 => ?_)
  · skip
    replace c9 := nT c9
    refine Run.seq ?_
    refine Run.region ?_
    refine Ops.pure rfl (Pure.assign rfl) ?_
    refine Ops.nil ?_
    refine Run.ret1 rfl rfl ?_
    simp_all
  · skip
    replace c9 := nF c9
    refine Run.skip ?_
    refine Run.seq ?_
    refine Run.seq ?_
    refine Run.region ?_
    refine Ops.pure rfl (Pure.fieldAddrB fld78_1 rfl) ?_
    refine Ops.pure rfl (Pure.ldB 1 rfl cell4 rfl rfl) ?_
    refine Ops.pure rfl (Pure.fieldAddrB fld78_1 rfl) ?_
    refine Ops.pure rfl (Pure.ldB 0 rfl cell4 rfl rfl) ?_
    refine Ops.pure rfl (Pure.neqB und4 rfl rfl) ?_
    refine Ops.nil ?_
    refine Run.cond rfl (fun c14 => ?_) (fun c14 => ?_)
    · skip
      replace c14 := nT c14
      refine Run.seq ?_
      refine Run.region ?_
      refine Ops.pure rfl (Pure.assign rfl) ?_
      refine Ops.nil ?_
      refine Run.ret1 rfl rfl ?_
      simp_all
    · skip
      replace c14 := nF c14
      refine Run.skip ?_
      refine Run.seq ?_
      refine Run.region ?_
      refine Ops.pure rfl (Pure.assign rfl) ?_
      refine Ops.nil ?_
      refine Run.ret1 rfl rfl ?_
      simp_all

set_option maxRecDepth 4000 in
/-- laws.eqPassS -/
theorem f_l_eqPassS (w : World) (v : Value) (u : Value) (l : List (Int × Bool)) (m : List (Int × Bool)) (hv : Rd w v 2 l.length (passes l)) (hu : Rd w u 2 m.length (passes m)) (hl : l.length ≤ 1048576) (hm : m.length ≤ 1048576) : RetV Try.prog 38 [v, u] w (.bool (decide (l = m))) := by
  refine Ret.enter Try.func38 rfl Try.ntmps38 rfl ?_
  refine Run.seq ?_
  refine Run.region ?_
  refine Ops.pure rfl (Pure.assign rfl) ?_
  refine Ops.nil ?_
  refine Run.seq ?_
  refine Run.seq ?_
  refine Run.region ?_
  refine Ops.pure rfl (Pure.move rfl) ?_
  refine Ops.pure rfl (Pure.len sl47 (RdL.old hv) rfl) ?_
  refine Ops.pure rfl (Pure.move rfl) ?_
  refine Ops.pure rfl (Pure.len sl47 (RdL.old hu) rfl) ?_
  refine Ops.pure rfl (Pure.neq rfl rfl) ?_
  refine Ops.nil ?_
  refine Run.cond rfl (fun c10 => ?_) (fun c10 => ?_)
  · skip
    replace c10 := nT c10
    refine Run.seq ?_
    refine Run.region ?_
    refine Ops.pure rfl (Pure.assign rfl) ?_
    refine Ops.nil ?_
    refine Run.ret1 rfl rfl ?_
    rw [decide_eq_false (by rintro rfl; exact c10 rfl)]
  · skip
    replace c10 := nF c10
    have hlen : l.length = m.length := by omega
    refine Run.skip ?_
    refine Run.seq ?_
    refine Run.seq ?_
    refine Run.region ?_
    refine Ops.pure rfl (Pure.assign rfl) ?_
    refine Ops.nil ?_
    refine Run.block ?_
    refine Run.loop (X := Nat) (fun k => [(0, v), (1, u), (5, .int .i64 k)]) (fun k => []) (fun k => k ≤ l.length ∧ ∀ j, j < k → l.getD j (0, false) = m.getD j (0, false)) (fun k => l.length - k) 0 ?_ ?_ ?_ ?_
    · exact ⟨by omega, by omega⟩
    · exact ⟨rfl, rfl, rfl, trivial⟩
    · exact Ext.refl _
    · intro k hinv0
      refine Run.seq ?_
      refine Run.seq ?_
      refine Run.region ?_
      refine Ops.pure rfl (Pure.move rfl) ?_
      refine Ops.pure rfl (Pure.move rfl) ?_
      refine Ops.pure rfl (Pure.len sl47 (RdL.old hv) rfl) ?_
      refine Ops.pure rfl (Pure.lss rfl rfl) ?_
      refine Ops.nil ?_
      refine Run.cond rfl (fun c14 => ?_) (fun c14 => ?_)
      · skip
        replace c14 := dT c14
        refine Run.skip ?_
        refine Run.seq ?_
        refine Run.block ?_
        refine Run.seq ?_
        refine Any.start follows ?_
        refine Any.take 0 rfl (by kernel_rfl) rfl (QOp.pure (Pure.move rfl)) ?_
        refine Any.take 1 rfl (by kernel_rfl) rfl (QOp.pure (Pure.move rfl)) ?_
        refine Any.take 2 rfl (by kernel_rfl) rfl (QOp.pure (Pure.idxN sl47 (RdL.old hv) rfl rfl (by first | assumption | omega | (simp; omega)))) ?_
        refine Any.take 3 rfl (by kernel_rfl) rfl (QOp.pure (Pure.ldA cell78 rfl (RdL.old hv) (seg_get encP_len (by omega) (0, false)) rfl (by decide))) ?_
        refine Any.take 4 rfl (by kernel_rfl) rfl (QOp.pure (Pure.move rfl)) ?_
        refine Any.take 5 rfl (by kernel_rfl) rfl (QOp.pure (Pure.move rfl)) ?_
        refine Any.take 6 rfl (by kernel_rfl) rfl (QOp.pure (Pure.idxN sl47 (RdL.old hu) rfl rfl (by first | assumption | omega | (simp; omega)))) ?_
        refine Any.take 7 rfl (by kernel_rfl) rfl (QOp.pure (Pure.ldA cell78 rfl (RdL.old hu) (seg_get encP_len (by omega) (0, false)) rfl (by decide))) ?_
        refine Any.take 8 rfl (by kernel_rfl) rfl (QOp.call fn73 rfl (fun w hw => f_l_eqPass w _ _)) ?_
        refine Any.take 9 rfl (by kernel_rfl) rfl (QOp.pure (Pure.not rfl)) ?_
        refine Any.done (by kernel_rfl) ?_
        refine Run.cond rfl (fun c26 => ?_) (fun c26 => ?_)
        · skip
          replace c26 := nT c26
          refine Run.seq ?_
          refine Run.region ?_
          refine Ops.pure rfl (Pure.assign rfl) ?_
          refine Ops.nil ?_
          refine Run.ret1 rfl rfl ?_
          rw [decide_eq_false (by rintro rfl; simp at c26)]
        · skip
          replace c26 := nF c26
          refine Run.skip ?_
          refine Run.blk ?_
          refine Run.region ?_
          refine Ops.pure rfl (Pure.move rfl) ?_
          refine Ops.pure rfl (Pure.add rfl rfl (by omega) (by omega)) ?_
          refine Ops.pure rfl (Pure.assign rfl) ?_
          refine Ops.nil ?_
          refine Run.asrt ?_
          exact ⟨k + 1, ⟨⟨by omega, fun j hj => step_lt (p := fun j => l.getD j (0, false) = m.getD j (0, false)) hj hinv0.2 (by simpa using c26)⟩, by omega⟩, ⟨rfl, rfl, rfl, trivial⟩, Ext.nil _⟩
      · skip
        replace c14 := dF c14
        refine Run.exit rfl ?_
        refine Run.seq ?_
        refine Run.region ?_
        refine Ops.pure rfl (Pure.assign rfl) ?_
        refine Ops.nil ?_
        refine Run.ret1 rfl rfl ?_
        rw [decide_eq_true (ext_getD (0, false) hlen (fun j hj => hinv0.2 j (by omega)))]

end Go.Proofs.Ytkabgeoafanmaaa
