/- Contracts of functions, printed by program from annotations. -/
import Derived.Test.YtpldgghkhknpnaaFacts
namespace Go.Proofs.Ytpldgghkhknpnaa
open Go Go.AW Go.RowKit
set_option linter.unusedVariables false
set_option linter.unusedSimpArgs false

abbrev encP (p : Int × Bool) : List Value := [.int .i64 p.1, .bool p.2]
theorem encP_len (p : Int × Bool) : (encP p).length = 2 := rfl
abbrev passes (l : List (Int × Bool)) : List Value := l.flatMap encP

def altB (l : List (Int × Bool)) : Bool := (List.range l.length).all fun i => (l.getD i (0, false)).2 != (l.getD ((i + 1) % l.length) (0, false)).2

theorem altB_true {l : List (Int × Bool)} {k : Nat} (hk : ¬ k < l.length) (h : ∀ j, j < k → (l.getD j (0, false)).2 ≠ (l.getD ((j + 1) % l.length) (0, false)).2) : altB l = true := by
  unfold altB
  rw [List.all_eq_true]
  intro j hj
  have := h j (by have := List.mem_range.1 hj; omega)
  simpa [bne_iff_ne] using this
theorem altB_false {l : List (Int × Bool)} {k : Nat} (hk : k < l.length) (h : (l.getD k (0, false)).2 = (l.getD ((k + 1) % l.length) (0, false)).2) : altB l = false := by
  unfold altB
  rw [List.all_eq_false]
  exact ⟨k, List.mem_range.2 hk, by rw [h]; simp⟩

set_option maxRecDepth 4000 in
/-- impl.AlternatesOn -/
theorem f_i_AlternatesOn (w : World) (v : Value) (l : List (Int × Bool)) (hv : Rd w v 2 l.length (passes l)) (hl : l.length ≤ 1048576) : RetV Try.prog 18 [v] w (.bool (altB l)) := by
  refine Ret.enter Try.func18 rfl Try.ntmps18 rfl ?_
  refine Run.seq ?_
  refine Run.region ?_
  refine Ops.pure rfl (Pure.assign rfl) ?_
  refine Ops.nil ?_
  refine Run.seq ?_
  refine Run.seq ?_
  refine Run.region ?_
  refine Ops.pure rfl (Pure.move rfl) ?_
  refine Ops.pure rfl (Pure.len sl25 (RdL.old hv) rfl) ?_
  refine Ops.pure rfl (Pure.move rfl) ?_
  refine Ops.nil ?_
  refine Run.block ?_
  refine Run.loop (X := Nat) (fun k => [(0, v), (5, v), (6, .int .i64 l.length), (7, .int .i64 k)]) (fun k => []) (fun k => k ≤ l.length ∧ ∀ j, j < k → (l.getD j (0, false)).2 ≠ (l.getD ((j + 1) % l.length) (0, false)).2) (fun k => l.length - k) 0 ?_ ?_ ?_ ?_
  · exact ⟨by omega, by omega⟩
  · exact ⟨rfl, rfl, rfl, rfl, trivial⟩
  · exact Ext.refl _
  · intro k hinv0
    refine Run.seq ?_
    refine Run.region ?_
    refine Ops.pure rfl (Pure.lss rfl rfl) ?_
    refine Ops.nil ?_
    refine Run.seq ?_
    refine Run.cond rfl (fun c8 => ?_) (fun c8 => ?_)
    · skip
      replace c8 := dT c8
      refine Run.skip ?_
      refine Run.seq ?_
      refine Run.block ?_
      refine Run.seq ?_
      refine Run.region ?_
      refine Ops.pure rfl (Pure.move rfl) ?_
      refine Ops.pure rfl (Pure.idxN sl25 (RdL.old hv) rfl rfl (by first | assumption | omega | (simp; omega))) ?_
      refine Ops.pure rfl (Pure.ldA cell50 rfl (RdL.old hv) (seg_get encP_len (by omega) (0, false)) rfl (by decide)) ?_
      refine Ops.go rfl (Loud.alloc zero50 rfl) ?_
      rintro _ _ ⟨b4, rfl, rfl⟩
      refine Ops.pure rfl (Pure.assign rfl) ?_
      refine Ops.store (Stores.box 0 rfl rfl rfl size50 (allOne rfl) rfl rfl) ?_
      refine Ops.nil ?_
      refine Run.seq ?_
      have hm : (k + 1) % l.length < l.length := Nat.mod_lt _ (by omega)
      refine Any.start follows ?_
      refine Any.take 0 rfl (by kernel_rfl) rfl (QOp.pure (Pure.fieldAddrB fld50_1 rfl)) ?_
      refine Any.take 1 rfl (by kernel_rfl) rfl (QOp.pure (Pure.ldB 0 rfl cell4 rfl rfl)) ?_
      refine Any.take 2 rfl (by kernel_rfl) rfl (QOp.pure (Pure.move rfl)) ?_
      refine Any.take 3 rfl (by kernel_rfl) rfl (QOp.pure (Pure.move rfl)) ?_
      refine Any.take 4 rfl (by kernel_rfl) rfl (QOp.pure (Pure.add rfl rfl (by omega) (by omega))) ?_
      refine Any.take 5 rfl (by kernel_rfl) rfl (QOp.pure (Pure.move rfl)) ?_
      refine Any.take 6 rfl (by kernel_rfl) rfl (QOp.pure (Pure.len sl25 (RdL.old hv) rfl)) ?_
      refine Any.take 7 rfl (by kernel_rfl) rfl (QOp.pure (Pure.remN rfl rfl (by omega))) ?_
      refine Any.take 8 rfl (by kernel_rfl) rfl (QOp.pure (Pure.idxN sl25 (RdL.old hv) rfl rfl (by first | assumption | omega | (simp; omega)))) ?_
      refine Any.take 9 rfl (by kernel_rfl) rfl (QOp.pure (Pure.fieldAddr fld50_1 rfl (RdL.old hv) (by first | omega | (simp; omega)))) ?_
      refine Any.take 10 rfl (by kernel_rfl) rfl (QOp.pure (Pure.ld cell4 rfl (RdL.old hv) (fget encP_len (by omega) (0, false) rfl))) ?_
      refine Any.take 11 rfl (by kernel_rfl) rfl (QOp.pure (Pure.eqlB und4 rfl rfl)) ?_
      refine Any.done (by kernel_rfl) ?_
      refine Run.cond rfl (fun c23 => ?_) (fun c23 => ?_)
      · skip
        replace c23 := dT c23
        refine Run.seq ?_
        refine Run.region ?_
        refine Ops.pure rfl (Pure.assign rfl) ?_
        refine Ops.nil ?_
        refine Run.ret1 rfl rfl ?_
        rw [altB_false (k := k) (by omega) (by simpa using c23)]
      · skip
        replace c23 := dF c23
        refine Run.skip ?_
        refine Run.blk ?_
        refine Run.region ?_
        refine Ops.pure rfl (Pure.add rfl rfl (by omega) (by omega)) ?_
        refine Ops.pure rfl (Pure.move rfl) ?_
        refine Ops.nil ?_
        refine Run.asrt ?_
        exact ⟨k + 1, ⟨⟨by omega, fun j hj => step_lt (p := fun j => (l.getD j (0, false)).2 ≠ (l.getD ((j + 1) % l.length) (0, false)).2) hj hinv0.2 (by simpa using c23)⟩, by omega⟩, ⟨rfl, rfl, rfl, rfl, trivial⟩, Ext.nil _⟩
    · skip
      replace c8 := dF c8
      refine Run.exit rfl ?_
      refine Run.seq ?_
      refine Run.region ?_
      refine Ops.pure rfl (Pure.assign rfl) ?_
      refine Ops.nil ?_
      refine Run.ret1 rfl rfl ?_
      rw [altB_true (k := k) (by omega) hinv0.2]

set_option maxRecDepth 4000 in
/-- spec.AlternatesOn -/
theorem f_s_AlternatesOn (w : World) (v : Value) (l : List (Int × Bool)) (hv : Rd w v 2 l.length (passes l)) (hl : l.length ≤ 1048576) : RetV Try.prog 16 [v] w (.bool (altB l)) := by
  refine Ret.enter Try.func16 rfl Try.ntmps16 rfl ?_
  refine Run.seq ?_
  refine Run.region ?_
  refine Ops.pure rfl (Pure.assign rfl) ?_
  refine Ops.nil ?_
  refine Run.seq ?_
  refine Run.seq ?_
  refine Run.region ?_
  refine Ops.pure rfl (Pure.assign rfl) ?_
  refine Ops.nil ?_
  refine Run.block ?_
  refine Run.loop (X := Nat) (fun k => [(0, v), (3, .int .i64 k)]) (fun k => []) (fun k => k ≤ l.length ∧ ∀ j, j < k → (l.getD j (0, false)).2 ≠ (l.getD ((j + 1) % l.length) (0, false)).2) (fun k => l.length - k) 0 ?_ ?_ ?_ ?_
  · exact ⟨by omega, by omega⟩
  · exact ⟨rfl, rfl, trivial⟩
  · exact Ext.refl _
  · intro k hinv0
    refine Run.seq ?_
    refine Run.seq ?_
    refine Run.region ?_
    refine Ops.pure rfl (Pure.move rfl) ?_
    refine Ops.pure rfl (Pure.move rfl) ?_
    refine Ops.pure rfl (Pure.len sl25 (RdL.old hv) rfl) ?_
    refine Ops.pure rfl (Pure.lss rfl rfl) ?_
    refine Ops.nil ?_
    refine Run.cond rfl (fun c7 => ?_) (fun c7 => ?_)
    · skip
      replace c7 := dT c7
      refine Run.skip ?_
      refine Run.seq ?_
      refine Run.block ?_
      refine Run.seq ?_
      have hm : (k + 1) % l.length < l.length := Nat.mod_lt _ (by omega)
      refine Any.start follows ?_
      refine Any.take 0 rfl (by kernel_rfl) rfl (QOp.pure (Pure.move rfl)) ?_
      refine Any.take 1 rfl (by kernel_rfl) rfl (QOp.pure (Pure.move rfl)) ?_
      refine Any.take 2 rfl (by kernel_rfl) rfl (QOp.pure (Pure.idxN sl25 (RdL.old hv) rfl rfl (by first | assumption | omega | (simp; omega)))) ?_
      refine Any.take 3 rfl (by kernel_rfl) rfl (QOp.pure (Pure.fieldAddr fld50_1 rfl (RdL.old hv) (by first | omega | (simp; omega)))) ?_
      refine Any.take 4 rfl (by kernel_rfl) rfl (QOp.pure (Pure.ld cell4 rfl (RdL.old hv) (fget encP_len (by omega) (0, false) rfl))) ?_
      refine Any.take 5 rfl (by kernel_rfl) rfl (QOp.pure (Pure.move rfl)) ?_
      refine Any.take 6 rfl (by kernel_rfl) rfl (QOp.pure (Pure.move rfl)) ?_
      refine Any.take 7 rfl (by kernel_rfl) rfl (QOp.pure (Pure.add rfl rfl (by omega) (by omega))) ?_
      refine Any.take 8 rfl (by kernel_rfl) rfl (QOp.pure (Pure.move rfl)) ?_
      refine Any.take 9 rfl (by kernel_rfl) rfl (QOp.pure (Pure.len sl25 (RdL.old hv) rfl)) ?_
      refine Any.take 10 rfl (by kernel_rfl) rfl (QOp.pure (Pure.remN rfl rfl (by omega))) ?_
      refine Any.take 11 rfl (by kernel_rfl) rfl (QOp.pure (Pure.idxN sl25 (RdL.old hv) rfl rfl (by first | assumption | omega | (simp; omega)))) ?_
      refine Any.take 12 rfl (by kernel_rfl) rfl (QOp.pure (Pure.fieldAddr fld50_1 rfl (RdL.old hv) (by first | omega | (simp; omega)))) ?_
      refine Any.take 13 rfl (by kernel_rfl) rfl (QOp.pure (Pure.ld cell4 rfl (RdL.old hv) (fget encP_len (by omega) (0, false) rfl))) ?_
      refine Any.take 14 rfl (by kernel_rfl) rfl (QOp.pure (Pure.eqlB und4 rfl rfl)) ?_
      refine Any.done (by kernel_rfl) ?_
      refine Run.cond rfl (fun c24 => ?_) (fun c24 => ?_)
      · skip
        replace c24 := dT c24
        refine Run.seq ?_
        refine Run.region ?_
        refine Ops.pure rfl (Pure.assign rfl) ?_
        refine Ops.nil ?_
        refine Run.ret1 rfl rfl ?_
        rw [altB_false (k := k) (by omega) (by simpa using c24)]
      · skip
        replace c24 := dF c24
        refine Run.skip ?_
        refine Run.blk ?_
        refine Run.region ?_
        refine Ops.pure rfl (Pure.move rfl) ?_
        refine Ops.pure rfl (Pure.add rfl rfl (by omega) (by omega)) ?_
        refine Ops.pure rfl (Pure.assign rfl) ?_
        refine Ops.nil ?_
        refine Run.asrt ?_
        exact ⟨k + 1, ⟨⟨by omega, fun j hj => step_lt (p := fun j => (l.getD j (0, false)).2 ≠ (l.getD ((j + 1) % l.length) (0, false)).2) hj hinv0.2 (by simpa using c24)⟩, by omega⟩, ⟨rfl, rfl, trivial⟩, Ext.nil _⟩
    · skip
      replace c7 := dF c7
      refine Run.exit rfl ?_
      refine Run.seq ?_
      refine Run.region ?_
      refine Ops.pure rfl (Pure.assign rfl) ?_
      refine Ops.nil ?_
      refine Run.ret1 rfl rfl ?_
      rw [altB_true (k := k) (by omega) hinv0.2]

set_option maxRecDepth 4000 in
/-- laws.szPassS -/
theorem f_l_szPassS (w : World) (v : Value) (l : List (Int × Bool)) (left : Int) (hv : Rd w v 2 l.length (passes l)) (h0 : 0 ≤ left) (h1 : left ≤ 1048576) (h2 : l.length ≤ 9223372036854775807) : RetV Try.prog 15 [v, .int .i64 left] w (.int .i64 (if (l.length : Int) ≤ left then left - l.length else -1)) := by
  refine Ret.enter Try.func15 rfl Try.ntmps15 rfl ?_
  refine Run.seq ?_
  refine Run.region ?_
  refine Ops.pure rfl (Pure.assign rfl) ?_
  refine Ops.nil ?_
  refine Run.seq ?_
  refine Run.region ?_
  refine Ops.pure rfl (Pure.move rfl) ?_
  refine Ops.pure rfl (Pure.move rfl) ?_
  refine Ops.pure rfl (Pure.len sl22 (RdL.old hv) rfl) ?_
  refine Ops.pure rfl (Pure.sub rfl rfl (by omega) (by omega)) ?_
  refine Ops.pure rfl (Pure.assign rfl) ?_
  refine Ops.nil ?_
  refine Run.seq ?_
  refine Run.seq ?_
  refine Run.region ?_
  refine Ops.pure rfl (Pure.move rfl) ?_
  refine Ops.pure rfl (Pure.lss rfl rfl) ?_
  refine Ops.nil ?_
  refine Run.cond rfl (fun c10 => ?_) (fun c10 => ?_)
  · skip
    replace c10 := dT c10
    refine Run.seq ?_
    refine Run.region ?_
    refine Ops.pure rfl (Pure.assign rfl) ?_
    refine Ops.nil ?_
    refine Run.ret1 rfl rfl ?_
    rw [if_neg (by omega)]
  · skip
    replace c10 := dF c10
    refine Run.skip ?_
    refine Run.seq ?_
    refine Run.region ?_
    refine Ops.pure rfl (Pure.move rfl) ?_
    refine Ops.pure rfl (Pure.assign rfl) ?_
    refine Ops.nil ?_
    refine Run.ret1 rfl rfl ?_
    rw [if_pos (by omega)]

set_option maxRecDepth 4000 in
/-- laws.toPass -/
theorem f_l_toPass (w : World) (p : Int × Bool) : RetV Try.prog 47 [.agg (encP p).toArray] w (.agg (encP p).toArray) := by
  refine Ret.enter Try.func47 rfl Try.ntmps47 rfl ?_
  refine Run.seq ?_
  refine Run.region ?_
  refine Ops.go rfl (Loud.box rfl rfl) ?_
  rintro _ _ ⟨b1, rfl, rfl⟩
  refine Ops.go rfl (Loud.alloc zero50 rfl) ?_
  rintro _ _ ⟨b2, rfl, rfl⟩
  refine Ops.nil ?_
  refine Run.seq ?_
  refine Run.region ?_
  refine Ops.go rfl (Loud.alloc zero50 rfl) ?_
  rintro _ _ ⟨b3, rfl, rfl⟩
  refine Ops.nil ?_
  refine Run.seq ?_
  refine Run.region ?_
  refine Ops.pure rfl (Pure.fieldAddrB fld52_0 rfl) ?_
  refine Ops.pure rfl (Pure.ldB 2 rfl cell2 rfl rfl) ?_
  refine Ops.pure rfl (Pure.fieldAddrB fld50_0 rfl) ?_
  refine Ops.store (Stores.box 0 rfl rfl rfl size2 (allOne rfl) rfl rfl) ?_
  refine Ops.nil ?_
  refine Run.seq ?_
  refine Run.region ?_
  refine Ops.pure rfl (Pure.fieldAddrB fld52_1 rfl) ?_
  refine Ops.pure rfl (Pure.ldB 2 rfl cell4 rfl rfl) ?_
  refine Ops.pure rfl (Pure.fieldAddrB fld50_1 rfl) ?_
  refine Ops.store (Stores.box 0 rfl rfl rfl size4 (allOne rfl) rfl rfl) ?_
  refine Ops.nil ?_
  refine Run.seq ?_
  refine Run.region ?_
  refine Ops.pure rfl (Pure.ldBA 0 rfl cell50 rfl rfl rfl) ?_
  refine Ops.store (Stores.box 1 rfl rfl rfl size50 (allOne rfl) rfl rfl) ?_
  refine Ops.nil ?_
  refine Run.retC 1 rfl rfl rfl cell50 rfl ?_
  rfl

set_option maxRecDepth 4000 in
/-- laws.eqPass -/
theorem f_l_eqPass (w : World) (p : Int × Bool) (q : Int × Bool) : RetV Try.prog 48 [.agg (encP p).toArray, .agg (encP q).toArray] w (.bool (decide (p = q))) := by
  obtain ⟨p1, p2⟩ := p
  obtain ⟨q1, q2⟩ := q
  refine Ret.enter Try.func48 rfl Try.ntmps48 rfl ?_
  refine Run.seq ?_
  refine Run.region ?_
  refine Ops.go rfl (Loud.box rfl rfl) ?_
  rintro _ _ ⟨b2, rfl, rfl⟩
  refine Ops.go rfl (Loud.box rfl rfl) ?_
  rintro _ _ ⟨b3, rfl, rfl⟩
  refine Ops.pure rfl (Pure.assign rfl) ?_
  refine Ops.nil ?_
  refine Run.seq ?_
  refine Run.seq ?_
  refine Run.region ?_
  refine Ops.pure rfl (Pure.fieldAddrB fld50_0 rfl) ?_
  refine Ops.pure rfl (Pure.ldB 1 rfl cell2 rfl rfl) ?_
  refine Ops.pure rfl (Pure.fieldAddrB fld50_0 rfl) ?_
  refine Ops.pure rfl (Pure.ldB 0 rfl cell2 rfl rfl) ?_
  refine Ops.pure rfl (Pure.neq rfl rfl) ?_
  refine Ops.nil ?_
  refine Run.cond rfl (fun c9 => ?_) (fun c9 => ?_)
  · skip
    replace c9 := nT c9
    refine Run.seq ?_
    refine Run.region ?_
    refine Ops.pure rfl (Pure.assign rfl) ?_
    refine Ops.nil ?_
    refine Run.ret1 rfl rfl ?_
    simp_all
  · skip
    replace c9 := nF c9
    refine Run.skip ?_
    refine Run.seq ?_
    refine Run.seq ?_
    refine Run.region ?_
    refine Ops.pure rfl (Pure.fieldAddrB fld50_1 rfl) ?_
    refine Ops.pure rfl (Pure.ldB 1 rfl cell4 rfl rfl) ?_
    refine Ops.pure rfl (Pure.fieldAddrB fld50_1 rfl) ?_
    refine Ops.pure rfl (Pure.ldB 0 rfl cell4 rfl rfl) ?_
    refine Ops.pure rfl (Pure.neqB und4 rfl rfl) ?_
    refine Ops.nil ?_
    refine Run.cond rfl (fun c14 => ?_) (fun c14 => ?_)
    · skip
      replace c14 := nT c14
      refine Run.seq ?_
      refine Run.region ?_
      refine Ops.pure rfl (Pure.assign rfl) ?_
      refine Ops.nil ?_
      refine Run.ret1 rfl rfl ?_
      simp_all
    · skip
      replace c14 := nF c14
      refine Run.skip ?_
      refine Run.seq ?_
      refine Run.region ?_
      refine Ops.pure rfl (Pure.assign rfl) ?_
      refine Ops.nil ?_
      refine Run.ret1 rfl rfl ?_
      simp_all

set_option maxRecDepth 4000 in
/-- laws.eqPassS -/
theorem f_l_eqPassS (w : World) (v : Value) (u : Value) (l : List (Int × Bool)) (m : List (Int × Bool)) (hv : Rd w v 2 l.length (passes l)) (hu : Rd w u 2 m.length (passes m)) (hl : l.length ≤ 1048576) (hm : m.length ≤ 1048576) : RetV Try.prog 19 [v, u] w (.bool (decide (l = m))) := by
  refine Ret.enter Try.func19 rfl Try.ntmps19 rfl ?_
  refine Run.seq ?_
  refine Run.region ?_
  refine Ops.pure rfl (Pure.assign rfl) ?_
  refine Ops.nil ?_
  refine Run.seq ?_
  refine Run.seq ?_
  refine Run.region ?_
  refine Ops.pure rfl (Pure.move rfl) ?_
  refine Ops.pure rfl (Pure.len sl25 (RdL.old hv) rfl) ?_
  refine Ops.pure rfl (Pure.move rfl) ?_
  refine Ops.pure rfl (Pure.len sl25 (RdL.old hu) rfl) ?_
  refine Ops.pure rfl (Pure.neq rfl rfl) ?_
  refine Ops.nil ?_
  refine Run.cond rfl (fun c10 => ?_) (fun c10 => ?_)
  · skip
    replace c10 := nT c10
    refine Run.seq ?_
    refine Run.region ?_
    refine Ops.pure rfl (Pure.assign rfl) ?_
    refine Ops.nil ?_
    refine Run.ret1 rfl rfl ?_
    rw [decide_eq_false (by rintro rfl; exact c10 rfl)]
  · skip
    replace c10 := nF c10
    have hlen : l.length = m.length := by omega
    refine Run.skip ?_
    refine Run.seq ?_
    refine Run.seq ?_
    refine Run.region ?_
    refine Ops.pure rfl (Pure.assign rfl) ?_
    refine Ops.nil ?_
    refine Run.block ?_
    refine Run.loop (X := Nat) (fun k => [(0, v), (1, u), (5, .int .i64 k)]) (fun k => []) (fun k => k ≤ l.length ∧ ∀ j, j < k → l.getD j (0, false) = m.getD j (0, false)) (fun k => l.length - k) 0 ?_ ?_ ?_ ?_
    · exact ⟨by omega, by omega⟩
    · exact ⟨rfl, rfl, rfl, trivial⟩
    · exact Ext.refl _
    · intro k hinv0
      refine Run.seq ?_
      refine Run.seq ?_
      refine Run.region ?_
      refine Ops.pure rfl (Pure.move rfl) ?_
      refine Ops.pure rfl (Pure.move rfl) ?_
      refine Ops.pure rfl (Pure.len sl25 (RdL.old hv) rfl) ?_
      refine Ops.pure rfl (Pure.lss rfl rfl) ?_
      refine Ops.nil ?_
      refine Run.cond rfl (fun c14 => ?_) (fun c14 => ?_)
      · skip
        replace c14 := dT c14
        refine Run.skip ?_
        refine Run.seq ?_
        refine Run.block ?_
        refine Run.seq ?_
        refine Any.start follows ?_
        refine Any.take 0 rfl (by kernel_rfl) rfl (QOp.pure (Pure.move rfl)) ?_
        refine Any.take 1 rfl (by kernel_rfl) rfl (QOp.pure (Pure.move rfl)) ?_
        refine Any.take 2 rfl (by kernel_rfl) rfl (QOp.pure (Pure.idxN sl25 (RdL.old hv) rfl rfl (by first | assumption | omega | (simp; omega)))) ?_
        refine Any.take 3 rfl (by kernel_rfl) rfl (QOp.pure (Pure.ldA cell50 rfl (RdL.old hv) (seg_get encP_len (by omega) (0, false)) rfl (by decide))) ?_
        refine Any.take 4 rfl (by kernel_rfl) rfl (QOp.pure (Pure.move rfl)) ?_
        refine Any.take 5 rfl (by kernel_rfl) rfl (QOp.pure (Pure.move rfl)) ?_
        refine Any.take 6 rfl (by kernel_rfl) rfl (QOp.pure (Pure.idxN sl25 (RdL.old hu) rfl rfl (by first | assumption | omega | (simp; omega)))) ?_
        refine Any.take 7 rfl (by kernel_rfl) rfl (QOp.pure (Pure.ldA cell50 rfl (RdL.old hu) (seg_get encP_len (by omega) (0, false)) rfl (by decide))) ?_
        refine Any.take 8 rfl (by kernel_rfl) rfl (QOp.call fn48 rfl (fun w hw => f_l_eqPass w _ _)) ?_
        refine Any.take 9 rfl (by kernel_rfl) rfl (QOp.pure (Pure.not rfl)) ?_
        refine Any.done (by kernel_rfl) ?_
        refine Run.cond rfl (fun c26 => ?_) (fun c26 => ?_)
        · skip
          replace c26 := nT c26
          refine Run.seq ?_
          refine Run.region ?_
          refine Ops.pure rfl (Pure.assign rfl) ?_
          refine Ops.nil ?_
          refine Run.ret1 rfl rfl ?_
          rw [decide_eq_false (by rintro rfl; simp at c26)]
        · skip
          replace c26 := nF c26
          refine Run.skip ?_
          refine Run.blk ?_
          refine Run.region ?_
          refine Ops.pure rfl (Pure.move rfl) ?_
          refine Ops.pure rfl (Pure.add rfl rfl (by omega) (by omega)) ?_
          refine Ops.pure rfl (Pure.assign rfl) ?_
          refine Ops.nil ?_
          refine Run.asrt ?_
          exact ⟨k + 1, ⟨⟨by omega, fun j hj => step_lt (p := fun j => l.getD j (0, false) = m.getD j (0, false)) hj hinv0.2 (by simpa using c26)⟩, by omega⟩, ⟨rfl, rfl, rfl, trivial⟩, Ext.nil _⟩
      · skip
        replace c14 := dF c14
        refine Run.exit rfl ?_
        refine Run.seq ?_
        refine Run.region ?_
        refine Ops.pure rfl (Pure.assign rfl) ?_
        refine Ops.nil ?_
        refine Run.ret1 rfl rfl ?_
        rw [decide_eq_true (ext_getD (0, false) hlen (fun j hj => hinv0.2 j (by omega)))]

set_option maxRecDepth 4000 in
/-- laws.toPassS -/
theorem f_l_toPassS (w : World) (v : Value) (l : List (Int × Bool)) (hv : Rd w v 2 l.length (passes l)) (hl : l.length ≤ 1048576) : Ret Try.prog 17 [v] w (fun u L => L = [.row 50 2 u l.length (passes l)]) := by
  refine Ret.enter Try.func17 rfl Try.ntmps17 rfl ?_
  refine Run.seq ?_
  refine Run.region ?_
  refine Ops.pure rfl (Pure.assign rfl) ?_
  refine Ops.nil ?_
  refine Run.seq ?_
  refine Run.region ?_
  refine Ops.pure rfl (Pure.move rfl) ?_
  refine Ops.pure rfl (Pure.len sl22 (RdL.old hv) rfl) ?_
  refine Ops.go rfl (Loud.make sl25 rfl rfl (by omega) (by omega)) ?_
  rintro v7 _ rfl
  refine Ops.pure rfl (Pure.assign rfl) ?_
  refine Ops.nil ?_
  refine Run.seq ?_
  refine Run.seq ?_
  refine Run.region ?_
  refine Ops.pure rfl (Pure.assign rfl) ?_
  refine Ops.nil ?_
  refine Run.block ?_
  refine Run.loop (X := Nat) (fun k => [(0, v), (3, v7), (4, .int .i64 k)]) (fun k => [.row 50 2 v7 l.length (fillA encP 2 (madeCells (Value.agg #[.int .i64 0, .bool false]).cells (l.length * 2)).toList l k)]) (fun k => k ≤ l.length) (fun k => l.length - k) 0 ?_ ?_ ?_ ?_
  · exact Nat.zero_le _
  · exact ⟨rfl, rfl, rfl, trivial⟩
  · exact Ext.eq (by rw [fillA_zero])
  · intro k hinv0
    have hz := length_made (Value.agg #[.int .i64 0, .bool false]).cells (l.length * 2)
    have hfl := length_fillA encP_len hz hinv0
    refine Run.seq ?_
    refine Run.seq ?_
    refine Run.region ?_
    refine Ops.pure rfl (Pure.move rfl) ?_
    refine Ops.pure rfl (Pure.move rfl) ?_
    refine Ops.pure rfl (Pure.len sl22 (RdL.old hv) rfl) ?_
    refine Ops.pure rfl (Pure.lss rfl rfl) ?_
    refine Ops.nil ?_
    refine Run.cond rfl (fun c11 => ?_) (fun c11 => ?_)
    · skip
      replace c11 := dT c11
      refine Run.skip ?_
      refine Run.seq ?_
      refine Run.block ?_
      refine Run.region ?_
      refine Ops.pure rfl (Pure.move rfl) ?_
      refine Ops.pure rfl (Pure.move rfl) ?_
      refine Ops.pure rfl (Pure.move rfl) ?_
      refine Ops.pure rfl (Pure.move rfl) ?_
      refine Ops.pure rfl (Pure.idxN sl22 (RdL.old hv) rfl rfl (by first | assumption | omega | (simp; omega))) ?_
      refine Ops.pure rfl (Pure.ldA cell52 rfl (RdL.old hv) (seg_get encP_len (by omega) (0, false)) rfl (by decide)) ?_
      refine Ops.q rfl (QOp.call fn47 rfl (fun w hw => f_l_toPass w _)) ?_
      refine Ops.pure rfl (Pure.idxN sl25 (RdL.own 0 rfl) rfl rfl (by first | assumption | omega | (simp; omega))) ?_
      refine Ops.store (Stores.rowA 0 rfl size50 rfl rfl rfl (allOne rfl) (by first | assumption | omega | (simp; omega)) rfl) ?_
      refine Ops.nil ?_
      refine Run.blk ?_
      refine Run.region ?_
      refine Ops.pure rfl (Pure.move rfl) ?_
      refine Ops.pure rfl (Pure.add rfl rfl (by omega) (by omega)) ?_
      refine Ops.pure rfl (Pure.assign rfl) ?_
      refine Ops.nil ?_
      refine Run.asrt ?_
      exact ⟨k + 1, ⟨by omega, by omega⟩, ⟨rfl, rfl, rfl, trivial⟩, Ext.eq (by rw [← fillA_step encP_len (0, false) (by omega)]; rfl)⟩
    · skip
      replace c11 := dF c11
      refine Run.exit rfl ?_
      refine Run.seq ?_
      refine Run.region ?_
      refine Ops.pure rfl (Pure.move rfl) ?_
      refine Ops.pure rfl (Pure.assign rfl) ?_
      refine Ops.nil ?_
      refine Run.ret1 rfl rfl ?_
      rw [fillA_full hz (by omega)]

set_option maxRecDepth 4000 in
/-- laws.FnExactAlternatesOn -/
theorem f_l_FnExactAlternatesOn (w : World) (v : Value) (l : List (Int × Bool)) (hv : Rd w v 2 l.length (passes l)) (h2 : l.length ≤ 9223372036854775807) : RetV Try.prog 3 [v] w (.bool true) := by
  refine Ret.enter Try.func3 rfl Try.ntmps3 rfl ?_
  refine Run.seq ?_
  refine Run.region ?_
  refine Ops.pure rfl (Pure.assign rfl) ?_
  refine Ops.nil ?_
  refine Run.seq ?_
  refine Run.region ?_
  refine Ops.pure rfl (Pure.assign rfl) ?_
  refine Ops.nil ?_
  refine Run.seq ?_
  refine Run.region ?_
  refine Ops.pure rfl (Pure.move rfl) ?_
  refine Ops.pure rfl (Pure.move rfl) ?_
  refine Ops.q rfl (QOp.call fn15 rfl (fun w hw => f_l_szPassS w _ _ _ (by exact RdL.old (by assumption) w hw) (by omega) (by omega) (by assumption))) ?_
  refine Ops.pure rfl (Pure.assign rfl) ?_
  refine Ops.nil ?_
  refine Run.seq ?_
  refine Run.seq ?_
  refine Run.region ?_
  refine Ops.pure rfl (Pure.move rfl) ?_
  refine Ops.pure rfl (Pure.lss rfl rfl) ?_
  refine Ops.nil ?_
  refine Run.cond rfl (fun c11 => ?_) (fun c11 => ?_)
  · skip
    replace c11 := dT c11
    refine Run.seq ?_
    refine Run.region ?_
    refine Ops.pure rfl (Pure.assign rfl) ?_
    refine Ops.nil ?_
    refine Run.ret1 rfl rfl ?_
    first
      | rfl
      | (exfalso; simp_all; done)
  · skip
    replace c11 := dF c11
    refine Run.skip ?_
    refine Run.seq ?_
    refine Run.region ?_
    refine Ops.pure rfl (Pure.move rfl) ?_
    refine Ops.go rfl (Loud.callR fn17 rfl (fun w hw => f_l_toPassS w _ _ (by exact RdL.old (by assumption) w hw) (by omega))) ?_
    rintro v13 _ ⟨L13, hQ13, rfl⟩
    subst hQ13
    refine Ops.q rfl (QOp.call fn16 rfl (fun w hw => f_s_AlternatesOn w _ _ (by exact RdL.own 0 rfl w hw) (by omega))) ?_
    refine Ops.pure rfl (Pure.assign rfl) ?_
    refine Ops.nil ?_
    refine Run.seq ?_
    refine Run.region ?_
    refine Ops.pure rfl (Pure.move rfl) ?_
    refine Ops.go rfl (Loud.callR fn17 rfl (fun w hw => f_l_toPassS w _ _ (by exact RdL.old (by assumption) w hw) (by omega))) ?_
    rintro v16 _ ⟨L16, hQ16, rfl⟩
    subst hQ16
    refine Ops.pure rfl (Pure.assign rfl) ?_
    refine Ops.nil ?_
    refine Run.seq ?_
    refine Run.region ?_
    refine Ops.pure rfl (Pure.move rfl) ?_
    refine Ops.q rfl (QOp.call fn18 rfl (fun w hw => f_i_AlternatesOn w _ _ (by exact RdL.own 0 rfl w hw) (by omega))) ?_
    refine Ops.pure rfl (Pure.assign rfl) ?_
    refine Ops.nil ?_
    refine Run.seq ?_
    refine Run.seq ?_
    refine Run.region ?_
    refine Ops.pure rfl (Pure.move rfl) ?_
    refine Ops.pure rfl (Pure.move rfl) ?_
    refine Ops.pure rfl (Pure.neqB und4 rfl rfl) ?_
    refine Ops.nil ?_
    refine Run.cond rfl (fun c21 => ?_) (fun c21 => ?_)
    · skip
      replace c21 := nT c21
      refine Run.seq ?_
      refine Run.region ?_
      refine Ops.pure rfl (Pure.assign rfl) ?_
      refine Ops.nil ?_
      refine Run.ret1 rfl rfl ?_
      first
        | rfl
        | (exfalso; simp_all; done)
    · skip
      replace c21 := nF c21
      refine Run.skip ?_
      refine Run.seq ?_
      refine Run.seq ?_
      refine Run.region ?_
      refine Ops.pure rfl (Pure.move rfl) ?_
      refine Ops.pure rfl (Pure.move rfl) ?_
      refine Ops.go rfl (Loud.callR fn17 rfl (fun w hw => f_l_toPassS w _ _ (by exact RdL.old (by assumption) w hw) (by omega))) ?_
      rintro v24 _ ⟨L24, hQ24, rfl⟩
      subst hQ24
      refine Ops.q rfl (QOp.call fn19 rfl (fun w hw => f_l_eqPassS w _ _ _ _ (by exact RdL.own 1 rfl w hw) (by exact RdL.own 0 rfl w hw) (by omega) (by omega))) ?_
      refine Ops.pure rfl (Pure.not rfl) ?_
      refine Ops.nil ?_
      refine Run.cond rfl (fun c26 => ?_) (fun c26 => ?_)
      · skip
        replace c26 := nT c26
        refine Run.seq ?_
        refine Run.region ?_
        refine Ops.pure rfl (Pure.assign rfl) ?_
        refine Ops.nil ?_
        refine Run.ret1 rfl rfl ?_
        first
          | rfl
          | (exfalso; simp_all; done)
      · skip
        replace c26 := nF c26
        refine Run.skip ?_
        refine Run.seq ?_
        refine Run.region ?_
        refine Ops.pure rfl (Pure.assign rfl) ?_
        refine Ops.nil ?_
        refine Run.ret1 rfl rfl ?_
        first
          | rfl
          | (exfalso; simp_all; done)

end Go.Proofs.Ytpldgghkhknpnaa
