/- Contracts of functions, printed by program from annotations. -/
import Derived.Test.YtmfinopdokkjcaaFacts
namespace Go.Proofs.Ytmfinopdokkjcaa
open Go Go.AW Go.RowKit
set_option linter.unusedVariables false
set_option linter.unusedSimpArgs false

/-- the numbers from k on -/
def marks (k : Int) (n : Nat) : List Int := (List.range n).map fun (i : Nat) => k + (i : Int)
theorem length_marks (k : Int) (n : Nat) : (marks k n).length = n := by simp [marks]
theorem marks_getD {k : Int} {n i : Nat} (h : i < n) : (marks k n).getD i 0 = k + i := by simp [marks, List.getD, h]
/-- marked up to j -/
def markTo (k : Int) (l : List Int) (j : Nat) : List Int := marks k j ++ l.drop j
theorem markTo_zero (k : Int) (l : List Int) : markTo k l 0 = l := by simp [markTo, marks]
theorem markTo_full {k : Int} {l : List Int} {j : Nat} (h : j = l.length) : markTo k l j = marks k l.length := by subst h; simp [markTo]
theorem length_markTo {k : Int} {l : List Int} {j : Nat} (h : j ≤ l.length) : (markTo k l j).length = l.length := by simp [markTo, length_marks]; omega
theorem markTo_step {k : Int} {l : List Int} {j : Nat} (h : j < l.length) : (ints (markTo k l j)).set j (.int .i64 (k + j)) = ints (markTo k l (j + 1)) := by
  have e : markTo k l (j + 1) = (markTo k l j).set j (k + j) := by
    unfold markTo
    rw [List.set_append, if_neg (by simp [length_marks]), length_marks, Nat.sub_self, List.drop_eq_getElem_cons h, List.set_cons_zero]
    simp [marks, List.range_succ]
  rw [e, ints, ints, List.map_set]
theorem mem_of_getD {l : List Int} {k : Nat} {x : Int} (h : k < l.length) (e : l.getD k 0 = x) : x ∈ l := by
  rw [← e]
  simp [List.getD, List.getElem?_eq_getElem h]
theorem not_mem_of_getD {l : List Int} {k : Nat} {x : Int} (h : ¬ k < l.length) (e : ∀ j, j < k → l.getD j 0 ≠ x) : x ∉ l := by
  intro hx
  obtain ⟨j, hj, rfl⟩ := List.mem_iff_getElem.1 hx
  exact e j (by omega) (by simp [List.getD, List.getElem?_eq_getElem hj])
/-- the first place of x, or -1 -/
def fIdx (l : List Int) (x : Int) : Int := if x ∈ l then (l.idxOf x : Int) else -1
theorem fIdx_at {l : List Int} {k : Nat} {x : Int} (h : k < l.length) (e : l.getD k 0 = x) (hb : ∀ j, j < k → l.getD j 0 ≠ x) : fIdx l x = k := by
  unfold fIdx
  rw [if_pos (mem_of_getD h e)]
  congr 1
  have hm := mem_of_getD h e
  have hi := List.idxOf_lt_length_of_mem hm
  have hg : l.getD (l.idxOf x) 0 = x := by simp [List.getD, List.getElem?_eq_getElem hi]
  rcases Nat.lt_trichotomy (l.idxOf x) k with h1 | h1 | h1
  · exact absurd hg (hb _ h1)
  · exact h1
  · exfalso
    have h2 := List.not_of_lt_findIdx (p := (· == x)) (xs := l) (i := k) h1
    simp [List.getD, List.getElem?_eq_getElem h] at e
    simp [e] at h2
theorem fIdx_none {l : List Int} {k : Nat} {x : Int} (h : ¬ k < l.length) (e : ∀ j, j < k → l.getD j 0 ≠ x) : fIdx l x = -1 := by
  unfold fIdx
  rw [if_neg (not_mem_of_getD h e)]
theorem fIdx_nonneg (l : List Int) (x : Int) : decide (0 ≤ fIdx l x) = decide (x ∈ l) := by
  unfold fIdx
  by_cases h : x ∈ l
  · rw [if_pos h]
    simp [h]
  · rw [if_neg h]
    simp [h]

set_option maxRecDepth 4000 in
/-- impl.inRange -/
theorem f_i_inRange (w : World) (x : Int) (a : Int) (b : Int) : RetV Try.prog 93 [.int .i64 x, .int .i64 a, .int .i64 b] w (.bool (decide (a ≤ x ∧ x ≤ b))) := by
  refine Ret.enter Try.func93 rfl Try.ntmps93 rfl ?_
  refine Run.seq ?_
  refine Run.region ?_
  refine Ops.pure rfl (Pure.assign rfl) ?_
  refine Ops.nil ?_
  refine Run.seq ?_
  refine Run.region ?_
  refine Ops.pure rfl (Pure.move rfl) ?_
  refine Ops.pure rfl (Pure.move rfl) ?_
  refine Ops.pure rfl (Pure.geq rfl rfl) ?_
  refine Ops.pure rfl (Pure.move rfl) ?_
  refine Ops.guard rfl rfl rfl rfl (fun c10 => ?_) (fun c10 => ?_)
  · skip
    have c10' := dT c10
    refine Ops.pure rfl (Pure.move rfl) ?_
    refine Ops.guardY rfl rfl rfl c10 ?_
    refine Ops.pure rfl (Pure.move rfl) ?_
    refine Ops.guardY rfl rfl rfl c10 ?_
    refine Ops.pure rfl (Pure.leq rfl rfl) ?_
    refine Ops.pure rfl (Pure.pickT rfl c10 rfl) ?_
    refine Ops.pure rfl (Pure.assign rfl) ?_
    refine Ops.nil ?_
    refine Run.ret1 rfl rfl ?_
    first
      | rfl
      | (simp_all; done)
      | (simp_all; omega)
  · skip
    replace c10 := Bool.eq_false_of_ne c10
    have c10' := dF c10
    refine Ops.guardN rfl rfl rfl rfl (by rw [c10]; decide) ?_
    refine Ops.guardN rfl rfl rfl rfl (by rw [c10]; decide) ?_
    refine Ops.pure rfl (Pure.pickF rfl c10 rfl) ?_
    refine Ops.pure rfl (Pure.assign rfl) ?_
    refine Ops.nil ?_
    refine Run.ret1 rfl rfl ?_
    first
      | rfl
      | (simp_all; done)
      | (simp_all; omega)

set_option maxRecDepth 4000 in
/-- spec.l00In -/
theorem f_s_l00In (w : World) (x : Int) (a : Int) (b : Int) : RetV Try.prog 119 [.int .i64 x, .int .i64 a, .int .i64 b] w (.bool (decide (a ≤ x ∧ x ≤ b))) := by
  refine Ret.enter Try.func119 rfl Try.ntmps119 rfl ?_
  refine Run.seq ?_
  refine Run.region ?_
  refine Ops.pure rfl (Pure.assign rfl) ?_
  refine Ops.nil ?_
  refine Run.seq ?_
  refine Run.region ?_
  refine Ops.pure rfl (Pure.move rfl) ?_
  refine Ops.pure rfl (Pure.move rfl) ?_
  refine Ops.pure rfl (Pure.geq rfl rfl) ?_
  refine Ops.pure rfl (Pure.move rfl) ?_
  refine Ops.guard rfl rfl rfl rfl (fun c10 => ?_) (fun c10 => ?_)
  · skip
    have c10' := dT c10
    refine Ops.pure rfl (Pure.move rfl) ?_
    refine Ops.guardY rfl rfl rfl c10 ?_
    refine Ops.pure rfl (Pure.move rfl) ?_
    refine Ops.guardY rfl rfl rfl c10 ?_
    refine Ops.pure rfl (Pure.leq rfl rfl) ?_
    refine Ops.pure rfl (Pure.pickT rfl c10 rfl) ?_
    refine Ops.pure rfl (Pure.assign rfl) ?_
    refine Ops.nil ?_
    refine Run.ret1 rfl rfl ?_
    first
      | rfl
      | (simp_all; done)
      | (simp_all; omega)
  · skip
    replace c10 := Bool.eq_false_of_ne c10
    have c10' := dF c10
    refine Ops.guardN rfl rfl rfl rfl (by rw [c10]; decide) ?_
    refine Ops.guardN rfl rfl rfl rfl (by rw [c10]; decide) ?_
    refine Ops.pure rfl (Pure.pickF rfl c10 rfl) ?_
    refine Ops.pure rfl (Pure.assign rfl) ?_
    refine Ops.nil ?_
    refine Run.ret1 rfl rfl ?_
    first
      | rfl
      | (simp_all; done)
      | (simp_all; omega)

set_option maxRecDepth 4000 in
/-- spec.l00Same -/
theorem f_s_l00Same (w : World) (v : Value) (u : Value) (l : List Int) (m : List Int) (hv : Rd w v 1 l.length (ints l)) (hu : Rd w u 1 m.length (ints m)) (hl : l.length ≤ 1073741824) (hm : m.length ≤ 1073741824) : RetV Try.prog 90 [v, u] w (.bool (decide (l = m))) := by
  refine Ret.enter Try.func90 rfl Try.ntmps90 rfl ?_
  refine Run.seq ?_
  refine Run.region ?_
  refine Ops.pure rfl (Pure.assign rfl) ?_
  refine Ops.nil ?_
  refine Run.seq ?_
  refine Run.seq ?_
  refine Run.region ?_
  refine Ops.pure rfl (Pure.move rfl) ?_
  refine Ops.pure rfl (Pure.len sl32 (RdL.old hv) rfl) ?_
  refine Ops.pure rfl (Pure.move rfl) ?_
  refine Ops.pure rfl (Pure.len sl32 (RdL.old hu) rfl) ?_
  refine Ops.pure rfl (Pure.neq rfl rfl) ?_
  refine Ops.nil ?_
  refine Run.cond rfl (fun c10 => ?_) (fun c10 => ?_)
  · skip
    replace c10 := nT c10
    refine Run.seq ?_
    refine Run.region ?_
    refine Ops.pure rfl (Pure.assign rfl) ?_
    refine Ops.nil ?_
    refine Run.ret1 rfl rfl ?_
    rw [decide_eq_false (by rintro rfl; exact c10 rfl)]
  · skip
    replace c10 := nF c10
    have hlen : l.length = m.length := by omega
    refine Run.skip ?_
    refine Run.seq ?_
    refine Run.seq ?_
    refine Run.region ?_
    refine Ops.pure rfl (Pure.assign rfl) ?_
    refine Ops.nil ?_
    refine Run.block ?_
    refine Run.loop (X := Nat) (fun k => [(0, v), (1, u), (5, .int .i64 k)]) (fun k => []) (fun k => k ≤ l.length ∧ ∀ j, j < k → l.getD j 0 = m.getD j 0) (fun k => l.length - k) 0 ?_ ?_ ?_ ?_
    · exact ⟨by omega, by omega⟩
    · exact ⟨rfl, rfl, rfl, trivial⟩
    · exact Ext.refl _
    · intro k hinv0
      refine Run.seq ?_
      refine Run.seq ?_
      refine Run.region ?_
      refine Ops.pure rfl (Pure.move rfl) ?_
      refine Ops.pure rfl (Pure.move rfl) ?_
      refine Ops.pure rfl (Pure.len sl32 (RdL.old hv) rfl) ?_
      refine Ops.pure rfl (Pure.lss rfl rfl) ?_
      refine Ops.nil ?_
      refine Run.cond rfl (fun c14 => ?_) (fun c14 => ?_)
      · skip
        replace c14 := dT c14
        refine Run.skip ?_
        refine Run.seq ?_
        refine Run.block ?_
        refine Run.seq ?_
        refine Any.start follows ?_
        refine Any.take 0 rfl (by kernel_rfl) rfl (QOp.pure (Pure.move rfl)) ?_
        refine Any.take 1 rfl (by kernel_rfl) rfl (QOp.pure (Pure.move rfl)) ?_
        refine Any.take 2 rfl (by kernel_rfl) rfl (QOp.pure (Pure.idx1N sl32 (RdL.old hv) rfl rfl (by first | assumption | omega | (simp; omega)))) ?_
        refine Any.take 3 rfl (by kernel_rfl) rfl (QOp.pure (Pure.ld cell2 rfl (RdL.old hv) (by first | exact ints_get (by omega) | exact bools_get (by omega) | exact strs_get (by omega) | exact vals_get (by first | omega | (simp; omega))))) ?_
        refine Any.take 4 rfl (by kernel_rfl) rfl (QOp.pure (Pure.move rfl)) ?_
        refine Any.take 5 rfl (by kernel_rfl) rfl (QOp.pure (Pure.move rfl)) ?_
        refine Any.take 6 rfl (by kernel_rfl) rfl (QOp.pure (Pure.idx1N sl32 (RdL.old hu) rfl rfl (by first | assumption | omega | (simp; omega)))) ?_
        refine Any.take 7 rfl (by kernel_rfl) rfl (QOp.pure (Pure.ld cell2 rfl (RdL.old hu) (by first | exact ints_get (by omega) | exact bools_get (by omega) | exact strs_get (by omega) | exact vals_get (by first | omega | (simp; omega))))) ?_
        refine Any.take 8 rfl (by kernel_rfl) rfl (QOp.pure (Pure.neq rfl rfl)) ?_
        refine Any.done (by kernel_rfl) ?_
        refine Run.cond rfl (fun c25 => ?_) (fun c25 => ?_)
        · skip
          replace c25 := nT c25
          refine Run.seq ?_
          refine Run.region ?_
          refine Ops.pure rfl (Pure.assign rfl) ?_
          refine Ops.nil ?_
          refine Run.ret1 rfl rfl ?_
          rw [decide_eq_false (by rintro rfl; exact c25 rfl)]
        · skip
          replace c25 := nF c25
          refine Run.skip ?_
          refine Run.blk ?_
          refine Run.region ?_
          refine Ops.pure rfl (Pure.move rfl) ?_
          refine Ops.pure rfl (Pure.add rfl rfl (by omega) (by omega)) ?_
          refine Ops.pure rfl (Pure.assign rfl) ?_
          refine Ops.nil ?_
          refine Run.asrt ?_
          exact ⟨k + 1, ⟨⟨by omega, fun j hj => step_lt (p := fun j => l.getD j 0 = m.getD j 0) hj hinv0.2 c25⟩, by omega⟩, ⟨rfl, rfl, rfl, trivial⟩, Ext.nil _⟩
      · skip
        replace c14 := dF c14
        refine Run.exit rfl ?_
        refine Run.seq ?_
        refine Run.region ?_
        refine Ops.pure rfl (Pure.assign rfl) ?_
        refine Ops.nil ?_
        refine Run.ret1 rfl rfl ?_
        rw [decide_eq_true (ext_getD 0 hlen (fun j hj => hinv0.2 j (by omega)))]

set_option maxRecDepth 4000 in
/-- spec.l00Has -/
theorem f_s_l00Has (w : World) (v : Value) (l : List Int) (x : Int) (hv : Rd w v 1 l.length (ints l)) (hl : l.length ≤ 1073741824) : RetV Try.prog 195 [v, .int .i64 x] w (.bool (decide (x ∈ l))) := by
  refine Ret.enter Try.func195 rfl Try.ntmps195 rfl ?_
  refine Run.seq ?_
  refine Run.region ?_
  refine Ops.pure rfl (Pure.assign rfl) ?_
  refine Ops.nil ?_
  refine Run.seq ?_
  refine Run.seq ?_
  refine Run.region ?_
  refine Ops.pure rfl (Pure.assign rfl) ?_
  refine Ops.nil ?_
  refine Run.block ?_
  refine Run.loop (X := Nat) (fun k => [(0, v), (1, .int .i64 x), (5, .int .i64 k)]) (fun k => []) (fun k => k ≤ l.length ∧ ∀ j, j < k → l.getD j 0 ≠ x) (fun k => l.length - k) 0 ?_ ?_ ?_ ?_
  · exact ⟨by omega, by omega⟩
  · exact ⟨rfl, rfl, rfl, trivial⟩
  · exact Ext.refl _
  · intro k hinv0
    refine Run.seq ?_
    refine Run.seq ?_
    refine Run.region ?_
    refine Ops.pure rfl (Pure.move rfl) ?_
    refine Ops.pure rfl (Pure.move rfl) ?_
    refine Ops.pure rfl (Pure.len sl32 (RdL.old hv) rfl) ?_
    refine Ops.pure rfl (Pure.lss rfl rfl) ?_
    refine Ops.nil ?_
    refine Run.cond rfl (fun c9 => ?_) (fun c9 => ?_)
    · skip
      replace c9 := dT c9
      refine Run.skip ?_
      refine Run.seq ?_
      refine Run.block ?_
      refine Run.seq ?_
      refine Run.region ?_
      refine Ops.pure rfl (Pure.move rfl) ?_
      refine Ops.pure rfl (Pure.move rfl) ?_
      refine Ops.pure rfl (Pure.idx1N sl32 (RdL.old hv) rfl rfl (by first | assumption | omega | (simp; omega))) ?_
      refine Ops.pure rfl (Pure.ld cell2 rfl (RdL.old hv) (by first | exact ints_get (by omega) | exact bools_get (by omega) | exact strs_get (by omega) | exact vals_get (by first | omega | (simp; omega)))) ?_
      refine Ops.pure rfl (Pure.move rfl) ?_
      refine Ops.pure rfl (Pure.eql rfl rfl) ?_
      refine Ops.nil ?_
      refine Run.cond rfl (fun c17 => ?_) (fun c17 => ?_)
      · skip
        replace c17 := dT c17
        refine Run.seq ?_
        refine Run.region ?_
        refine Ops.pure rfl (Pure.assign rfl) ?_
        refine Ops.nil ?_
        refine Run.ret1 rfl rfl ?_
        rw [decide_eq_true (mem_of_getD (by omega) c17)]
      · skip
        replace c17 := dF c17
        refine Run.skip ?_
        refine Run.blk ?_
        refine Run.region ?_
        refine Ops.pure rfl (Pure.move rfl) ?_
        refine Ops.pure rfl (Pure.add rfl rfl (by omega) (by omega)) ?_
        refine Ops.pure rfl (Pure.assign rfl) ?_
        refine Ops.nil ?_
        refine Run.asrt ?_
        exact ⟨k + 1, ⟨⟨by omega, fun j hj => step_lt (p := fun j => l.getD j 0 ≠ x) hj hinv0.2 c17⟩, by omega⟩, ⟨rfl, rfl, rfl, trivial⟩, Ext.nil _⟩
    · skip
      replace c9 := dF c9
      refine Run.exit rfl ?_
      refine Run.seq ?_
      refine Run.region ?_
      refine Ops.pure rfl (Pure.assign rfl) ?_
      refine Ops.nil ?_
      refine Run.ret1 rfl rfl ?_
      rw [decide_eq_false (not_mem_of_getD (k := k) (by omega) hinv0.2)]

set_option maxRecDepth 4000 in
/-- slices.Index[[]int64,int64] -/
theorem f_slices_Index_int64_int64 (w : World) (v : Value) (l : List Int) (x : Int) (hv : Rd w v 1 l.length (ints l)) (hl : l.length ≤ 1073741824) : RetV Try.prog 216 [v, .int .i64 x] w (.int .i64 (fIdx l x)) := by
  refine Ret.enter Try.func216 rfl Try.ntmps216 rfl ?_
  refine Run.seq ?_
  refine Run.region ?_
  refine Ops.pure rfl (Pure.assign rfl) ?_
  refine Ops.nil ?_
  refine Run.seq ?_
  refine Run.seq ?_
  refine Run.region ?_
  refine Ops.pure rfl (Pure.move rfl) ?_
  refine Ops.pure rfl (Pure.len sl32 (RdL.old hv) rfl) ?_
  refine Ops.pure rfl (Pure.move rfl) ?_
  refine Ops.nil ?_
  refine Run.block ?_
  refine Run.loop (X := Nat) (fun k => [(0, v), (1, .int .i64 x), (7, .int .i64 l.length), (8, .int .i64 k)]) (fun k => []) (fun k => k ≤ l.length ∧ ∀ j, j < k → l.getD j 0 ≠ x) (fun k => l.length - k) 0 ?_ ?_ ?_ ?_
  · exact ⟨by omega, by omega⟩
  · exact ⟨rfl, rfl, rfl, rfl, trivial⟩
  · exact Ext.refl _
  · intro k hinv0
    refine Run.seq ?_
    refine Run.region ?_
    refine Ops.pure rfl (Pure.lss rfl rfl) ?_
    refine Ops.nil ?_
    refine Run.seq ?_
    refine Run.cond rfl (fun c9 => ?_) (fun c9 => ?_)
    · skip
      replace c9 := dT c9
      refine Run.skip ?_
      refine Run.seq ?_
      refine Run.block ?_
      refine Run.seq ?_
      refine Run.region ?_
      refine Ops.pure rfl (Pure.move rfl) ?_
      refine Ops.pure rfl (Pure.assign rfl) ?_
      refine Ops.nil ?_
      refine Run.seq ?_
      refine Run.region ?_
      refine Ops.pure rfl (Pure.move rfl) ?_
      refine Ops.pure rfl (Pure.move rfl) ?_
      refine Ops.pure rfl (Pure.move rfl) ?_
      refine Ops.pure rfl (Pure.idx1N sl32 (RdL.old hv) rfl rfl (by first | assumption | omega | (simp; omega))) ?_
      refine Ops.pure rfl (Pure.ld cell2 rfl (RdL.old hv) (by first | exact ints_get (by omega) | exact bools_get (by omega) | exact strs_get (by omega) | exact vals_get (by first | omega | (simp; omega)))) ?_
      refine Ops.pure rfl (Pure.eql rfl rfl) ?_
      refine Ops.nil ?_
      refine Run.cond rfl (fun c16 => ?_) (fun c16 => ?_)
      · skip
        replace c16 := dT c16
        refine Run.seq ?_
        refine Run.region ?_
        refine Ops.pure rfl (Pure.move rfl) ?_
        refine Ops.pure rfl (Pure.assign rfl) ?_
        refine Ops.nil ?_
        refine Run.ret1 rfl rfl ?_
        rw [fIdx_at (by omega) c16.symm hinv0.2]
      · skip
        replace c16 := dF c16
        refine Run.skip ?_
        refine Run.blk ?_
        refine Run.region ?_
        refine Ops.pure rfl (Pure.add rfl rfl (by omega) (by omega)) ?_
        refine Ops.pure rfl (Pure.move rfl) ?_
        refine Ops.nil ?_
        refine Run.asrt ?_
        exact ⟨k + 1, ⟨⟨by omega, fun j hj => step_lt (p := fun j => l.getD j 0 ≠ x) hj hinv0.2 (fun h => c16 h.symm)⟩, by omega⟩, ⟨rfl, rfl, rfl, rfl, trivial⟩, Ext.nil _⟩
    · skip
      replace c9 := dF c9
      refine Run.exit rfl ?_
      refine Run.seq ?_
      refine Run.region ?_
      refine Ops.pure rfl (Pure.assign rfl) ?_
      refine Ops.nil ?_
      refine Run.ret1 rfl rfl ?_
      rw [fIdx_none (k := k) (by omega) hinv0.2]

set_option maxRecDepth 4000 in
/-- slices.Contains[[]int64,int64] -/
theorem f_slices_Contains_int64_int64 (w : World) (v : Value) (l : List Int) (x : Int) (hv : Rd w v 1 l.length (ints l)) (hl : l.length ≤ 1073741824) : RetV Try.prog 182 [v, .int .i64 x] w (.bool (decide (x ∈ l))) := by
  refine Ret.enter Try.func182 rfl Try.ntmps182 rfl ?_
  refine Run.seq ?_
  refine Run.region ?_
  refine Ops.pure rfl (Pure.assign rfl) ?_
  refine Ops.nil ?_
  refine Run.seq ?_
  refine Run.region ?_
  refine Ops.pure rfl (Pure.move rfl) ?_
  refine Ops.pure rfl (Pure.move rfl) ?_
  refine Ops.q rfl (QOp.call fn216 rfl (fun w hw => f_slices_Index_int64_int64 w _ _ _ (by exact RdL.old (by assumption) w hw) (by assumption))) ?_
  refine Ops.pure rfl (Pure.geq rfl rfl) ?_
  refine Ops.pure rfl (Pure.assign rfl) ?_
  refine Ops.nil ?_
  refine Run.ret1 rfl rfl ?_
  rw [fIdx_nonneg]

set_option maxRecDepth 4000 in
/-- spec.l00Own -/
theorem f_s_l00Own (w : World) (v : Value) (l : List Int) (hv : Rd w v 1 l.length (ints l)) (hl : l.length ≤ 1073741824) : Ret Try.prog 196 [v] w (fun u L => L = [.row 2 1 u l.length (ints l)]) := by
  refine Ret.enter Try.func196 rfl Try.ntmps196 rfl ?_
  refine Run.seq ?_
  refine Run.region ?_
  refine Ops.pure rfl (Pure.assign rfl) ?_
  refine Ops.nil ?_
  refine Run.seq ?_
  refine Run.region ?_
  refine Ops.go rfl (Loud.lit sl32 rfl rfl rfl (by simp [Value.oneCell'])) ?_
  rintro v3 _ rfl
  refine Ops.pure rfl (Pure.move rfl) ?_
  refine Ops.go rfl (Loud.append 0 rfl sl32 rfl rfl (RdL.old hv) (by simp [Value.oneCell']) (by omega) (by omega)) ?_
  rintro v5 _ rfl
  refine Ops.pure rfl (Pure.assign rfl) ?_
  refine Ops.nil ?_
  refine Run.ret1 rfl rfl ?_
  show [_] = [_]
  rw [Nat.zero_add, List.nil_append]

set_option maxRecDepth 4000 in
/-- slices.Clone[[]int64,int64] -/
theorem f_slices_Clone_int64_int64 (w : World) (v : Value) (l : List Int) (hv : Rd w v 1 l.length (ints l)) (hl : l.length ≤ 1073741824) : Ret Try.prog 166 [v] w (fun u L => L = [.row 2 1 u l.length (ints l)]) := by
  refine Ret.enter Try.func166 rfl Try.ntmps166 rfl ?_
  refine Run.seq ?_
  refine Run.region ?_
  refine Ops.pure rfl (Pure.assign rfl) ?_
  refine Ops.nil ?_
  refine Run.seq ?_
  refine Run.seq ?_
  refine Run.region ?_
  refine Ops.pure rfl (Pure.move rfl) ?_
  refine Ops.pure rfl (Pure.eqlNil sl32 (RdL.old hv) rfl rfl) ?_
  refine Ops.nil ?_
  refine Run.cond rfl (fun c4 => ?_) (fun c4 => ?_)
  · skip
    skip
    have hn : l = [] := by simpa using hv.nil_of c4
    subst hn
    refine Run.addNil 2 1 ?_
    refine Run.seq ?_
    refine Run.region ?_
    refine Ops.pure rfl (Pure.assign rfl) ?_
    refine Ops.nil ?_
    refine Run.ret1 rfl rfl ?_
    rfl
  · skip
    skip
    refine Run.skip ?_
    refine Run.seq ?_
    refine Run.region ?_
    refine Ops.go rfl (Loud.lit sl32 rfl rfl rfl (by simp [Value.oneCell'])) ?_
    rintro v5 _ rfl
    refine Ops.pure rfl (Pure.move rfl) ?_
    refine Ops.go rfl (Loud.append 0 rfl sl32 rfl rfl (RdL.old hv) (by simp [Value.oneCell']) (by omega) (by omega)) ?_
    rintro v7 _ rfl
    refine Ops.pure rfl (Pure.assign rfl) ?_
    refine Ops.nil ?_
    refine Run.ret1 rfl rfl ?_
    show [_] = [_]
    rw [Nat.zero_add, List.nil_append]

end Go.Proofs.Ytmfinopdokkjcaa
