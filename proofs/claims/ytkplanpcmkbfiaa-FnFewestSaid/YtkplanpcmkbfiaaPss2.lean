/- Contracts of functions, printed by program from annotations. -/
import Derived.Test.YtkplanpcmkbfiaaPss
namespace Go.Proofs.Ytkplanpcmkbfiaa
open Go Go.AW Go.RowKit
set_option linter.unusedVariables false
set_option linter.unusedSimpArgs false

theorem psL_none {a b c : Int} {l : List Int} (h : ¬ psE a b l c = 0) : psL a b l c = [] := by unfold psL; rw [if_neg h]
theorem length_passes (l : List (Int × Bool)) : (passes l).length = l.length * 2 := length_flatMap encP_len l
theorem set2b : ∀ (l : List (Int × Bool)) (i : Nat) (x : Int) (y : Bool), i < l.length → ((passes l).set (i * 2 + 0) (.int .i64 x)).set (i * 2 + 1) (.bool y) = passes (l.set i (x, y))
  | [], i, _, _, h => by simp at h
  | e :: l, 0, x, y, _ => rfl
  | e :: l, i + 1, x, y, h => by
    have ih := set2b l i x y (by simpa using h)
    rw [show (i + 1) * 2 + 0 = i * 2 + 0 + 1 + 1 by omega, show (i + 1) * 2 + 1 = i * 2 + 1 + 1 + 1 by omega]
    show Value.int .i64 e.1 :: Value.bool e.2 :: ((passes l).set (i * 2 + 0) (.int .i64 x)).set (i * 2 + 1) (.bool y) = Value.int .i64 e.1 :: Value.bool e.2 :: passes (l.set i (x, y))
    rw [ih]
def mkP (k : Int) (i : Nat) : Int × Bool := (k + 2 * (i : Int), decide ((k + 2 * (i : Int) + 1) % 3 = 0))
def marksP (k : Int) (n : Nat) : List (Int × Bool) := (List.range n).map (mkP k)
theorem length_marksP (k : Int) (n : Nat) : (marksP k n).length = n := by simp [marksP]
theorem marksP_getD {k : Int} {n i : Nat} (h : i < n) : (marksP k n).getD i (0, false) = mkP k i := by simp [marksP, List.getD, h]
def markToP (k : Int) (l : List (Int × Bool)) (j : Nat) : List (Int × Bool) := marksP k j ++ l.drop j
theorem markToP_zero (k : Int) (l : List (Int × Bool)) : markToP k l 0 = l := by simp [markToP, marksP]
theorem markToP_full {k : Int} {l : List (Int × Bool)} {j : Nat} (h : j = l.length) : markToP k l j = marksP k l.length := by subst h; simp [markToP]
theorem length_markToP {k : Int} {l : List (Int × Bool)} {j : Nat} (h : j ≤ l.length) : (markToP k l j).length = l.length := by simp [markToP, length_marksP]; omega
theorem markToP_step {k : Int} {l : List (Int × Bool)} {j : Nat} (h : j < l.length) : (markToP k l j).set j (mkP k j) = markToP k l (j + 1) := by
  unfold markToP
  rw [List.set_append, if_neg (by simp [length_marksP]), length_marksP, Nat.sub_self, List.drop_eq_getElem_cons h, List.set_cons_zero]
  simp [marksP, List.range_succ]
theorem beqB (x y : Bool) : (x == y) = decide (x = y) := by cases x <;> cases y <;> rfl
theorem heldRdP {w : World} {v : Value} {k : Int} {n : Nat} (h : Rd w v 2 n (passes (marksP k n))) : Rd w v 2 (marksP k n).length (passes (marksP k n)) := by rw [length_marksP]; exact h
theorem heldPassS_again (k : Int) (l : List (Int × Bool)) : (if marksP k l.length = marksP k (marksP k l.length).length then k + 2 * ((marksP k l.length).length : Int) else -1) = k + 2 * (l.length : Int) := by
  rw [length_marksP, if_pos rfl]

set_option maxRecDepth 4000 in
/-- impl.CountOver -/
theorem f_i_CountOver (w : World) (a : Int) (b : Int) (v : Value) (l : List Int) (c : Int) (hv : Rd w v 1 l.length (ints l)) (hl : l.length ≤ 1073741824) (a0 : -9223372036854775808 ≤ a) (a1 : a ≤ 9223372036854775807) (b0 : -9223372036854775808 ≤ b) (b1 : b ≤ 9223372036854775807) (c0 : -9223372036854775808 ≤ c) (c1 : c ≤ 9223372036854775807) : RetV Try.prog 67 [.agg #[.int .i64 a, .int .i64 b, v], .int .i64 c] w (.tuple #[.int .i64 (ovN (psL a b l c) (psL a b l c).length : Int), .int .i64 (psE a b l c)]) := by
  have hpz := psL_size a b l c
  refine Ret.enter Try.func67 rfl Try.ntmps67 rfl ?_
  refine Run.seq ?_
  refine Run.region ?_
  refine Ops.go rfl (Loud.box rfl rfl) ?_
  rintro _ _ ⟨b2, rfl, rfl⟩
  refine Ops.pure rfl (Pure.assign rfl) ?_
  refine Ops.pure rfl (Pure.assign rfl) ?_
  refine Ops.nil ?_
  refine Run.seq ?_
  refine Run.region ?_
  refine Ops.pure rfl (Pure.ldBA 0 rfl cell28 rfl rfl rfl) ?_
  refine Ops.pure rfl (Pure.move rfl) ?_
  refine Ops.go rfl (Loud.callR fn66 rfl (fun w hw => f_i_PassesOf w _ _ _ _ _ (by exact RdL.old (by assumption) w hw) (by assumption) (by assumption) (by assumption) (by assumption) (by assumption) (by assumption) (by assumption))) ?_
  rintro v14 _ ⟨L14, hQ14, rfl⟩
  obtain ⟨x14, rfl, rfl⟩ := hQ14
  refine Ops.pure rfl (Pure.move rfl) ?_
  refine Ops.pure rfl (Pure.extract rfl rfl) ?_
  refine Ops.pure rfl (Pure.extract rfl rfl) ?_
  refine Ops.pure rfl (Pure.assign rfl) ?_
  refine Ops.pure rfl (Pure.assign rfl) ?_
  refine Ops.nil ?_
  refine Run.seq ?_
  refine Run.region ?_
  refine Ops.pure rfl (Pure.assign rfl) ?_
  refine Ops.nil ?_
  refine Run.seq ?_
  refine Run.seq ?_
  refine Run.region ?_
  refine Ops.pure rfl (Pure.move rfl) ?_
  refine Ops.pure rfl (Pure.len sl84 (RdL.own 0 rfl) rfl) ?_
  refine Ops.pure rfl (Pure.move rfl) ?_
  refine Ops.nil ?_
  refine Run.block ?_
  refine Run.loop (X := Nat) (fun k => [(7, .int .i64 (psE a b l c)), (8, .int .i64 (ovN (psL a b l c) k : Int)), (17, x14), (18, .int .i64 (psL a b l c).length), (19, .int .i64 k)]) (fun k => [.row 89 2 x14 (psL a b l c).length (passes (psL a b l c))]) (fun k => k ≤ (psL a b l c).length) (fun k => (psL a b l c).length - k) 0 ?_ ?_ ?_ ?_
  · exact Nat.zero_le _
  · exact ⟨rfl, rfl, rfl, rfl, rfl, trivial⟩
  · exact Ext.take 0 rfl (Ext.nil _)
  · intro k hinv0
    have hol := ovN_le (psL a b l c) k
    refine Run.seq ?_
    refine Run.region ?_
    refine Ops.pure rfl (Pure.lss rfl rfl) ?_
    refine Ops.nil ?_
    refine Run.seq ?_
    refine Run.cond rfl (fun c20 => ?_) (fun c20 => ?_)
    · skip
      replace c20 := dT c20
      refine Run.skip ?_
      refine Run.seq ?_
      refine Run.block ?_
      refine Run.seq ?_
      refine Run.region ?_
      refine Ops.pure rfl (Pure.idxN sl84 (RdL.own 0 rfl) rfl rfl (by first | assumption | omega | (simp; omega))) ?_
      refine Ops.pure rfl (Pure.ldA cell89 rfl (RdL.own 0 rfl) (seg_get encP_len (by omega) (0, false)) rfl (by decide)) ?_
      refine Ops.go rfl (Loud.alloc zero89 rfl) ?_
      rintro _ _ ⟨b10, rfl, rfl⟩
      refine Ops.store (Stores.box 0 rfl rfl rfl size89 (allOne rfl) rfl rfl) ?_
      refine Ops.nil ?_
      refine Run.seq ?_
      refine Run.region ?_
      refine Ops.pure rfl (Pure.fieldAddrB fld89_1 rfl) ?_
      refine Ops.pure rfl (Pure.ldB 0 rfl cell4 rfl rfl) ?_
      refine Ops.nil ?_
      refine Run.cond rfl (fun c24 => ?_) (fun c24 => ?_)
      · skip
        skip
        refine Run.region ?_
        refine Ops.pure rfl (Pure.move rfl) ?_
        refine Ops.pure rfl (Pure.add rfl rfl (by omega) (by omega)) ?_
        refine Ops.pure rfl (Pure.assign rfl) ?_
        refine Ops.nil ?_
        refine Run.blk ?_
        refine Run.region ?_
        refine Ops.pure rfl (Pure.add rfl rfl (by omega) (by omega)) ?_
        refine Ops.pure rfl (Pure.move rfl) ?_
        refine Ops.nil ?_
        refine Run.asrt ?_
        first
          | exact ⟨k + 1, ⟨by omega, by omega⟩, ⟨rfl, congrArg (fun x => some (Value.int .i64 x)) (by rw [ovN_yes c24]; omega), rfl, rfl, rfl, trivial⟩, Ext.right [_] _⟩
          | exact ⟨k + 1, ⟨by omega, by omega⟩, ⟨rfl, congrArg (fun x => some (Value.int .i64 x)) (by rw [ovN_no c24]), rfl, rfl, rfl, trivial⟩, Ext.right [_] _⟩
      · skip
        skip
        refine Run.skip ?_
        refine Run.blk ?_
        refine Run.region ?_
        refine Ops.pure rfl (Pure.add rfl rfl (by omega) (by omega)) ?_
        refine Ops.pure rfl (Pure.move rfl) ?_
        refine Ops.nil ?_
        refine Run.asrt ?_
        first
          | exact ⟨k + 1, ⟨by omega, by omega⟩, ⟨rfl, congrArg (fun x => some (Value.int .i64 x)) (by rw [ovN_yes c24]; omega), rfl, rfl, rfl, trivial⟩, Ext.right [_] _⟩
          | exact ⟨k + 1, ⟨by omega, by omega⟩, ⟨rfl, congrArg (fun x => some (Value.int .i64 x)) (by rw [ovN_no c24]), rfl, rfl, rfl, trivial⟩, Ext.right [_] _⟩
    · skip
      replace c20 := dF c20
      refine Run.exit rfl ?_
      refine Run.seq ?_
      refine Run.region ?_
      refine Ops.pure rfl (Pure.move rfl) ?_
      refine Ops.pure rfl (Pure.move rfl) ?_
      refine Ops.pure rfl (Pure.assign rfl) ?_
      refine Ops.pure rfl (Pure.assign rfl) ?_
      refine Ops.nil ?_
      refine Run.ret2 rfl rfl rfl ?_
      have e : k = (psL a b l c).length := by omega
      subst e
      rfl

end Go.Proofs.Ytkplanpcmkbfiaa
