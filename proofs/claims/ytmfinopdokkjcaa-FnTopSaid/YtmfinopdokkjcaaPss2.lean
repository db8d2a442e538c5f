/- Contracts of functions, printed by program from annotations. -/
import Derived.Test.YtmfinopdokkjcaaPss
namespace Go.Proofs.Ytmfinopdokkjcaa
open Go Go.AW Go.RowKit
set_option linter.unusedVariables false
set_option linter.unusedSimpArgs false

theorem psL_none {a b c : Int} {l : List Int} (h : ¬ psE a b l c = 0) : psL a b l c = [] := by unfold psL; rw [if_neg h]
theorem length_passes (l : List (Int × Bool)) : (passes l).length = l.length * 2 := length_flatMap encP_len l
theorem set2b : ∀ (l : List (Int × Bool)) (i : Nat) (x : Int) (y : Bool), i < l.length → ((passes l).set (i * 2 + 0) (.int .i64 x)).set (i * 2 + 1) (.bool y) = passes (l.set i (x, y))
  | [], i, _, _, h => by simp at h
  | e :: l, 0, x, y, _ => rfl
  | e :: l, i + 1, x, y, h => by
    have ih := set2b l i x y (by simpa using h)
    rw [show (i + 1) * 2 + 0 = i * 2 + 0 + 1 + 1 by omega, show (i + 1) * 2 + 1 = i * 2 + 1 + 1 + 1 by omega]
    show Value.int .i64 e.1 :: Value.bool e.2 :: ((passes l).set (i * 2 + 0) (.int .i64 x)).set (i * 2 + 1) (.bool y) = Value.int .i64 e.1 :: Value.bool e.2 :: passes (l.set i (x, y))
    rw [ih]
def mkP (k : Int) (i : Nat) : Int × Bool := (k + 2 * (i : Int), decide ((k + 2 * (i : Int) + 1) % 3 = 0))
def marksP (k : Int) (n : Nat) : List (Int × Bool) := (List.range n).map (mkP k)
theorem length_marksP (k : Int) (n : Nat) : (marksP k n).length = n := by simp [marksP]
theorem marksP_getD {k : Int} {n i : Nat} (h : i < n) : (marksP k n).getD i (0, false) = mkP k i := by simp [marksP, List.getD, h]
def markToP (k : Int) (l : List (Int × Bool)) (j : Nat) : List (Int × Bool) := marksP k j ++ l.drop j
theorem markToP_zero (k : Int) (l : List (Int × Bool)) : markToP k l 0 = l := by simp [markToP, marksP]
theorem markToP_full {k : Int} {l : List (Int × Bool)} {j : Nat} (h : j = l.length) : markToP k l j = marksP k l.length := by subst h; simp [markToP]
theorem length_markToP {k : Int} {l : List (Int × Bool)} {j : Nat} (h : j ≤ l.length) : (markToP k l j).length = l.length := by simp [markToP, length_marksP]; omega
theorem markToP_step {k : Int} {l : List (Int × Bool)} {j : Nat} (h : j < l.length) : (markToP k l j).set j (mkP k j) = markToP k l (j + 1) := by
  unfold markToP
  rw [List.set_append, if_neg (by simp [length_marksP]), length_marksP, Nat.sub_self, List.drop_eq_getElem_cons h, List.set_cons_zero]
  simp [marksP, List.range_succ]
theorem beqB (x y : Bool) : (x == y) = decide (x = y) := by cases x <;> cases y <;> rfl
theorem heldRdP {w : World} {v : Value} {k : Int} {n : Nat} (h : Rd w v 2 n (passes (marksP k n))) : Rd w v 2 (marksP k n).length (passes (marksP k n)) := by rw [length_marksP]; exact h
theorem heldPassS_again (k : Int) (l : List (Int × Bool)) : (if marksP k l.length = marksP k (marksP k l.length).length then k + 2 * ((marksP k l.length).length : Int) else -1) = k + 2 * (l.length : Int) := by
  rw [length_marksP, if_pos rfl]

end Go.Proofs.Ytmfinopdokkjcaa
