/- Contracts of functions, printed by program from annotations. -/
import Derived.Test.YtmfinopdokkjcaaRead
namespace Go.Proofs.Ytmfinopdokkjcaa
open Go Go.AW Go.RowKit
set_option linter.unusedVariables false
set_option linter.unusedSimpArgs false

def mtB (k : Nat) : ByteArray := if k = 0 then strOf [109, 48] else strOf (109 :: digs k)
theorem mtB_zero : mtB 0 = strOf [109, 48] := rfl
theorem mtB_pos {k : Nat} (h : ¬ k = 0) : mtB k = strOf (109 :: digs k) := by unfold mtB; rw [if_neg h]
/-- the marks from k on -/
def marksS (k n : Nat) : List ByteArray := (List.range n).map fun i => mtB (k + i)
theorem length_marksS (k n : Nat) : (marksS k n).length = n := by simp [marksS]
theorem marksS_getD {k n i : Nat} (h : i < n) : (marksS k n).getD i ByteArray.empty = mtB (k + i) := by simp [marksS, List.getD, h]
def markToS (k : Nat) (l : List ByteArray) (j : Nat) : List ByteArray := marksS k j ++ l.drop j
theorem markToS_zero (k : Nat) (l : List ByteArray) : markToS k l 0 = l := by simp [markToS, marksS]
theorem markToS_full {k : Nat} {l : List ByteArray} {j : Nat} (h : j = l.length) : markToS k l j = marksS k l.length := by subst h; simp [markToS]
theorem length_markToS {k : Nat} {l : List ByteArray} {j : Nat} (h : j ≤ l.length) : (markToS k l j).length = l.length := by simp [markToS, length_marksS]; omega
theorem markToS_step {k : Nat} {l : List ByteArray} {j : Nat} (h : j < l.length) : (strs (markToS k l j)).set j (.string (mtB (k + j))) = strs (markToS k l (j + 1)) := by
  have e : markToS k l (j + 1) = (markToS k l j).set j (mtB (k + j)) := by
    unfold markToS
    rw [List.set_append, if_neg (by simp [length_marksS]), length_marksS, Nat.sub_self, List.drop_eq_getElem_cons h, List.set_cons_zero]
    simp [marksS, List.range_succ]
  rw [e, strs, strs, List.map_set]

theorem heldRdS {w : World} {v : Value} {k n : Nat} (h : Rd w v 1 n (strs (marksS k n))) : Rd w v 1 (marksS k n).length (strs (marksS k n)) := by rw [length_marksS]; exact h
theorem heldStringS_again (k : Nat) (l : List ByteArray) : (if marksS k l.length = marksS k (marksS k l.length).length then ((k + (marksS k l.length).length : Nat) : Int) else -1) = ((k + l.length : Nat) : Int) := by
  rw [length_marksS, if_pos rfl]

end Go.Proofs.Ytmfinopdokkjcaa
