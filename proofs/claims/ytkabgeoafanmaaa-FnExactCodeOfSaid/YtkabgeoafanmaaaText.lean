/- Contracts of functions, printed by program from annotations. -/
import Derived.Test.YtkabgeoafanmaaaDec
import Derived.Test.YtkabgeoafanmaaaPass
namespace Go.Proofs.Ytkabgeoafanmaaa
open Go Go.AW Go.RowKit
set_option linter.unusedVariables false
set_option linter.unusedSimpArgs false

def joinTo (sep : ByteArray) (ps : List ByteArray) : Nat → ByteArray
  | 0 => ByteArray.empty
  | k + 1 => if k = 0 then joinTo sep ps k ++ ps.getD k ByteArray.empty else (joinTo sep ps k ++ sep) ++ ps.getD k ByteArray.empty
theorem joinTo_first {sep : ByteArray} {ps : List ByteArray} {k : Nat} (h : ¬ 0 < (k : Int)) : joinTo sep ps (k + 1) = joinTo sep ps k ++ ps.getD k ByteArray.empty := by
  have : k = 0 := by omega
  subst this
  rfl
theorem joinTo_next {sep : ByteArray} {ps : List ByteArray} {k : Nat} (h : 0 < (k : Int)) : joinTo sep ps (k + 1) = (joinTo sep ps k ++ sep) ++ ps.getD k ByteArray.empty := by
  have : k ≠ 0 := by omega
  show (if k = 0 then _ else _) = _
  rw [if_neg this]
theorem joinTo_size {sep : ByteArray} {ps : List ByteArray} (hs : sep.size ≤ 16) (hp : ∀ k, k < ps.length → (ps.getD k ByteArray.empty).size ≤ 4194304) : ∀ k, k ≤ ps.length → (joinTo sep ps k).size ≤ k * 4194320
  | 0, _ => by simp [joinTo]
  | k + 1, h => by
    have h1 := joinTo_size hs hp k (by omega)
    have h2 := hp k (by omega)
    show (if k = 0 then joinTo sep ps k ++ ps.getD k ByteArray.empty else (joinTo sep ps k ++ sep) ++ ps.getD k ByteArray.empty).size ≤ _
    split
    · rw [ByteArray.size_append]; omega
    · rw [ByteArray.size_append, ByteArray.size_append]; omega
theorem strs_snoc {α : Type} {f : α → ByteArray} {l : List α} {k : Nat} (d : α) (h : k < l.length) : strs ((l.take (k + 1)).map f) = strs ((l.take k).map f) ++ [.string (f (l.getD k d))] := by
  rw [List.take_add_one, getD_some h d]
  simp
theorem getD_mapB {α : Type} {f : α → ByteArray} {l : List α} {k : Nat} (d : α) (h : k < l.length) : (l.map f).getD k ByteArray.empty = f (l.getD k d) := by simp [List.getD, h]
theorem sz_lit1 (x : UInt8) : (ByteArray.mk #[x]).size = 1 := rfl
def joinAll (sep : ByteArray) (ps : List ByteArray) : ByteArray := joinTo sep ps ps.length
def partP (p : Int × Bool) : ByteArray := strOf (if p.2 then [43] else [45]) ++ decB p.1
theorem partP_yes {p : Int × Bool} (h : p.2 = true) : partP p = strOf [43] ++ decB p.1 := by unfold partP; rw [h]; rfl
theorem partP_no {p : Int × Bool} (h : p.2 = false) : partP p = strOf [45] ++ decB p.1 := by unfold partP; rw [h]; rfl
theorem partP_size {p : Int × Bool} (h : -9223372036854775808 ≤ p.1 ∧ p.1 ≤ 9223372036854775807) : (partP p).size ≤ 21 := by
  have := decB_size h.1 h.2
  unfold partP
  rw [ByteArray.size_append, size_strOf]
  split <;> simp <;> omega

theorem mem_getD {α : Type} {l : List α} {k : Nat} (d : α) (h : k < l.length) : l.getD k d ∈ l := by simp [List.getD, List.getElem?_eq_getElem h]

end Go.Proofs.Ytkabgeoafanmaaa
