/- Contracts of functions, printed by program from annotations. -/
import Derived.Test.YtkplanpcmkbfiaaFacts
namespace Go.Proofs.Ytkplanpcmkbfiaa
open Go Go.AW Go.RowKit
set_option linter.unusedVariables false
set_option linter.unusedSimpArgs false

abbrev encP (p : Int × Bool) : List Value := [.int .i64 p.1, .bool p.2]
theorem encP_len (p : Int × Bool) : (encP p).length = 2 := rfl
abbrev passes (l : List (Int × Bool)) : List Value := l.flatMap encP

def altB (l : List (Int × Bool)) : Bool := (List.range l.length).all fun i => (l.getD i (0, false)).2 != (l.getD ((i + 1) % l.length) (0, false)).2

theorem altB_true {l : List (Int × Bool)} {k : Nat} (hk : ¬ k < l.length) (h : ∀ j, j < k → (l.getD j (0, false)).2 ≠ (l.getD ((j + 1) % l.length) (0, false)).2) : altB l = true := by
  unfold altB
  rw [List.all_eq_true]
  intro j hj
  have := h j (by have := List.mem_range.1 hj; omega)
  simpa [bne_iff_ne] using this
theorem altB_false {l : List (Int × Bool)} {k : Nat} (hk : k < l.length) (h : (l.getD k (0, false)).2 = (l.getD ((k + 1) % l.length) (0, false)).2) : altB l = false := by
  unfold altB
  rw [List.all_eq_false]
  exact ⟨k, List.mem_range.2 hk, by rw [h]; simp⟩

end Go.Proofs.Ytkplanpcmkbfiaa
