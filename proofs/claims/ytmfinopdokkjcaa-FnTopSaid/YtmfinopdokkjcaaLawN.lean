/- Contracts of functions, printed by program from annotations. -/
import Derived.Test.YtmfinopdokkjcaaPanel
namespace Go.Proofs.Ytmfinopdokkjcaa
open Go Go.AW Go.RowKit
set_option linter.unusedVariables false
set_option linter.unusedSimpArgs false

theorem heldRd {w : World} {v : Value} {k : Int} {n : Nat} (h : Rd w v 1 n (ints (marks k n))) : Rd w v 1 (marks k n).length (ints (marks k n)) := by rw [length_marks]; exact h
theorem heldInt64S_again (k : Int) (l : List Int) : (if marks k l.length = marks k (marks k l.length).length then k + ((marks k l.length).length : Int) else -1) = k + l.length := by
  rw [length_marks, if_pos rfl]

end Go.Proofs.Ytmfinopdokkjcaa
