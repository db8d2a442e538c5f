/- Contracts of functions, printed by program from annotations. -/
import Derived.Test.YtkplanpcmkbfiaaEds2
namespace Go.Proofs.Ytkplanpcmkbfiaa
open Go Go.AW Go.RowKit
set_option linter.unusedVariables false
set_option linter.unusedSimpArgs false

theorem heldPanel_again (k : Int) (l : List Int) : (if marks k l.length = marks k (marks k l.length).length then k + ((marks k l.length).length : Int) else -1) = k + l.length := heldInt64S_again k l
theorem beL_size (a b : Int) (l : List Int) (a' b' : Int) (l' : List Int) : (beL a b l a' b' l').length ≤ l.length := Nat.le_trans (lif_size _ _) (length_betw l l' l.length)

end Go.Proofs.Ytkplanpcmkbfiaa
