/- Contracts of functions, printed by program from annotations. -/
import Derived.Test.YtmfinopdokkjcaaChg
import Derived.Test.YtmfinopdokkjcaaPtL
namespace Go.Proofs.Ytmfinopdokkjcaa
open Go Go.AW Go.RowKit
set_option linter.unusedVariables false
set_option linter.unusedSimpArgs false

/-- what 'FirstChange' tells -/
def fiE (a b : Int) (l : List Int) (c : Int) : Int := if gcE a b l c = 0 then (if fcA a b l c < 0 then 3 else 0) else gcE a b l c
def fiV (a b : Int) (l : List Int) (c x : Int) : Int := if fiE a b l c = 0 then x else 0
theorem fi_bad {a b c : Int} {l : List Int} (h : ¬ gcE a b l c = 0) : fiE a b l c = gcE a b l c ∧ ∀ x, fiV a b l c x = 0 := by
  have h1 : fiE a b l c = gcE a b l c := by unfold fiE; rw [if_neg h]
  exact ⟨h1, fun x => by unfold fiV; rw [h1, if_neg h]⟩
theorem fi_no {a b c : Int} {l : List Int} (h : gcE a b l c = 0) (hn : fcA a b l c < 0) : fiE a b l c = 3 ∧ ∀ x, fiV a b l c x = 0 := by
  have h1 : fiE a b l c = 3 := by unfold fiE; rw [if_pos h, if_pos hn]
  exact ⟨h1, fun x => by unfold fiV; rw [h1]; rfl⟩
theorem fi_ok {a b c : Int} {l : List Int} (h : gcE a b l c = 0) (hn : ¬ fcA a b l c < 0) : fiE a b l c = 0 ∧ ∀ x, fiV a b l c x = x := by
  have h1 : fiE a b l c = 0 := by unfold fiE; rw [if_pos h, if_neg hn]
  exact ⟨h1, fun x => by unfold fiV; rw [if_pos h1]⟩

end Go.Proofs.Ytmfinopdokkjcaa
