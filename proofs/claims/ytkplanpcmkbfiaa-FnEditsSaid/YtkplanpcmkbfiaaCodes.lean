/- Contracts of functions, printed by program from annotations. -/
import Derived.Test.YtkplanpcmkbfiaaValid
namespace Go.Proofs.Ytkplanpcmkbfiaa
open Go Go.AW Go.RowKit
set_option linter.unusedVariables false
set_option linter.unusedSimpArgs false

/-- each two that follow, the last and the first too, lie on both sides of zero -/
def altRow (l : List Int) : Prop := ∀ k, k < l.length → ¬ (decide (0 < l.getD k 0) = decide (0 < l.getD ((k + 1) % l.length) 0))
noncomputable def altC (ls : List (List Int)) : Bool := @decide (validB ls = true ∧ ∀ j, j < ls.length → altRow (ls.getD j [])) (Classical.propDecidable _)
theorem altC_true {ls : List (List Int)} {k : Nat} (h : validB ls = true) (hk : ¬ k < ls.length) (h2 : ∀ j, j < k → altRow (ls.getD j [])) : altC ls = true :=
  @decide_eq_true _ (Classical.propDecidable _) ⟨h, fun j hj => h2 j (by omega)⟩
theorem altC_false {ls : List (List Int)} (h : validB ls = false) : altC ls = false := @decide_eq_false _ (Classical.propDecidable _) (fun hh => by rw [h] at hh; cases hh.1)
theorem altC_no {ls : List (List Int)} {k j : Nat} (hk : k < ls.length) (hj : j < (ls.getD k []).length) (h : decide (0 < (ls.getD k []).getD j 0) = decide (0 < (ls.getD k []).getD ((j + 1) % (ls.getD k []).length) 0)) : altC ls = false :=
  @decide_eq_false _ (Classical.propDecidable _) (fun hh => hh.2 k hk j hj h)
theorem mod_lt' {j n : Nat} (h : 0 < n) : (j + 1) % n < n := Nat.mod_lt _ h
/-- the row that has x, or -1 -/
def fRow (ls : List (List Int)) (x : Int) : Int := if ls.findIdx (fun l => decide (x ∈ l)) < ls.length then (ls.findIdx (fun l => decide (x ∈ l)) : Int) else -1
theorem fRow_at {ls : List (List Int)} {k : Nat} {x : Int} (h : k < ls.length) (e : x ∈ ls.getD k []) (hb : ∀ j, j < k → x ∉ ls.getD j []) : fRow ls x = k := by
  have e1 : ls.findIdx (fun l => decide (x ∈ l)) = k := by
    rw [List.findIdx_eq h]
    refine ⟨by simpa [List.getD, List.getElem?_eq_getElem h] using e, fun j hj => ?_⟩
    have := hb j hj
    simpa [List.getD, List.getElem?_eq_getElem (show j < ls.length by omega)] using this
  unfold fRow
  rw [e1, if_pos h]
theorem fRow_none {ls : List (List Int)} {k : Nat} {x : Int} (h : ¬ k < ls.length) (hb : ∀ j, j < k → x ∉ ls.getD j []) : fRow ls x = -1 := by
  unfold fRow
  rw [if_neg]
  intro hh
  have h1 := List.findIdx_getElem (w := hh)
  refine hb _ (Nat.lt_of_lt_of_le hh (by omega)) ?_
  have h2 := of_decide_eq_true h1
  simpa [List.getD, List.getElem?_eq_getElem hh] using h2
theorem Rd.box {w : World} {b t : Nat} {x : Value} (h : w.heap[b]? = some (.cells [x].toArray t (0, 0))) : Rd w (.slice (some ⟨b, 0, none⟩) 1 1) 1 1 [x] := by
  refine ⟨rfl, _, _, rfl, Nat.le_refl _, fun _ => ⟨_, rfl, fun j u hu => ?_⟩⟩
  rw [add_lit, cell_of_row w b (0 + j) _ t (0, 0) h]
  simpa using hu
theorem RdL.box {w0 : World} {L : List Ent} {b t : Nat} {x : Value} (i : Nat) (h : L[i]? = some (.box b t [x])) : RdL w0 L (.slice (some ⟨b, 0, none⟩) 1 1) 1 1 [x] := fun _ hw => Rd.box (hw.box h)

/-- the curves at a crossing, and the error -/
def atC (ls : List (List Int)) (x : Int) : Int × Int × Int :=
  if validB ls then (if 0 ≤ x ∧ x ≤ ((tot ls / 2 : Nat) : Int) - 1 then (fRow ls (x + 1), fRow ls (-x - 1), 0) else (0, 0, 2)) else (0, 0, 1)

end Go.Proofs.Ytkplanpcmkbfiaa
