/- Contracts of functions, printed by program from annotations. -/
import Derived.Test.YtkplanpcmkbfiaaSS
namespace Go.Proofs.Ytkplanpcmkbfiaa
open Go Go.AW Go.RowKit
set_option linter.unusedVariables false
set_option linter.unusedSimpArgs false

/-- the elements up to place j of row i -/
def pre (ls : List (List Int)) (i j : Nat) : List Int := (ls.take i).flatten ++ (ls.getD i []).take j
theorem pre_zero (ls : List (List Int)) : pre ls 0 0 = [] := by simp [pre]
theorem pre_next {ls : List (List Int)} {i j : Nat} (hi : i < ls.length) (hj : j = (ls.getD i []).length) : pre ls i j = pre ls (i + 1) 0 := by
  subst hj
  unfold pre
  rw [List.take_add_one, getD_some hi []]
  simp
theorem pre_snoc {ls : List (List Int)} {i j : Nat} (hj : j < (ls.getD i []).length) : pre ls i (j + 1) = pre ls i j ++ [(ls.getD i []).getD j 0] := by
  unfold pre
  rw [List.take_add_one, getD_some hj 0]
  simp
theorem pre_all {ls : List (List Int)} {i : Nat} (hi : i = ls.length) : pre ls i 0 = ls.flatten := by subst hi; simp [pre]
theorem pre_prefix {ls : List (List Int)} {i j : Nat} (hi : i < ls.length) : ∃ r, ls.flatten = pre ls i j ++ r := by
  refine ⟨(ls.getD i []).drop j ++ (ls.drop (i + 1)).flatten, ?_⟩
  unfold pre
  have e2 : ls = ls.take i ++ ls.getD i [] :: ls.drop (i + 1) := by
    conv => lhs; rw [← List.take_append_drop i ls]
    rw [List.drop_eq_getElem_cons hi]
    simp [List.getD, List.getElem?_eq_getElem hi]
  conv => lhs; rw [e2]
  simp only [List.flatten_append, List.flatten_cons, List.append_assoc]
  congr 1
  rw [← List.append_assoc, List.take_append_drop]

/-- which numbers have come up -/
def seenL (n : Nat) (l : List Int) : List Bool := (List.range (2 * n + 1)).map fun (j : Nat) => decide ((j : Int) - n ∈ l)
theorem length_seenL (n : Nat) (l : List Int) : (seenL n l).length = 2 * n + 1 := by simp [seenL]
theorem seenL_nil (n : Nat) : seenL n [] = List.replicate (2 * n + 1) false := by
  apply List.ext_getElem <;> simp [seenL]
theorem seenL_getD {n : Nat} {l : List Int} {x : Int} (h0 : -n ≤ x) (h1 : x ≤ n) : (seenL n l).getD (x + n).toNat false = decide (x ∈ l) := by
  have h : (x + n).toNat < 2 * n + 1 := by omega
  have e : ((x + n).toNat : Int) - n = x := by omega
  simp only [seenL, List.getD_eq_getElem?_getD, List.getElem?_map, List.getElem?_range h, Option.map_some, Option.getD_some, e]
theorem seenL_set {n : Nat} {l : List Int} {x : Int} (h0 : -n ≤ x) (h1 : x ≤ n) : (seenL n l).set (x + n).toNat true = seenL n (l ++ [x]) := by
  apply List.ext_getElem
  · simp [seenL]
  · intro j h2 h3
    simp only [seenL, List.getElem_set, List.getElem_map, List.getElem_range]
    simp only [seenL, List.length_set, List.length_map, List.length_range] at h2
    by_cases e : (x + n).toNat = j
    · rw [if_pos e]
      have : (j : Int) - n = x := by omega
      simp [this]
    · rw [if_neg e]
      have : ¬ ((j : Int) - n = x) := by omega
      simp [this]

def okEls (n : Int) (l : List Int) : Prop := (∀ x ∈ l, x ≠ 0 ∧ -n ≤ x ∧ x ≤ n) ∧ l.Nodup
instance (n : Int) (l : List Int) : Decidable (okEls n l) := by unfold okEls; infer_instance
/-- A code is valid. -/
def validB (ls : List (List Int)) : Bool := decide (ls.length ≤ 40 ∧ tot ls % 2 = 0 ∧ tot ls / 2 ≤ 120 ∧ okEls ((tot ls / 2 : Nat) : Int) ls.flatten)
theorem okEls_snoc {n : Int} {l : List Int} {x : Int} (h : okEls n l) (h0 : x ≠ 0) (h1 : -n ≤ x) (h2 : x ≤ n) (h3 : x ∉ l) : okEls n (l ++ [x]) := by
  refine ⟨fun y hy => ?_, ?_⟩
  · rcases List.mem_append.1 hy with hy | hy
    · exact h.1 y hy
    · have e : y = x := by simpa using hy
      subst e
      exact ⟨h0, h1, h2⟩
  · rw [List.nodup_append]
    refine ⟨h.2, by simp, fun a ha b hb => ?_⟩
    have e : b = x := by simpa using hb
    subst e
    exact fun e => h3 (e ▸ ha)
theorem okEls_bad {n : Int} {ls : List (List Int)} {i j : Nat} (hi : i < ls.length) (hj : j < (ls.getD i []).length) (h : ¬ (((ls.getD i []).getD j 0) ≠ 0 ∧ -n ≤ ((ls.getD i []).getD j 0) ∧ ((ls.getD i []).getD j 0) ≤ n ∧ ((ls.getD i []).getD j 0) ∉ pre ls i j)) : ¬ okEls n ls.flatten := by
  intro hk
  apply h
  obtain ⟨r, hr⟩ := pre_prefix (j := j + 1) hi
  rw [pre_snoc hj] at hr
  have hm : (ls.getD i []).getD j 0 ∈ ls.flatten := by rw [hr]; simp
  obtain ⟨h1, h2, h3⟩ := hk.1 _ hm
  refine ⟨h1, h2, h3, fun hp => ?_⟩
  have hn := hk.2
  rw [hr, List.append_assoc, List.nodup_append] at hn
  exact hn.2.2 _ hp _ (by simp) rfl
theorem validB_false_els {ls : List (List Int)} {i j : Nat} {n : Nat} (hn : n = tot ls / 2) (hi : i < ls.length) (hj : j < (ls.getD i []).length) (h : ¬ (((ls.getD i []).getD j 0) ≠ 0 ∧ -(n : Int) ≤ ((ls.getD i []).getD j 0) ∧ ((ls.getD i []).getD j 0) ≤ n ∧ ((ls.getD i []).getD j 0) ∉ pre ls i j)) : validB ls = false := by
  unfold validB
  subst hn
  rw [decide_eq_false]
  exact fun hk => okEls_bad hi hj h hk.2.2.2
theorem validB_true_els {ls : List (List Int)} {i n : Nat} (hn : n = tot ls / 2) (h1 : ls.length ≤ 40) (h2 : tot ls % 2 = 0) (h3 : tot ls / 2 ≤ 120) (hi : i = ls.length) (h : okEls n (pre ls i 0)) : validB ls = true := by
  unfold validB
  subst hn
  rw [pre_all hi] at h
  exact decide_eq_true ⟨h1, h2, h3, h⟩
theorem validB_false {ls : List (List Int)} (h : ¬ (ls.length ≤ 40 ∧ tot ls % 2 = 0 ∧ tot ls / 2 ≤ 120)) : validB ls = false := by
  unfold validB
  rw [decide_eq_false]
  exact fun hk => h ⟨hk.1, hk.2.1, hk.2.2.1⟩
theorem validB_len {ls : List (List Int)} (h : validB ls = true) : ls.length ≤ 40 ∧ tot ls % 2 = 0 ∧ tot ls / 2 ≤ 120 ∧ okEls ((tot ls / 2 : Nat) : Int) ls.flatten := of_decide_eq_true h
attribute [irreducible] validB

end Go.Proofs.Ytkplanpcmkbfiaa
