/- Contracts of functions, printed by program from annotations. -/
import Derived.Test.YtkplanpcmkbfiaaText
import Derived.Test.YtkplanpcmkbfiaaMirror
namespace Go.Proofs.Ytkplanpcmkbfiaa
open Go Go.AW Go.RowKit
set_option linter.unusedVariables false
set_option linter.unusedSimpArgs false

theorem decs_size {l : List Int} (hi : ∀ x ∈ l, -9223372036854775808 ≤ x ∧ x ≤ 9223372036854775807) (k : Nat) (hk : k < (l.map decB).length) : ((l.map decB).getD k ByteArray.empty).size ≤ 20 := by
  rw [List.length_map] at hk
  rw [getD_mapB 0 hk]
  have := hi _ (mem_getD 0 hk)
  exact decB_size this.1 this.2
def partC (row : List Int) : ByteArray := if row = [] then strOf [111] else joinAll (strOf [32]) (row.map decB)
theorem partC_nil {row : List Int} (h : (row.length : Int) = 0) : partC row = strOf [111] := by unfold partC; rw [if_pos (List.eq_nil_of_length_eq_zero (by omega))]
theorem partC_some {row : List Int} (h : ¬ (row.length : Int) = 0) : partC row = joinAll (strOf [32]) (row.map decB) := by unfold partC; rw [if_neg (by rintro rfl; exact h rfl)]
theorem joinD_size {l : List Int} (hi : ∀ x ∈ l, -9223372036854775808 ≤ x ∧ x ≤ 9223372036854775807) : ∀ k, k ≤ l.length → (joinTo (strOf [32]) (l.map decB) k).size ≤ k * 21
  | 0, _ => by simp [joinTo]
  | k + 1, h => by
    have h1 := joinD_size hi k (by omega)
    have h2 := decs_size hi k (by rw [List.length_map]; omega)
    have h3 : (strOf [32]).size = 1 := rfl
    show (if k = 0 then joinTo (strOf [32]) (l.map decB) k ++ (l.map decB).getD k ByteArray.empty else (joinTo (strOf [32]) (l.map decB) k ++ strOf [32]) ++ (l.map decB).getD k ByteArray.empty).size ≤ _
    split
    · rw [ByteArray.size_append]; omega
    · rw [ByteArray.size_append, ByteArray.size_append]; omega
theorem partC_size {row : List Int} (hi : ∀ x ∈ row, -9223372036854775808 ≤ x ∧ x ≤ 9223372036854775807) (hl : row.length ≤ 4096) : (partC row).size ≤ 4194304 := by
  unfold partC
  split
  · rw [size_strOf]; simp
  · unfold joinAll
    have := joinD_size hi row.length (Nat.le_refl _)
    rw [List.length_map]
    omega
def codeT (ls : List (List Int)) : ByteArray := if validB ls then (if ls.length = 0 then strOf [110, 111, 110, 101] else joinAll (strOf [59]) (ls.map partC)) else ByteArray.empty
theorem codeT_bad {ls : List (List Int)} (h : validB ls = false) : codeT ls = ByteArray.empty := by unfold codeT; rw [h]; rfl
theorem codeT_none {ls : List (List Int)} (h : validB ls = true) (h0 : (ls.length : Int) = 0) : codeT ls = strOf [110, 111, 110, 101] := by unfold codeT; rw [h, if_pos rfl, if_pos (by omega)]
theorem codeT_some {ls : List (List Int)} (h : validB ls = true) (h0 : ¬ (ls.length : Int) = 0) : codeT ls = joinAll (strOf [59]) (ls.map partC) := by unfold codeT; rw [h, if_pos rfl, if_neg (by omega)]
def baseT (J : ByteArray) (i : Nat) (row : List Int) : ByteArray := (if i = 0 then J else J ++ strOf [59]) ++ (if row = [] then strOf [111] else ByteArray.empty)
theorem app_empty (a : ByteArray) : a ++ ByteArray.empty = a := ByteArray.append_empty
theorem baseT_1 {J : ByteArray} {i : Nat} {row : List Int} {ds : List ByteArray} (h : 0 < (i : Int)) (hr : (row.length : Int) = 0) : (J ++ strOf [59]) ++ strOf [111] = baseT J i row ++ joinTo (strOf [32]) ds 0 := by
  unfold baseT
  rw [if_neg (by omega), if_pos (List.eq_nil_of_length_eq_zero (by omega))]
  exact (app_empty _).symm
theorem baseT_2 {J : ByteArray} {i : Nat} {row : List Int} {ds : List ByteArray} (h : 0 < (i : Int)) (hr : ¬ (row.length : Int) = 0) : J ++ strOf [59] = baseT J i row ++ joinTo (strOf [32]) ds 0 := by
  unfold baseT
  rw [if_neg (by omega), if_neg (by rintro rfl; exact hr rfl)]
  exact ((app_empty _).trans (app_empty _)).symm
theorem baseT_3 {J : ByteArray} {i : Nat} {row : List Int} {ds : List ByteArray} (h : ¬ 0 < (i : Int)) (hr : (row.length : Int) = 0) : J ++ strOf [111] = baseT J i row ++ joinTo (strOf [32]) ds 0 := by
  unfold baseT
  rw [if_pos (by omega), if_pos (List.eq_nil_of_length_eq_zero (by omega))]
  exact (app_empty _).symm
theorem baseT_4 {J : ByteArray} {i : Nat} {row : List Int} {ds : List ByteArray} (h : ¬ 0 < (i : Int)) (hr : ¬ (row.length : Int) = 0) : J = baseT J i row ++ joinTo (strOf [32]) ds 0 := by
  unfold baseT
  rw [if_pos (by omega), if_neg (by rintro rfl; exact hr rfl)]
  exact ((app_empty _).trans (app_empty _)).symm
theorem baseT_size (J : ByteArray) (i : Nat) (row : List Int) : (baseT J i row).size ≤ J.size + 2 := by
  unfold baseT
  rw [ByteArray.size_append]
  have h1 : (if i = 0 then J else J ++ strOf [59]).size ≤ J.size + 1 := by
    split
    · omega
    · rw [ByteArray.size_append]; exact Nat.le_refl _
  have h2 : (if row = [] then strOf [111] else ByteArray.empty).size ≤ 1 := by split <;> decide
  omega
theorem baseT_done {ls : List (List Int)} {i k : Nat} (hi : i < ls.length) (hk : k = (ls.getD i []).length) : baseT (joinTo (strOf [59]) (ls.map partC) i) i (ls.getD i []) ++ joinTo (strOf [32]) ((ls.getD i []).map decB) k = joinTo (strOf [59]) (ls.map partC) (i + 1) := by
  subst hk
  have hg := getD_mapB (f := partC) (l := ls) (k := i) [] hi
  have h1 : joinTo (strOf [59]) (ls.map partC) (i + 1) = (if i = 0 then joinTo (strOf [59]) (ls.map partC) i else joinTo (strOf [59]) (ls.map partC) i ++ strOf [59]) ++ partC (ls.getD i []) := by
    rw [← hg]
    show (if i = 0 then _ else _) = _
    split <;> rfl
  rw [h1]
  unfold baseT
  rw [ByteArray.append_assoc]
  congr 1
  by_cases hr : ((ls.getD i []).length : Int) = 0
  · rw [partC_nil hr, if_pos (List.eq_nil_of_length_eq_zero (by omega)), show (ls.getD i []).length = 0 by omega]
    exact app_empty _
  · rw [partC_some hr, if_neg (by intro e; rw [e] at hr; exact hr rfl)]
    unfold joinAll
    rw [List.length_map]
    exact ByteArray.empty_append
theorem row_bound {ls : List (List Int)} (h : validB ls = true) {i : Nat} (hi : i < ls.length) : (∀ x ∈ ls.getD i [], -9223372036854775808 ≤ x ∧ x ≤ 9223372036854775807) ∧ (ls.getD i []).length ≤ 4096 := by
  refine ⟨fun x hx => ?_, ?_⟩
  · obtain ⟨j, hj, rfl⟩ := List.mem_iff_getElem.1 hx
    have := validB_bound h hi hj
    rw [List.getD_eq_getElem?_getD, List.getElem?_eq_getElem hj] at this
    simp only [Option.getD_some] at this
    omega
  · have h1 := len_le_tot (ls := ls) (k := i) hi
    have h2 := validB_len h
    omega
theorem partsC_size {ls : List (List Int)} (h : validB ls = true) (k : Nat) (hk : k < (ls.map partC).length) : ((ls.map partC).getD k ByteArray.empty).size ≤ 4194304 := by
  rw [List.length_map] at hk
  rw [getD_mapB [] hk]
  exact partC_size (row_bound h hk).1 (row_bound h hk).2
theorem validB_bound' {ls : List (List Int)} (h : validB ls = true) {i j : Nat} (hi : i < ls.length) (hj : j < (ls.getD i []).length) : -9223372036854775808 ≤ (ls.getD i []).getD j 0 ∧ (ls.getD i []).getD j 0 ≤ 9223372036854775807 := by
  have := validB_bound h hi hj
  omega

end Go.Proofs.Ytkplanpcmkbfiaa
