/- Contracts of functions, printed by program from annotations. -/
import Derived.Test.YtkplanpcmkbfiaaTrc3
import Derived.Test.YtkplanpcmkbfiaaEds
namespace Go.Proofs.Ytkplanpcmkbfiaa
open Go Go.AW Go.RowKit
set_option linter.unusedVariables false
set_option linter.unusedSimpArgs false

abbrev Lf := List (Int × Int) × List Int
/-- all lists with n more edits: one number, one kind -/
def lv : Nat → Nat → List (Int × Int) → List Int → List Lf
  | 0, _, es, m => [(es, m)]
  | n + 1, k, es, m => (List.range (m.length - k)).flatMap fun i => (List.range 3).flatMap fun (c : Nat) => if (c : Int) = m.getD (k + i) 0 then [] else lv n (k + i + 1) (es ++ [(((k + i : Nat) : Int), (c : Int))]) (m.set (k + i) (c : Int))
/-- .. with the first kinds at one number -/
def lvC (n j : Nat) (es : List (Int × Int)) (m : List Int) (c : Nat) : List Lf := (List.range c).flatMap fun (c : Nat) => if (c : Int) = m.getD j 0 then [] else lv n (j + 1) (es ++ [((j : Int), (c : Int))]) (m.set j (c : Int))
/-- .. with the first numbers -/
def lvI (n k : Nat) (es : List (Int × Int)) (m : List Int) (i : Nat) : List Lf := (List.range i).flatMap fun i => lvC n (k + i) es m 3
theorem lv_zero (k : Nat) (es : List (Int × Int)) (m : List Int) : lv 0 k es m = [(es, m)] := rfl
theorem lv_succ (n k : Nat) (es : List (Int × Int)) (m : List Int) : lv (n + 1) k es m = lvI n k es m (m.length - k) := rfl
theorem lvI_zero (n k : Nat) (es : List (Int × Int)) (m : List Int) : lvI n k es m 0 = [] := rfl
theorem lvI_succ (n k : Nat) (es : List (Int × Int)) (m : List Int) (i : Nat) : lvI n k es m (i + 1) = lvI n k es m i ++ lvC n (k + i) es m 3 := by unfold lvI; rw [List.range_succ, List.flatMap_append]; simp
theorem lvC_zero (n j : Nat) (es : List (Int × Int)) (m : List Int) : lvC n j es m 0 = [] := rfl
theorem lvC_skip {n j : Nat} {es : List (Int × Int)} {m : List Int} {c : Nat} (h : (c : Int) = m.getD j 0) : lvC n j es m (c + 1) = lvC n j es m c := by unfold lvC; rw [List.range_succ, List.flatMap_append, List.flatMap_singleton, if_pos h, List.append_nil]
theorem lvC_take {n j : Nat} {es : List (Int × Int)} {m : List Int} {c : Nat} (h : ¬ (c : Int) = m.getD j 0) : lvC n j es m (c + 1) = lvC n j es m c ++ lv n (j + 1) (es ++ [((j : Int), (c : Int))]) (m.set j (c : Int)) := by unfold lvC; rw [List.range_succ, List.flatMap_append, List.flatMap_singleton, if_neg h]
/-- up to the first that a search wants -/
def cut (hit : Lf → Bool) : List Lf → List Lf × Bool
  | [] => ([], false)
  | x :: r => if hit x then ([x], true) else (x :: (cut hit r).1, (cut hit r).2)
theorem cut_yes {hit : Lf → Bool} {x : Lf} {r : List Lf} (h : hit x = true) : cut hit (x :: r) = ([x], true) := by
  show (if hit x then _ else _) = _
  rw [if_pos h]
theorem cut_no {hit : Lf → Bool} {x : Lf} {r : List Lf} (h : hit x = false) : cut hit (x :: r) = (x :: (cut hit r).1, (cut hit r).2) := by
  show (if hit x then _ else _) = _
  rw [if_neg (by rw [h]; decide)]
theorem cut_one (hit : Lf → Bool) (x : Lf) : cut hit [x] = ([x], hit x) := by
  cases h : hit x with
  | true => rw [cut_yes h]
  | false => rw [cut_no h]; rfl
theorem cut_app_yes {hit : Lf → Bool} : ∀ {A : List Lf} (B : List Lf), (cut hit A).2 = true → cut hit (A ++ B) = cut hit A
  | [], _, h => by cases h
  | x :: A, B, h => by
    show cut hit (x :: (A ++ B)) = _
    cases hx : hit x with
    | true => rw [cut_yes hx, cut_yes hx]
    | false =>
      rw [cut_no hx] at h
      rw [cut_no hx, cut_no hx, cut_app_yes B h]
theorem cut_app_no {hit : Lf → Bool} : ∀ {A : List Lf} (B : List Lf), (cut hit A).2 = false → (cut hit A).1 = A ∧ cut hit (A ++ B) = (A ++ (cut hit B).1, (cut hit B).2)
  | [], _, _ => ⟨rfl, rfl⟩
  | x :: A, B, h => by
    cases hx : hit x with
    | true => rw [cut_yes hx] at h; cases h
    | false =>
      rw [cut_no hx] at h
      obtain ⟨h1, h2⟩ := cut_app_no B h
      refine ⟨by rw [cut_no hx, h1], ?_⟩
      show cut hit (x :: (A ++ B)) = _
      rw [cut_no hx, h2]
      rfl
theorem cut_none {hit : Lf → Bool} (h : ∀ x, hit x = false) : ∀ A, cut hit A = (A, false)
  | [] => rfl
  | x :: A => by rw [cut_no (h x), cut_none h A]
theorem cut_le {hit : Lf → Bool} : ∀ A, (cut hit A).1.length ≤ A.length
  | [] => Nat.le_refl _
  | x :: A => by
    cases hx : hit x with
    | true => rw [cut_yes hx]; simp
    | false =>
      have := cut_le (hit := hit) A
      rw [cut_no hx]
      simp only [List.length_cons]
      omega
theorem cut_last {hit : Lf → Bool} : ∀ {A : List Lf}, (cut hit A).2 = true → ∃ B x, (cut hit A).1 = B ++ [x] ∧ hit x = true ∧ ∀ y ∈ B, hit y = false
  | [], h => by cases h
  | x :: A, h => by
    cases hx : hit x with
    | true => exact ⟨[], x, by rw [cut_yes hx]; rfl, hx, fun y hy => by cases hy⟩
    | false =>
      rw [cut_no hx] at h
      obtain ⟨B, y, h1, h2, h3⟩ := cut_last h
      refine ⟨x :: B, y, by rw [cut_no hx, h1]; rfl, h2, fun z hz => ?_⟩
      rcases List.mem_cons.1 hz with rfl | hz
      · exact hx
      · exact h3 z hz
theorem lvC_len {n j : Nat} {es : List (Int × Int)} {m : List Int} {B : Nat} (h : ∀ k es' m', m'.length = m.length → (lv n k es' m').length ≤ B) : ∀ c, (lvC n j es m c).length ≤ c * B
  | 0 => by rw [lvC_zero]; exact Nat.zero_le _
  | c + 1 => by
    have ih := lvC_len (j := j) (es := es) (m := m) h c
    rw [Nat.succ_mul]
    by_cases hc : (c : Int) = m.getD j 0
    · rw [lvC_skip hc]; omega
    · rw [lvC_take hc, List.length_append]
      have := h (j + 1) (es ++ [((j : Int), (c : Int))]) (m.set j (c : Int)) (by rw [List.length_set])
      omega
theorem lvI_len {n k : Nat} {es : List (Int × Int)} {m : List Int} {B : Nat} (h : ∀ k es' m', m'.length = m.length → (lv n k es' m').length ≤ B) : ∀ i, (lvI n k es m i).length ≤ i * (3 * B)
  | 0 => by rw [lvI_zero]; exact Nat.zero_le _
  | i + 1 => by
    have ih := lvI_len (k := k) (es := es) (m := m) h i
    have := lvC_len (j := k + i) (es := es) (m := m) h 3
    rw [Nat.succ_mul, lvI_succ, List.length_append]
    omega
def lvB : Nat → Nat
  | 0 => 1
  | n + 1 => 36 * lvB n
theorem lv_len : ∀ (n k : Nat) (es : List (Int × Int)) (m : List Int), m.length ≤ 12 → (lv n k es m).length ≤ lvB n
  | 0, _, _, _, _ => Nat.le_refl _
  | n + 1, k, es, m, hm => by
    rw [lv_succ]
    have h1 := lvI_len (k := k) (es := es) (B := lvB n) (fun k' es' m' h => lv_len n k' es' m' (by omega)) (m := m) (m.length - k)
    refine Nat.le_trans h1 ?_
    show (m.length - k) * (3 * lvB n) ≤ 36 * lvB n
    have h2 : (m.length - k) * (3 * lvB n) ≤ 12 * (3 * lvB n) := Nat.mul_le_mul_right _ (by omega)
    omega
theorem lvB_le {n : Nat} (h : n ≤ 3) : lvB n ≤ 46656 ∧ 1 ≤ lvB n := by
  have : n = 0 ∨ n = 1 ∨ n = 2 ∨ n = 3 := by omega
  rcases this with rfl | rfl | rfl | rfl <;> decide
/-- every leaf is a panel of the same size -/
theorem lv_ok {a b : Int} : ∀ (n k : Nat) (es : List (Int × Int)) (m : List Int), okP a b m = true → ∀ x ∈ lv n k es m, okP a b x.2 = true
  | 0, _, es, m, hm, x, hx => by
    rw [lv_zero, List.mem_singleton] at hx
    subst hx
    exact hm
  | n + 1, k, es, m, hm, x, hx => by
    rw [lv_succ] at hx
    unfold lvI lvC at hx
    obtain ⟨i, _, hx⟩ := List.mem_flatMap.1 hx
    obtain ⟨c, hc, hx⟩ := List.mem_flatMap.1 hx
    have hc3 := List.mem_range.1 hc
    split at hx
    · cases hx
    · refine lv_ok n _ _ _ ?_ x hx
      obtain ⟨hs, hl, hr⟩ := okP_spec hm
      unfold okP
      refine decide_eq_true ⟨hs, by rw [List.length_set]; exact hl, fun y hy => ?_⟩
      rcases List.mem_or_eq_of_mem_set hy with hy | rfl
      · exact hr y hy
      · omega
/-- the least of the numbers -/
def leastL (d : List Int) : Int := d.foldl (fun r n => if r = 0 ∨ n < r then n else r) 0
def mostL (d : List Int) : Int := d.foldl max 0
theorem leastL_snoc (d : List Int) (n : Int) : leastL (d ++ [n]) = if leastL d = 0 ∨ n < leastL d then n else leastL d := by unfold leastL; rw [List.foldl_append]; rfl
theorem mostL_snoc (d : List Int) (n : Int) : mostL (d ++ [n]) = max (mostL d) n := by unfold mostL; rw [List.foldl_append]; rfl
theorem leastL_nil : leastL [] = 0 := rfl
theorem mostL_nil : mostL [] = 0 := rfl
theorem snocL {α : Type} {d : List α} {n : Nat} (h : d.length = n + 1) : ∃ m x, d = m ++ [x] ∧ m.length = n := by
  have hne : d ≠ [] := by intro e; rw [e] at h; cases h
  refine ⟨d.dropLast, d.getLast hne, (List.dropLast_concat_getLast hne).symm, by rw [List.length_dropLast]; omega⟩
theorem leastL_pos : ∀ (n : Nat) {d : List Int}, d.length = n → (∀ x ∈ d, 1 ≤ x) → (leastL d = 0 ↔ d = []) ∧ (leastL d = 0 ∨ 1 ≤ leastL d) ∧ (mostL d = 0 ↔ d = []) ∧ 0 ≤ mostL d
  | 0, d, hd, _ => by
    have : d = [] := List.eq_nil_of_length_eq_zero hd
    subst this
    exact ⟨⟨fun _ => rfl, fun _ => rfl⟩, .inl rfl, ⟨fun _ => rfl, fun _ => rfl⟩, Int.le_refl _⟩
  | n + 1, d, hd, h => by
    obtain ⟨m, x, rfl, hm⟩ := snocL hd
    obtain ⟨h1, h2, h3, h4⟩ := leastL_pos n hm (fun y hy => h y (List.mem_append_left _ hy))
    have hx := h x (List.mem_append_right _ (List.mem_singleton.2 rfl))
    have hne : ¬ m ++ [x] = [] := by simp
    have hq : 1 ≤ leastL (m ++ [x]) := by
      rw [leastL_snoc]
      split <;> omega
    have hq2 : 1 ≤ mostL (m ++ [x]) := by rw [mostL_snoc]; omega
    exact ⟨⟨fun e => by omega, fun e => absurd e hne⟩, .inr hq, ⟨fun e => by omega, fun e => absurd e hne⟩, by omega⟩

end Go.Proofs.Ytkplanpcmkbfiaa
