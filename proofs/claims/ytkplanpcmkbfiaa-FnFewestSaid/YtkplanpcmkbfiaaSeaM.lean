/- Contracts of functions, printed by program from annotations. -/
import Derived.Test.YtkplanpcmkbfiaaSrcM
import Derived.Test.YtkplanpcmkbfiaaRead
import Derived.Test.YtkplanpcmkbfiaaOneM
import Derived.Test.YtkplanpcmkbfiaaChgM
namespace Go.Proofs.Ytkplanpcmkbfiaa
open Go Go.AW Go.RowKit
set_option linter.unusedVariables false
set_option linter.unusedSimpArgs false

theorem appE_last (l : List Int) (es : List (Int × Int)) (e : Int × Int) : appE l (es ++ [e]) = (appE l es).set e.1.toNat e.2 := by unfold appE; rw [List.foldl_append]; rfl
theorem take_last {α : Type} {l : List α} {k : Nat} (d : α) (h : k < l.length) : l.take (k + 1) = l.take k ++ [l.getD k d] := by rw [List.take_add_one, getD_some h d]; rfl
/-- a panel has the wanted number of curves -/
def hitC (a b c : Int) : Lf → Bool := fun x => decide ((cnt a b x.2 : Int) = c)
/-- how many do -/
def cnL (a b c : Int) (d : List Lf) : Nat := d.countP (hitC a b c)
/-- the numbers of curves -/
def alL (a b : Int) (d : List Lf) : List Int := d.map fun x => (cnt a b x.2 : Int)
theorem alL_snoc (a b : Int) (d : List Lf) (x : Lf) : alL a b (d ++ [x]) = alL a b d ++ [(cnt a b x.2 : Int)] := by unfold alL; rw [List.map_append]; rfl
theorem length_alL (a b : Int) (d : List Lf) : (alL a b d).length = d.length := by simp [alL]
theorem cnL_yes {a b c : Int} {d : List Lf} {x : Lf} (h : (cnt a b x.2 : Int) = c) : cnL a b c (d ++ [x]) = cnL a b c d + 1 := by
  unfold cnL
  rw [List.countP_append, List.countP_cons_of_pos (by exact decide_eq_true h)]
  rfl
theorem cnL_no {a b c : Int} {d : List Lf} {x : Lf} (h : ¬ (cnt a b x.2 : Int) = c) : cnL a b c (d ++ [x]) = cnL a b c d := by
  unfold cnL
  rw [List.countP_append, List.countP_cons_of_neg (by unfold hitC; rw [decide_eq_false h]; decide)]
  rfl
theorem cnL_le (a b c : Int) (d : List Lf) : cnL a b c d ≤ d.length := List.countP_le_length
/-- the edits of the last one -/
def lastE (d : List Lf) : List (Int × Int) := (d.getLast?.getD ([], [])).1
theorem lastE_snoc (d : List Lf) (x : Lf) : lastE (d ++ [x]) = x.1 := by simp [lastE]
theorem cut_any (hit : Lf → Bool) : ∀ A, (cut hit A).2 = A.any hit
  | [] => rfl
  | x :: A => by
    cases hx : hit x with
    | true => rw [cut_yes hx, List.any_cons, hx]; rfl
    | false => rw [cut_no hx, List.any_cons, hx]; exact cut_any hit A
theorem cut_sub {hit : Lf → Bool} : ∀ {A : List Lf} {x : Lf}, x ∈ (cut hit A).1 → x ∈ A
  | [], _, h => by cases h
  | y :: A, x, h => by
    cases hx : hit y with
    | true =>
      rw [cut_yes hx] at h
      rw [List.mem_singleton.1 h]
      exact List.mem_cons_self ..
    | false =>
      rw [cut_no hx] at h
      rcases List.mem_cons.1 h with rfl | h
      · exact List.mem_cons_self ..
      · exact List.mem_cons_of_mem _ (cut_sub h)
/-- what is known of the edits so far -/
structure LvI (l : List Int) (k : Nat) (es : List (Int × Int)) (m : List Int) : Prop where
  len : m.length = l.length
  app : appE l es = m
  eds : EdsOk l es
  low : ∀ i, i < es.length → (es.getD i (0, 0)).1 < k
  rest : ∀ j, k ≤ j → m.getD j 0 = l.getD j 0
theorem LvI.nil (l : List Int) : LvI l 0 [] l := ⟨rfl, rfl, fun i hi => absurd hi (Nat.not_lt_zero _), fun i hi => absurd hi (Nat.not_lt_zero _), fun _ _ => rfl⟩
theorem LvI.add {l m : List Int} {k : Nat} {es : List (Int × Int)} (h : LvI l k es m) {j c : Nat} (hj : k ≤ j) (hl : j < m.length) (hc : c < 3) (hn : ¬ (c : Int) = m.getD j 0) : LvI l (j + 1) (es ++ [((j : Int), (c : Int))]) (m.set j (c : Int)) := by
  have hlast : ∀ i, i < (es ++ [((j : Int), (c : Int))]).length → i < es.length ∨ i = es.length := fun i hi => by
    rw [List.length_append, List.length_singleton] at hi
    omega
  have he : (es ++ [((j : Int), (c : Int))]).getD es.length (0, 0) = ((j : Int), (c : Int)) := by
    simp only [List.getD, List.getElem?_append_right (Nat.le_refl _), Nat.sub_self, List.getElem?_cons_zero, Option.getD_some]
  refine ⟨by rw [List.length_set]; exact h.len, by rw [appE_last, h.app]; rfl, fun i hi => ?_, fun i hi => ?_, fun q hq => ?_⟩
  · rcases hlast i hi with h1 | rfl
    · have h2 := h.eds i h1
      unfold EdOk at *
      rw [getD_app h1]
      refine ⟨h2.1, fun h0 => ?_, h2.2.2⟩
      rw [getD_app (by omega)]
      exact h2.2.1 h0
    · unfold EdOk
      rw [he]
      refine ⟨by have := h.len; simp only; omega, fun h0 => ?_, by simp only; omega, ?_⟩
      · rw [getD_app (by omega)]
        have := h.low (((es.length : Int) - 1).toNat) (by omega)
        simp only
        omega
      · show ¬ (c : Int) = l.getD (j : Int).toNat 0
        rw [Int.toNat_natCast, ← h.rest j hj]
        exact hn
  · rcases hlast i hi with h1 | rfl
    · rw [getD_app h1]
      have := h.low i h1
      omega
    · rw [he]
      simp only
      omega
  · rw [getD_set_ne (by omega)]
    exact h.rest q (by omega)
theorem lv_spec {l : List Int} : ∀ (n k : Nat) (es : List (Int × Int)) (m : List Int), LvI l k es m → ∀ x ∈ lv n k es m, appE l x.1 = x.2 ∧ EdsOk l x.1 ∧ x.1.length = es.length + n ∧ x.2.length = l.length
  | 0, _, es, m, h, x, hx => by
    rw [lv_zero, List.mem_singleton] at hx
    subst hx
    exact ⟨h.app, h.eds, rfl, h.len⟩
  | n + 1, k, es, m, h, x, hx => by
    rw [lv_succ] at hx
    unfold lvI lvC at hx
    obtain ⟨i, hi, hx⟩ := List.mem_flatMap.1 hx
    obtain ⟨c, hc, hx⟩ := List.mem_flatMap.1 hx
    have hc3 := List.mem_range.1 hc
    have hi3 := List.mem_range.1 hi
    split at hx
    · cases hx
    · rename_i hn
      obtain ⟨h1, h2, h3, h4⟩ := lv_spec n _ _ _ (h.add (j := k + i) (Nat.le_add_right ..) (by omega) hc3 hn) x hx
      refine ⟨h1, h2, ?_, h4⟩
      rw [h3, List.length_append, List.length_singleton]
      omega
theorem lvC_two {j : Nat} {es : List (Int × Int)} {m : List Int} (h0 : 0 ≤ m.getD j 0) (h2 : m.getD j 0 ≤ 2) : (lvC 0 j es m 3).length = 2 := by
  have hz : lvC 0 j es m 0 = [] := rfl
  have : m.getD j 0 = 0 ∨ m.getD j 0 = 1 ∨ m.getD j 0 = 2 := by omega
  rcases this with h | h | h
  · rw [lvC_take (by rw [h]; decide), lvC_take (by rw [h]; decide), lvC_skip (by rw [h]; decide), hz]
    rfl
  · rw [lvC_take (by rw [h]; decide), lvC_skip (by rw [h]; decide), lvC_take (by rw [h]; decide), hz]
    rfl
  · rw [lvC_skip (by rw [h]; decide), lvC_take (by rw [h]; decide), lvC_take (by rw [h]; decide), hz]
    rfl
theorem lvI_two {es : List (Int × Int)} {m : List Int} (h : ∀ x ∈ m, 0 ≤ x ∧ x ≤ 2) : ∀ i, i ≤ m.length → (lvI 0 0 es m i).length = 2 * i
  | 0, _ => rfl
  | i + 1, hi => by
    have h1 := h _ (mem_getD 0 (show 0 + i < m.length by omega))
    rw [lvI_succ, List.length_append, lvI_two h i (by omega), lvC_two h1.1 h1.2]
    omega
theorem lv_one {m : List Int} (h : ∀ x ∈ m, 0 ≤ x ∧ x ≤ 2) : (lv 1 0 [] m).length = 2 * m.length := by
  rw [lv_succ, Nat.sub_zero, lvI_two h _ (Nat.le_refl _)]
theorem lv_near {a b : Int} {l : List Int} (hk : okP a b l = true) {x : Lf} (hx : x ∈ lv 1 0 [] l) : cnt a b x.2 ≤ cnt a b l + 1 ∧ cnt a b l ≤ cnt a b x.2 + 1 := by
  obtain ⟨h1, h2, h3, _⟩ := lv_spec 1 0 [] l (LvI.nil l) x hx
  obtain ⟨es, m⟩ := x
  match es, h3 with
  | [e], _ =>
    have h4 := h2 0 (by simp)
    unfold EdOk at h4
    simp only [List.getD, List.getElem?_cons_zero, Option.getD_some] at h4
    have h5 : m = l.set e.1.toNat e.2 := h1.symm
    rw [h5]
    exact cnt_set hk (by omega) h4.2.2.1.1 h4.2.2.1.2
/-- the least and the greatest so far -/
def loT (d : List Int) : Nat → Int
  | 0 => d.getD 0 0
  | k + 1 => min (loT d k) (d.getD k 0)
def hiT (d : List Int) : Nat → Int
  | 0 => d.getD 0 0
  | k + 1 => max (hiT d k) (d.getD k 0)
theorem loT_snoc {d : List Int} {x : Int} : ∀ {k : Nat}, 0 < d.length → k ≤ d.length → loT (d ++ [x]) k = loT d k
  | 0, h0, _ => getD_app h0
  | k + 1, h0, h => by
    show min (loT (d ++ [x]) k) _ = min (loT d k) _
    rw [loT_snoc h0 (by omega), getD_app (by omega)]
theorem hiT_snoc {d : List Int} {x : Int} : ∀ {k : Nat}, 0 < d.length → k ≤ d.length → hiT (d ++ [x]) k = hiT d k
  | 0, h0, _ => getD_app h0
  | k + 1, h0, h => by
    show max (hiT (d ++ [x]) k) _ = max (hiT d k) _
    rw [hiT_snoc h0 (by omega), getD_app (by omega)]
theorem least_lo : ∀ (n : Nat) {d : List Int}, d.length = n + 1 → (∀ x ∈ d, 1 ≤ x) → leastL d = loT d d.length ∧ mostL d = hiT d d.length
  | 0, d, hd, h => by
    match d, hd with
    | [x], _ =>
      have h1 := h x (List.mem_singleton.2 rfl)
      constructor
      · show (if (0 : Int) = 0 ∨ x < 0 then x else 0) = min x x
        rw [if_pos (.inl rfl)]
        omega
      · show max 0 x = max x x
        omega
  | n + 1, d, hd, h => by
    obtain ⟨m, x, rfl, hm⟩ := snocL hd
    have hmm : ∀ y ∈ m, 1 ≤ y := fun y hy => h y (List.mem_append_left _ hy)
    obtain ⟨h1, h2⟩ := least_lo n hm hmm
    obtain ⟨p1, p2, _⟩ := leastL_pos _ rfl hmm
    have hne : ¬ leastL m = 0 := fun e => by rw [p1.1 e] at hm; cases hm
    have hg : (m ++ [x]).getD m.length 0 = x := by
      simp only [List.getD, List.getElem?_append_right (Nat.le_refl _), Nat.sub_self, List.getElem?_cons_zero, Option.getD_some]
    rw [leastL_snoc, mostL_snoc, List.length_append, List.length_singleton]
    constructor
    · show _ = min (loT (m ++ [x]) m.length) ((m ++ [x]).getD m.length 0)
      rw [loT_snoc (by omega) (Nat.le_refl _), hg, ← h1]
      split <;> omega
    · show _ = max (hiT (m ++ [x]) m.length) ((m ++ [x]).getD m.length 0)
      rw [hiT_snoc (by omega) (Nat.le_refl _), hg, ← h2]
/-- how often a number stands among the first -/
def sameT (d : List Int) (x : Int) : Nat → Nat
  | 0 => 0
  | k + 1 => if d.getD k 0 = x then sameT d x k + 1 else sameT d x k
theorem sameT_yes {d : List Int} {x : Int} {k : Nat} (h : d.getD k 0 = x) : sameT d x (k + 1) = sameT d x k + 1 := if_pos h
theorem sameT_no {d : List Int} {x : Int} {k : Nat} (h : ¬ d.getD k 0 = x) : sameT d x (k + 1) = sameT d x k := if_neg h
theorem sameT_le (d : List Int) (x : Int) : ∀ k, sameT d x k ≤ k
  | 0 => Nat.le_refl _
  | k + 1 => by
    have := sameT_le d x k
    by_cases h : d.getD k 0 = x
    · rw [sameT_yes h]; omega
    · rw [sameT_no h]; omega
theorem alL_get {a b : Int} {d : List Lf} {k : Nat} (h : k < d.length) : (alL a b d).getD k 0 = (cnt a b (d.getD k ([], [])).2 : Int) := by simp [alL, List.getD, List.getElem?_eq_getElem h]
theorem same_cnL {a b : Int} {d : List Lf} {c : Int} : ∀ k, k ≤ d.length → sameT (alL a b d) c k = cnL a b c (d.take k)
  | 0, _ => rfl
  | k + 1, h => by
    have ih := same_cnL (a := a) (b := b) (c := c) k (by omega : k ≤ d.length)
    rw [take_last ([], []) (by omega)]
    by_cases hc : (alL a b d).getD k 0 = c
    · rw [sameT_yes hc, cnL_yes (by rw [← alL_get (by omega)]; exact hc), ih]
    · rw [sameT_no hc, cnL_no (by rw [← alL_get (by omega)]; exact hc), ih]

end Go.Proofs.Ytkplanpcmkbfiaa
