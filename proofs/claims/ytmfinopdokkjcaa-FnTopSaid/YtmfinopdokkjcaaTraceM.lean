/- Contracts of functions, printed by program from annotations. -/
import Derived.Test.YtmfinopdokkjcaaPtsM
namespace Go.Proofs.Ytmfinopdokkjcaa
open Go Go.AW Go.RowKit
set_option linter.unusedVariables false
set_option linter.unusedSimpArgs false

/-- a walker: its place, its direction -/
abbrev Wk := Int × Int × Int × Int
/-- the break that a walker meets at a point -/
def kd (a b : Int) (l : List Int) (x y : Int) : Int := if Edge a b x y then 0 else l.getD (num a x y).toNat 0
def FlX (a b : Int) (l : List Int) (x y : Int) : Prop := x = 0 ∨ x = 2 * a ∨ kd a b l x y = 1
def FlY (a b : Int) (l : List Int) (x y : Int) : Prop := y = 0 ∨ y = 2 * b ∨ kd a b l x y = 2
instance (a b : Int) (l : List Int) (x y : Int) : Decidable (FlX a b l x y) := by unfold FlX; infer_instance
instance (a b : Int) (l : List Int) (x y : Int) : Decidable (FlY a b l x y) := by unfold FlY; infer_instance
def stp (a b : Int) (l : List Int) (w : Wk) : Wk :=
  (w.1 + w.2.2.1, w.2.1 + w.2.2.2, if FlX a b l (w.1 + w.2.2.1) (w.2.1 + w.2.2.2) then -w.2.2.1 else w.2.2.1, if FlY a b l (w.1 + w.2.2.1) (w.2.1 + w.2.2.2) then -w.2.2.2 else w.2.2.2)
theorem stp_mk (a b : Int) (l : List Int) (x y dx dy : Int) : stp a b l (x, y, dx, dy) = (x + dx, y + dy, if FlX a b l (x + dx) (y + dy) then -dx else dx, if FlY a b l (x + dx) (y + dy) then -dy else dy) := rfl
def bk (w : Wk) : Wk := (w.1 + w.2.2.1, w.2.1 + w.2.2.2, -w.2.2.1, -w.2.2.2)
theorem bk_mk (x y dx dy : Int) : bk (x, y, dx, dy) = (x + dx, y + dy, -dx, -dy) := rfl
theorem bk_bk (w : Wk) : bk (bk w) = w := by
  obtain ⟨x, y, dx, dy⟩ := w
  simp only [bk_mk, Int.neg_neg]
  rw [show x + dx + -dx = x by omega, show y + dy + -dy = y by omega]
theorem stp_bk_stp (a b : Int) (l : List Int) (w : Wk) : stp a b l (bk (stp a b l w)) = bk w := by
  obtain ⟨x, y, dx, dy⟩ := w
  have key : ∀ d1 d2 : Int, stp a b l (bk (x + dx, y + dy, d1, d2)) = (x + dx, y + dy, if FlX a b l (x + dx) (y + dy) then d1 else -d1, if FlY a b l (x + dx) (y + dy) then d2 else -d2) := fun d1 d2 => by
    show (x + dx + d1 + -d1, y + dy + d2 + -d2, if FlX a b l (x + dx + d1 + -d1) (y + dy + d2 + -d2) then - -d1 else -d1, if FlY a b l (x + dx + d1 + -d1) (y + dy + d2 + -d2) then - -d2 else -d2) = _
    rw [show x + dx + d1 + -d1 = x + dx by omega, show y + dy + d2 + -d2 = y + dy by omega, Int.neg_neg, Int.neg_neg]
  rw [stp_mk a b l x y dx dy, key]
  show _ = (x + dx, y + dy, -dx, -dy)
  by_cases h1 : FlX a b l (x + dx) (y + dy) <;> by_cases h2 : FlY a b l (x + dx) (y + dy) <;> simp only [h1, h2, if_true, if_false]
theorem stp_inj {a b : Int} {l : List Int} {u v : Wk} (h : stp a b l u = stp a b l v) : u = v := by
  have h1 : bk u = bk v := by rw [← stp_bk_stp a b l u, ← stp_bk_stp a b l v, h]
  rw [← bk_bk u, ← bk_bk v, h1]
/-- a walker that is valid -/
def VW (a b : Int) (w : Wk) : Prop := (w.2.2.1 = 1 ∨ w.2.2.1 = -1) ∧ (w.2.2.2 = 1 ∨ w.2.2.2 = -1) ∧ PtOk a b w.1 w.2.1 ∧ PtOk a b (w.1 + w.2.2.1) (w.2.1 + w.2.2.2)
instance (a b : Int) (w : Wk) : Decidable (VW a b w) := by unfold VW; infer_instance
theorem VW_mk {a b x y dx dy : Int} : VW a b (x, y, dx, dy) ↔ ((dx = 1 ∨ dx = -1) ∧ (dy = 1 ∨ dy = -1) ∧ PtOk a b x y ∧ PtOk a b (x + dx) (y + dy)) := Iff.rfl
theorem kd_edge {a b x y : Int} {l : List Int} (h : Edge a b x y) : kd a b l x y = 0 := by unfold kd; rw [if_pos h]
theorem flX_spec {a b x y : Int} {l : List Int} (h : FlX a b l x y) : x = 0 ∨ x = 2 * a ∨ ¬ Edge a b x y := by
  rcases h with h | h | h
  · exact .inl h
  · exact .inr (.inl h)
  · exact .inr (.inr fun he => by rw [kd_edge he] at h; cases h)
theorem flY_spec {a b x y : Int} {l : List Int} (h : FlY a b l x y) : y = 0 ∨ y = 2 * b ∨ ¬ Edge a b x y := by
  rcases h with h | h | h
  · exact .inl h
  · exact .inr (.inl h)
  · exact .inr (.inr fun he => by rw [kd_edge he] at h; cases h)
theorem fl_not_both {a b x y : Int} {l : List Int} (hp : PtOk a b x y) (h1 : FlX a b l x y) (h2 : FlY a b l x y) : False := by
  unfold PtOk at hp
  by_cases he : Edge a b x y
  · have h3 := flX_spec h1
    have h4 := flY_spec h2
    have h5 : x = 0 ∨ x = 2 * a := by rcases h3 with h | h | h; exact .inl h; exact .inr h; exact absurd he h
    have h6 : y = 0 ∨ y = 2 * b := by rcases h4 with h | h | h; exact .inl h; exact .inr h; exact absurd he h
    omega
  · have hx : kd a b l x y = 1 := by
      rcases h1 with h | h | h
      · exact absurd (.inl h) he
      · exact absurd (.inr (.inr (.inl h))) he
      · exact h
    have hy : kd a b l x y = 2 := by
      rcases h2 with h | h | h
      · exact absurd (.inr (.inl h)) he
      · exact absurd (.inr (.inr (.inr h))) he
      · exact h
    rw [hx] at hy
    cases hy
theorem VW_stp {a b : Int} {l : List Int} {w : Wk} (ha : 1 ≤ a) (hb : 1 ≤ b) (h : VW a b w) : VW a b (stp a b l w) := by
  obtain ⟨x, y, dx, dy⟩ := w
  obtain ⟨h1, h2, h3, h4⟩ := VW_mk.1 h
  rw [stp_mk, VW_mk]
  have n1 : x + dx = 0 → FlX a b l (x + dx) (y + dy) := fun h => .inl h
  have n2 : x + dx = 2 * a → FlX a b l (x + dx) (y + dy) := fun h => .inr (.inl h)
  have n3 : y + dy = 0 → FlY a b l (x + dx) (y + dy) := fun h => .inl h
  have n4 : y + dy = 2 * b → FlY a b l (x + dx) (y + dy) := fun h => .inr (.inl h)
  by_cases c1 : FlX a b l (x + dx) (y + dy) <;> by_cases c2 : FlY a b l (x + dx) (y + dy)
  · exact (fl_not_both h4 c1 c2).elim
  · have p1 := flX_spec c1
    have p2 : ¬ y + dy = 0 := fun e => c2 (n3 e)
    have p3 : ¬ y + dy = 2 * b := fun e => c2 (n4 e)
    rw [if_pos c1, if_neg c2]
    unfold Edge at p1
    unfold PtOk at *
    omega
  · have p1 := flY_spec c2
    have p2 : ¬ x + dx = 0 := fun e => c1 (n1 e)
    have p3 : ¬ x + dx = 2 * a := fun e => c1 (n2 e)
    rw [if_neg c1, if_pos c2]
    unfold Edge at p1
    unfold PtOk at *
    omega
  · have p2 : ¬ x + dx = 0 := fun e => c1 (n1 e)
    have p3 : ¬ x + dx = 2 * a := fun e => c1 (n2 e)
    have p4 : ¬ y + dy = 0 := fun e => c2 (n3 e)
    have p5 : ¬ y + dy = 2 * b := fun e => c2 (n4 e)
    rw [if_neg c1, if_neg c2]
    unfold PtOk at *
    omega
theorem VW_bk {a b : Int} {w : Wk} (h : VW a b w) : VW a b (bk w) := by
  obtain ⟨x, y, dx, dy⟩ := w
  obtain ⟨h1, h2, h3, h4⟩ := VW_mk.1 h
  rw [bk_mk, VW_mk, show x + dx + -dx = x by omega, show y + dy + -dy = y by omega]
  exact ⟨by omega, by omega, h4, h3⟩
theorem bk_ne {a b : Int} {w : Wk} (h : VW a b w) : bk w ≠ w := by
  obtain ⟨x, y, dx, dy⟩ := w
  obtain ⟨h1, h2, h3, h4⟩ := VW_mk.1 h
  rw [bk_mk]
  intro e
  simp only [Prod.mk.injEq] at e
  omega
theorem stp_ne_bk {a b : Int} {l : List Int} {w : Wk} (h : VW a b w) : stp a b l w ≠ bk w := by
  obtain ⟨x, y, dx, dy⟩ := w
  obtain ⟨h1, h2, h3, h4⟩ := VW_mk.1 h
  rw [bk_mk, stp_mk]
  intro e
  simp only [Prod.mk.injEq] at e
  obtain ⟨-, -, e1, e2⟩ := e
  by_cases c1 : FlX a b l (x + dx) (y + dy)
  · by_cases c2 : FlY a b l (x + dx) (y + dy)
    · exact fl_not_both h4 c1 c2
    · rw [if_neg c2] at e2; omega
  · rw [if_neg c1] at e1; omega
/-- the segment of a walker -/
def sg (b : Int) (w : Wk) : Int := min w.1 (w.1 + w.2.2.1) * (2 * b) + min w.2.1 (w.2.1 + w.2.2.2)
theorem sg_mk (b x y dx dy : Int) : sg b (x, y, dx, dy) = min x (x + dx) * (2 * b) + min y (y + dy) := rfl
theorem divmod_eq {n m m' r r' : Int} (h0 : 0 ≤ r) (h1 : r < n) (h0' : 0 ≤ r') (h1' : r' < n) (h : m * n + r = m' * n + r') : m = m' ∧ r = r' := by
  rcases Int.lt_trichotomy m m' with hl | hl | hl
  · have h2 : (m + 1) * n ≤ m' * n := Int.mul_le_mul_of_nonneg_right (by omega) (by omega)
    rw [Int.add_mul, Int.one_mul] at h2
    omega
  · subst hl; omega
  · have h2 : (m' + 1) * n ≤ m * n := Int.mul_le_mul_of_nonneg_right (by omega) (by omega)
    rw [Int.add_mul, Int.one_mul] at h2
    omega
theorem sg_parts {a b x y dx dy : Int} (h : VW a b (x, y, dx, dy)) : 0 ≤ min x (x + dx) ∧ min x (x + dx) + 1 ≤ 2 * a ∧ 0 ≤ min y (y + dy) ∧ min y (y + dy) < 2 * b := by
  obtain ⟨h1, h2, h3, h4⟩ := VW_mk.1 h
  unfold PtOk at *
  omega
theorem sg_eq {a b : Int} {u v : Wk} (hu : VW a b u) (hv : VW a b v) (h : sg b u = sg b v) : u = v ∨ u = bk v := by
  obtain ⟨x, y, dx, dy⟩ := u
  obtain ⟨x', y', dx', dy'⟩ := v
  have p1 := sg_parts hu
  have p2 := sg_parts hv
  rw [sg_mk, sg_mk] at h
  obtain ⟨e1, e2⟩ := divmod_eq p1.2.2.1 p1.2.2.2 p2.2.2.1 p2.2.2.2 h
  obtain ⟨h1, h2, h3, h4⟩ := VW_mk.1 hu
  obtain ⟨k1, k2, k3, k4⟩ := VW_mk.1 hv
  have q3 := h3.2.2.2.2
  have q4 := k3.2.2.2.2
  clear h h3 h4 k3 k4 p1 p2 hu hv
  simp only [bk_mk, Prod.mk.injEq]
  rcases h1 with rfl | rfl <;> rcases h2 with rfl | rfl <;> rcases k1 with rfl | rfl <;> rcases k2 with rfl | rfl <;> first | (left; omega) | (right; omega) | omega
theorem sg_bk {b : Int} (w : Wk) : sg b (bk w) = sg b w := by
  obtain ⟨x, y, dx, dy⟩ := w
  rw [bk_mk, sg_mk, sg_mk, show x + dx + -dx = x by omega, show y + dy + -dy = y by omega, Int.min_comm, Int.min_comm (y + dy) y]
theorem mul_4 (a b : Int) : 2 * a * (2 * b) = 4 * a * b := by
  rw [show (4 : Int) * a * b = 4 * (a * b) from Int.mul_assoc 4 a b, Int.mul_assoc 2 a (2 * b), ← Int.mul_assoc a 2 b, Int.mul_comm a 2, Int.mul_assoc 2 a b]
  omega
theorem sg_bd {a b : Int} {w : Wk} (h : VW a b w) : 0 ≤ sg b w ∧ sg b w < 4 * a * b := by
  obtain ⟨x, y, dx, dy⟩ := w
  obtain ⟨p1, p2, p3, p4⟩ := sg_parts h
  rw [sg_mk, ← mul_4]
  have h1 : (min x (x + dx) + 1) * (2 * b) ≤ 2 * a * (2 * b) := Int.mul_le_mul_of_nonneg_right p2 (by omega)
  rw [Int.add_mul, Int.one_mul] at h1
  have h2 : 0 ≤ min x (x + dx) * (2 * b) := Int.mul_nonneg p1 (by omega)
  omega
/-- the walker along a segment -/
def wkAt (b k : Int) : Wk := if (k / (2 * b) + k % (2 * b)) % 2 = 1 then (k / (2 * b), k % (2 * b), 1, 1) else (k / (2 * b), k % (2 * b) + 1, 1, -1)
theorem wkAt_spec {a b k : Int} (hb : 1 ≤ b) (h0 : 0 ≤ k) (h1 : k < 4 * a * b) : VW a b (wkAt b k) ∧ sg b (wkAt b k) = k := by
  have e : 2 * b * (k / (2 * b)) + k % (2 * b) = k := by
    have := Int.emod_def k (2 * b)
    omega
  have r0 := Int.emod_nonneg k (show 2 * b ≠ 0 by omega)
  have r1 := Int.emod_lt_of_pos k (show 0 < 2 * b by omega)
  have q0 : 0 ≤ k / (2 * b) := Int.ediv_nonneg h0 (by omega)
  have q1 : k / (2 * b) < 2 * a := Int.ediv_lt_of_lt_mul (by omega) (by rw [mul_4]; exact h1)
  unfold wkAt
  generalize k / (2 * b) = q at *
  generalize k % (2 * b) = r at *
  rw [Int.mul_comm] at e
  split
  · refine ⟨VW_mk.2 ⟨.inl rfl, .inl rfl, ?_, ?_⟩, ?_⟩
    · unfold PtOk; omega
    · unfold PtOk; omega
    · rw [sg_mk, Int.min_eq_left (by omega), Int.min_eq_left (by omega)]; exact e
  · refine ⟨VW_mk.2 ⟨.inl rfl, .inr rfl, ?_, ?_⟩, ?_⟩
    · unfold PtOk; omega
    · unfold PtOk; omega
    · rw [sg_mk, Int.min_eq_left (by omega), Int.min_eq_right (by omega), show r + 1 + -1 = r by omega]; exact e
/-! ### Steps -/
def itr (f : Wk → Wk) : Nat → Wk → Wk
  | 0, w => w
  | n + 1, w => f (itr f n w)
theorem itr_add (f : Wk → Wk) : ∀ (m n : Nat) (w : Wk), itr f (m + n) w = itr f m (itr f n w)
  | 0, n, w => by rw [Nat.zero_add]; rfl
  | m + 1, n, w => by rw [show m + 1 + n = (m + n) + 1 by omega]; show f _ = f _; rw [itr_add f m n w]
theorem itr_inj {a b : Int} {l : List Int} : ∀ (n : Nat) {u v : Wk}, itr (stp a b l) n u = itr (stp a b l) n v → u = v
  | 0, _, _, h => h
  | n + 1, _, _, h => itr_inj n (stp_inj h)
theorem VW_itr {a b : Int} {l : List Int} {w : Wk} (ha : 1 ≤ a) (hb : 1 ≤ b) (h : VW a b w) : ∀ n, VW a b (itr (stp a b l) n w)
  | 0 => h
  | n + 1 => VW_stp ha hb (VW_itr ha hb h n)
theorem no_back_up {a b : Int} {l : List Int} {w : Wk} (ha : 1 ≤ a) (hb : 1 ≤ b) (h : VW a b w) : ∀ (d i : Nat), bk (itr (stp a b l) i w) ≠ itr (stp a b l) (i + d) w
  | 0, i => bk_ne (VW_itr ha hb h i)
  | 1, i => fun e => stp_ne_bk (VW_itr ha hb h i) e.symm
  | d + 2, i => fun e => no_back_up ha hb h d (i + 1) (by
      apply stp_inj (a := a) (b := b) (l := l)
      show stp a b l (bk (stp a b l (itr (stp a b l) i w))) = _
      rw [stp_bk_stp, e, show i + (d + 2) = (i + 1 + d) + 1 by omega]
      rfl)
theorem no_back {a b : Int} {l : List Int} {w : Wk} (ha : 1 ≤ a) (hb : 1 ≤ b) (h : VW a b w) (i j : Nat) : bk (itr (stp a b l) i w) ≠ itr (stp a b l) j w := by
  rcases Nat.le_total i j with hij | hij
  · have := no_back_up (l := l) ha hb h (j - i) i
    rwa [show i + (j - i) = j by omega] at this
  · intro e
    have := no_back_up (l := l) ha hb h (i - j) j
    rw [show j + (i - j) = i by omega] at this
    exact this (by rw [← e, bk_bk])
theorem itr_sg {a b : Int} {l : List Int} {w : Wk} (ha : 1 ≤ a) (hb : 1 ≤ b) (h : VW a b w) {i j : Nat} (e : sg b (itr (stp a b l) i w) = sg b (itr (stp a b l) j w)) : itr (stp a b l) i w = itr (stp a b l) j w := by
  rcases sg_eq (VW_itr ha hb h i) (VW_itr ha hb h j) e with e | e
  · exact e
  · exact absurd e.symm (no_back ha hb h j i)
theorem pigeon : ∀ (n : Nat) (s : Nat → Nat), (∀ i, i ≤ n → s i < n) → ∃ i j, i < j ∧ j ≤ n ∧ s i = s j
  | 0, s, h => absurd (h 0 (Nat.le_refl 0)) (by omega)
  | n + 1, s, h => by
    by_cases hx : ∃ i, i ≤ n ∧ s i = s (n + 1)
    · obtain ⟨i, hi, e⟩ := hx
      exact ⟨i, n + 1, by omega, by omega, e⟩
    · have h2 := h (n + 1) (Nat.le_refl _)
      obtain ⟨i, j, hij, hj, e⟩ := pigeon n (fun i => if s i < s (n + 1) then s i else s i - 1) (fun i hi => by
        have h1 := h i (by omega)
        have h3 : s i ≠ s (n + 1) := fun e => hx ⟨i, hi, e⟩
        show (if s i < s (n + 1) then s i else s i - 1) < n
        split <;> omega)
      refine ⟨i, j, hij, by omega, ?_⟩
      have h3 : s i ≠ s (n + 1) := fun e => hx ⟨i, by omega, e⟩
      have h4 : s j ≠ s (n + 1) := fun e => hx ⟨j, by omega, e⟩
      have e' : (if s i < s (n + 1) then s i else s i - 1) = (if s j < s (n + 1) then s j else s j - 1) := e
      split at e' <;> split at e' <;> omega
/-- the number of the segments -/
def segN (a b : Int) : Nat := (4 * a * b).toNat
theorem segN_pos {a b : Int} (ha : 1 ≤ a) (hb : 1 ≤ b) : 1 ≤ segN a b ∧ (segN a b : Int) = 4 * a * b := by
  have h : 0 < 4 * a * b := Int.mul_pos (by omega) (by omega)
  unfold segN
  omega
theorem exists_ret {a b : Int} {l : List Int} {w : Wk} (ha : 1 ≤ a) (hb : 1 ≤ b) (h : VW a b w) : ∃ p, 1 ≤ p ∧ p < 1 + segN a b ∧ itr (stp a b l) p w = w := by
  have hn := segN_pos ha hb
  obtain ⟨i, j, hij, hj, e⟩ := pigeon (segN a b) (fun i => (sg b (itr (stp a b l) i w)).toNat) (fun i _ => by
    have := sg_bd (VW_itr (l := l) ha hb h i)
    show (sg b (itr (stp a b l) i w)).toNat < segN a b
    omega)
  have h1 := sg_bd (VW_itr (l := l) ha hb h i)
  have h2 := sg_bd (VW_itr (l := l) ha hb h j)
  have e1 : (sg b (itr (stp a b l) i w)).toNat = (sg b (itr (stp a b l) j w)).toNat := e
  have e2 := itr_sg (l := l) ha hb h (show sg b (itr (stp a b l) i w) = sg b (itr (stp a b l) j w) by omega)
  refine ⟨j - i, by omega, by omega, ?_⟩
  have e3 : itr (stp a b l) i (itr (stp a b l) (j - i) w) = itr (stp a b l) i w := by rw [← itr_add, show i + (j - i) = j by omega, e2]
  exact itr_inj i e3
def fret (f : Wk → Wk) (w : Wk) : Nat → Nat → Nat
  | 0, i => i
  | n + 1, i => if itr f i w = w then i else fret f w n (i + 1)
theorem fret_spec (f : Wk → Wk) (w : Wk) : ∀ (n i : Nat), (∃ p, i ≤ p ∧ p < i + n ∧ itr f p w = w) → itr f (fret f w n i) w = w ∧ i ≤ fret f w n i ∧ fret f w n i < i + n ∧ ∀ j, i ≤ j → j < fret f w n i → itr f j w ≠ w
  | 0, i, ⟨p, h1, h2, _⟩ => by omega
  | n + 1, i, ⟨p, h1, h2, h3⟩ => by
    show itr f (if itr f i w = w then i else fret f w n (i + 1)) w = w ∧ _ ≤ (if itr f i w = w then i else fret f w n (i + 1)) ∧ (if itr f i w = w then i else fret f w n (i + 1)) < _ ∧ ∀ j, i ≤ j → j < (if itr f i w = w then i else fret f w n (i + 1)) → itr f j w ≠ w
    by_cases e : itr f i w = w
    · rw [if_pos e]
      exact ⟨e, Nat.le_refl _, by omega, fun j h4 h5 => by omega⟩
    · rw [if_neg e]
      have hp : i ≠ p := fun e' => e (by rw [e']; exact h3)
      obtain ⟨k1, k2, k3, k4⟩ := fret_spec f w n (i + 1) ⟨p, by omega, by omega, h3⟩
      refine ⟨k1, by omega, by omega, fun j h4 h5 => ?_⟩
      rcases Nat.lt_or_ge i j with h6 | h6
      · exact k4 j h6 h5
      · rw [show j = i by omega]; exact e
/-- after how many steps a walker is back -/
def per (a b : Int) (l : List Int) (w : Wk) : Nat := fret (stp a b l) w (segN a b) 1
theorem per_spec {a b : Int} {l : List Int} {w : Wk} (ha : 1 ≤ a) (hb : 1 ≤ b) (h : VW a b w) : itr (stp a b l) (per a b l w) w = w ∧ 1 ≤ per a b l w ∧ per a b l w ≤ segN a b ∧ ∀ j, 1 ≤ j → j < per a b l w → itr (stp a b l) j w ≠ w := by
  obtain ⟨k1, k2, k3, k4⟩ := fret_spec (stp a b l) w (segN a b) 1 (exists_ret ha hb h)
  exact ⟨k1, k2, by unfold per; omega, k4⟩
/-- the walkers of a curve -/
def orb (a b : Int) (l : List Int) (w : Wk) : List Wk := (List.range (per a b l w)).map fun i => itr (stp a b l) i w
theorem length_orb (a b : Int) (l : List Int) (w : Wk) : (orb a b l w).length = per a b l w := by unfold orb; rw [List.length_map, List.length_range]
def orbTo (a b : Int) (l : List Int) (w : Wk) (k : Nat) : List Wk := (List.range k).map fun i => itr (stp a b l) i w
theorem orbTo_zero (a b : Int) (l : List Int) (w : Wk) : orbTo a b l w 0 = [] := rfl
theorem orbTo_succ (a b : Int) (l : List Int) (w : Wk) (k : Nat) : orbTo a b l w (k + 1) = orbTo a b l w k ++ [itr (stp a b l) k w] := by unfold orbTo; rw [List.range_succ, List.map_append]; rfl
theorem length_orbTo (a b : Int) (l : List Int) (w : Wk) (k : Nat) : (orbTo a b l w k).length = k := by unfold orbTo; rw [List.length_map, List.length_range]
theorem orb_getD {a b : Int} {l : List Int} {w : Wk} {i : Nat} (d : Wk) (h : i < per a b l w) : (orb a b l w).getD i d = itr (stp a b l) i w := by simp [orb, List.getD, h]
theorem per_sg {a b : Int} {l : List Int} {w : Wk} (ha : 1 ≤ a) (hb : 1 ≤ b) (h : VW a b w) {i j : Nat} (hij : i < j) (hj : j < per a b l w) : sg b (itr (stp a b l) i w) ≠ sg b (itr (stp a b l) j w) := by
  intro e
  have e2 := itr_sg (l := l) ha hb h e
  refine (per_spec (l := l) ha hb h).2.2.2 (j - i) (by omega) (by omega) ?_
  apply itr_inj (a := a) (b := b) (l := l) i
  rw [← itr_add, show i + (j - i) = j by omega, e2]
/-- the walker v is on the curve of w -/
def On (a b : Int) (l : List Int) (w v : Wk) : Prop := ∃ i, v = itr (stp a b l) i w
theorem On.mem {a b : Int} {l : List Int} {w v : Wk} (ha : 1 ≤ a) (hb : 1 ≤ b) (h : VW a b w) (hv : On a b l w v) : ∃ i, i < per a b l w ∧ v = itr (stp a b l) i w := by
  obtain ⟨k1, k2, k3, k4⟩ := per_spec (l := l) ha hb h
  obtain ⟨i, rfl⟩ := hv
  induction i using Nat.strongRecOn with
  | ind i ih =>
    rcases Nat.lt_or_ge i (per a b l w) with hi | hi
    · exact ⟨i, hi, rfl⟩
    · obtain ⟨j, hj, e⟩ := ih (i - per a b l w) (by omega)
      refine ⟨j, hj, ?_⟩
      rw [← e]
      conv => lhs; rw [show i = (i - per a b l w) + per a b l w by omega, itr_add, k1]
theorem mem_orb {a b : Int} {l : List Int} {w v : Wk} (ha : 1 ≤ a) (hb : 1 ≤ b) (h : VW a b w) : v ∈ orb a b l w ↔ On a b l w v := by
  unfold orb
  rw [List.mem_map]
  constructor
  · rintro ⟨i, _, rfl⟩; exact ⟨i, rfl⟩
  · intro hv
    obtain ⟨i, hi, rfl⟩ := hv.mem ha hb h
    exact ⟨i, List.mem_range.2 hi, rfl⟩
theorem On.self {a b : Int} {l : List Int} {w : Wk} : On a b l w w := ⟨0, rfl⟩
theorem On.next {a b : Int} {l : List Int} {w v : Wk} (h : On a b l w v) : On a b l w (stp a b l v) := by
  obtain ⟨i, rfl⟩ := h
  exact ⟨i + 1, rfl⟩
theorem On.prev {a b : Int} {l : List Int} {w v : Wk} (ha : 1 ≤ a) (hb : 1 ≤ b) (hw : VW a b w) (h : On a b l w (stp a b l v)) : On a b l w v := by
  obtain ⟨i, e⟩ := h
  cases i with
  | zero =>
    obtain ⟨k1, k2, _, _⟩ := per_spec (l := l) ha hb hw
    refine ⟨per a b l w - 1, ?_⟩
    apply stp_inj (a := a) (b := b) (l := l)
    rw [e]
    show w = itr (stp a b l) (per a b l w - 1 + 1) w
    rw [show per a b l w - 1 + 1 = per a b l w by omega, k1]
  | succ i => exact ⟨i, stp_inj e⟩
theorem On.val {a b : Int} {l : List Int} {w v : Wk} (ha : 1 ≤ a) (hb : 1 ≤ b) (hw : VW a b w) (h : On a b l w v) : VW a b v := by
  obtain ⟨i, rfl⟩ := h
  exact VW_itr ha hb hw i
/-- the segment s is one of the curve of w -/
def OnS (a b : Int) (l : List Int) (w : Wk) (s : Int) : Prop := ∃ v, On a b l w v ∧ sg b v = s
theorem onS_iff {a b : Int} {l : List Int} {w v : Wk} (ha : 1 ≤ a) (hb : 1 ≤ b) (hw : VW a b w) (hv : VW a b v) : OnS a b l w (sg b v) ↔ On a b l w v ∨ On a b l w (bk v) := by
  constructor
  · rintro ⟨u, hu, e⟩
    rcases sg_eq (hu.val ha hb hw) hv e with rfl | rfl
    · exact .inl hu
    · exact .inr hu
  · rintro (h | h)
    · exact ⟨v, h, rfl⟩
    · exact ⟨bk v, h, sg_bk v⟩
theorem onS_stp {a b : Int} {l : List Int} {w v : Wk} (ha : 1 ≤ a) (hb : 1 ≤ b) (hw : VW a b w) (hv : VW a b v) : OnS a b l w (sg b (stp a b l v)) ↔ OnS a b l w (sg b v) := by
  rw [onS_iff ha hb hw hv, onS_iff ha hb hw (VW_stp ha hb hv)]
  constructor
  · rintro (h | h)
    · exact .inl (h.prev ha hb hw)
    · exact .inr (by rw [← stp_bk_stp a b l v]; exact h.next)
  · rintro (h | h)
    · exact .inl h.next
    · refine .inr (On.prev (l := l) ha hb hw ?_)
      rw [stp_bk_stp]
      exact h
/-! ### Owners -/
/-- the owners of the segments, with those of some walkers set -/
def paint (b c : Int) (ow : List Int) (ws : List Wk) : List Int := ws.foldl (fun o w => o.set (sg b w).toNat c) ow
theorem length_paint (b c : Int) : ∀ (ws : List Wk) (ow : List Int), (paint b c ow ws).length = ow.length
  | [], _ => rfl
  | w :: ws, ow => by
    show (paint b c (ow.set (sg b w).toNat c) ws).length = ow.length
    rw [length_paint b c ws, List.length_set]
theorem paint_snoc (b c : Int) (ws : List Wk) (ow : List Int) (w : Wk) : paint b c ow (ws ++ [w]) = (paint b c ow ws).set (sg b w).toNat c := by unfold paint; rw [List.foldl_append]; rfl
theorem getD_set_eq {α : Type} {l : List α} {k : Nat} {x d : α} (h : k < l.length) : (l.set k x).getD k d = x := by simp [List.getD, h]
theorem getD_set_ne {α : Type} {l : List α} {k j : Nat} {x d : α} (h : k ≠ j) : (l.set k x).getD j d = l.getD j d := by simp [List.getD, List.getElem?_set_ne h]
theorem getD_app {α : Type} {l m : List α} {k : Nat} {d : α} (h : k < l.length) : (l ++ m).getD k d = l.getD k d := by simp [List.getD, List.getElem?_append_left h]
theorem paint_out {b c : Int} {s : Nat} : ∀ {ws : List Wk} {ow : List Int}, (∀ w, w ∈ ws → (sg b w).toNat ≠ s) → (paint b c ow ws).getD s 0 = ow.getD s 0
  | [], _, _ => rfl
  | w :: ws, ow, h => by
    show (paint b c (ow.set (sg b w).toNat c) ws).getD s 0 = ow.getD s 0
    rw [paint_out (fun v hv => h v (List.mem_cons_of_mem _ hv)), getD_set_ne (h w (List.mem_cons_self ..))]
theorem paint_in {b c : Int} {s : Nat} : ∀ {ws : List Wk} {ow : List Int}, s < ow.length → (∃ w, w ∈ ws ∧ (sg b w).toNat = s) → (paint b c ow ws).getD s 0 = c
  | [], _, _, ⟨w, hw, _⟩ => by cases hw
  | w :: ws, ow, hs, h => by
    show (paint b c (ow.set (sg b w).toNat c) ws).getD s 0 = c
    by_cases hx : ∃ v, v ∈ ws ∧ (sg b v).toNat = s
    · exact paint_in (by rw [List.length_set]; exact hs) hx
    · rw [paint_out (fun v hv e => hx ⟨v, hv, e⟩)]
      obtain ⟨v, hv, e⟩ := h
      rcases List.mem_cons.1 hv with rfl | hv
      · subst e; exact getD_set_eq hs
      · exact absurd ⟨v, hv, e⟩ hx
/-- the curves that go through the first K segments -/
structure TI (a b : Int) (l : List Int) (K : Nat) (ow : List Int) (cs : List (List Wk)) : Prop where
  len : ow.length = segN a b
  rng : ∀ s, s < segN a b → -1 ≤ ow.getD s 0 ∧ ow.getD s 0 < cs.length
  inv : ∀ v, VW a b v → ow.getD (sg b (stp a b l v)).toNat 0 = ow.getD (sg b v).toNat 0
  done : ∀ s, s < K → 0 ≤ ow.getD s 0
  head : ∀ c : Nat, c < cs.length → ∃ k : Nat, k < K ∧ cs.getD c [] = orb a b l (wkAt b k) ∧ ow.getD k 0 = c ∧ ∀ s, s < k → ow.getD s 0 ≠ c
  cnt : cs.length ≤ K
theorem TI.along {a b : Int} {l : List Int} {K : Nat} {ow : List Int} {cs : List (List Wk)} (h : TI a b l K ow cs) (ha : 1 ≤ a) (hb : 1 ≤ b) {w : Wk} (hw : VW a b w) : ∀ i, ow.getD (sg b (itr (stp a b l) i w)).toNat 0 = ow.getD (sg b w).toNat 0
  | 0 => rfl
  | i + 1 => by
    show ow.getD (sg b (stp a b l (itr (stp a b l) i w))).toNat 0 = _
    rw [h.inv _ (VW_itr ha hb hw i), h.along ha hb hw i]

theorem TI.zero (a b : Int) (l : List Int) (ha : 1 ≤ a) (hb : 1 ≤ b) : TI a b l 0 (List.replicate (segN a b) (-1)) [] := by
  have hg : ∀ s, s < segN a b → (List.replicate (segN a b) (-1 : Int)).getD s 0 = -1 := fun s hs => by simp [List.getD, hs]
  refine ⟨List.length_replicate, fun s hs => ?_, fun v hv => ?_, fun s hs => by omega, fun c hc => by simp at hc, Nat.le_refl _⟩
  · rw [hg s hs]; exact ⟨by omega, by simp⟩
  · have h1 := sg_bd hv
    have h2 := sg_bd (VW_stp (l := l) ha hb hv)
    have h3 := segN_pos ha hb
    rw [hg _ (by omega), hg _ (by omega)]
theorem TI.keep {a b : Int} {l : List Int} {K : Nat} {ow : List Int} {cs : List (List Wk)} (h : TI a b l K ow cs) (hk : 0 ≤ ow.getD K 0) : TI a b l (K + 1) ow cs :=
  ⟨h.len, h.rng, h.inv, fun s hs => by
    rcases Nat.lt_or_ge s K with h1 | h1
    · exact h.done s h1
    · rw [show s = K by omega]; exact hk, fun c hc => by
    obtain ⟨k, h1, h2⟩ := h.head c hc
    exact ⟨k, by omega, h2⟩, by have := h.cnt; omega⟩
theorem TI.unowned {a b : Int} {l : List Int} {K : Nat} {ow : List Int} {cs : List (List Wk)} (h : TI a b l K ow cs) (ha : 1 ≤ a) (hb : 1 ≤ b) (hK : K < segN a b) (hk : ow.getD K 0 < 0) (i : Nat) : ow.getD (sg b (itr (stp a b l) i (wkAt b K))).toNat 0 < 0 := by
  have hn := segN_pos ha hb
  obtain ⟨hw, hs⟩ := wkAt_spec (a := a) (k := (K : Int)) hb (by omega) (by omega)
  rw [h.along ha hb hw i, hs, Int.toNat_natCast]
  exact hk
theorem orb_sgs {a b : Int} {l : List Int} {w : Wk} (ha : 1 ≤ a) (hb : 1 ≤ b) (hw : VW a b w) (s : Nat) : (∃ v, v ∈ orb a b l w ∧ (sg b v).toNat = s) ↔ OnS a b l w s := by
  constructor
  · rintro ⟨v, hv, e⟩
    have h1 := (mem_orb ha hb hw).1 hv
    have h2 := sg_bd (h1.val ha hb hw)
    exact ⟨v, h1, by omega⟩
  · rintro ⟨v, hv, e⟩
    exact ⟨v, (mem_orb ha hb hw).2 hv, by omega⟩
theorem TI.add {a b : Int} {l : List Int} {K : Nat} {ow : List Int} {cs : List (List Wk)} (h : TI a b l K ow cs) (ha : 1 ≤ a) (hb : 1 ≤ b) (hK : K < segN a b) (hk : ow.getD K 0 < 0) :
    TI a b l (K + 1) (paint b cs.length ow (orb a b l (wkAt b K))) (cs ++ [orb a b l (wkAt b K)]) := by
  have hn := segN_pos ha hb
  obtain ⟨hw, hsK⟩ := wkAt_spec (a := a) (k := (K : Int)) hb (by omega) (by omega)
  have hin : ∀ s, s < segN a b → OnS a b l (wkAt b K) s → (paint b cs.length ow (orb a b l (wkAt b K))).getD s 0 = cs.length ∧ ow.getD s 0 < 0 := fun s hs ho => by
    refine ⟨paint_in (by rw [h.len]; exact hs) ((orb_sgs ha hb hw s).2 ho), ?_⟩
    obtain ⟨v, ⟨i, rfl⟩, e⟩ := ho
    have := h.unowned ha hb hK hk i
    rw [e, Int.toNat_natCast] at this
    exact this
  have hout : ∀ s : Nat, ¬ OnS a b l (wkAt b K) s → (paint b cs.length ow (orb a b l (wkAt b K))).getD s 0 = ow.getD s 0 := fun s ho =>
    paint_out fun w hw' e => ho ((orb_sgs ha hb hw s).1 ⟨w, hw', e⟩)
  refine ⟨by rw [length_paint]; exact h.len, fun s hs => ?_, fun v hv => ?_, fun s hs => ?_, fun c hc => ?_, by have := h.cnt; simp; omega⟩
  · rw [List.length_append, List.length_singleton]
    have h1 := h.rng s hs
    by_cases ho : OnS a b l (wkAt b K) s
    · rw [(hin s hs ho).1]; omega
    · rw [hout s ho]; omega
  · have h1 := sg_bd hv
    have h2 := sg_bd (VW_stp (l := l) ha hb hv)
    have e1 : ((sg b v).toNat : Int) = sg b v := by omega
    have e2 : ((sg b (stp a b l v)).toNat : Int) = sg b (stp a b l v) := by omega
    by_cases ho : OnS a b l (wkAt b K) (sg b v)
    · have ho2 := (onS_stp ha hb hw hv).2 ho
      rw [(hin _ (by omega) (by rw [e2]; exact ho2)).1, (hin _ (by omega) (by rw [e1]; exact ho)).1]
    · have ho2 : ¬ OnS a b l (wkAt b K) (sg b (stp a b l v)) := fun hh => ho ((onS_stp ha hb hw hv).1 hh)
      rw [hout _ (by rw [e2]; exact ho2), hout _ (by rw [e1]; exact ho)]
      exact h.inv v hv
  · have h1 : s < segN a b := by omega
    by_cases ho : OnS a b l (wkAt b K) s
    · rw [(hin s h1 ho).1]; omega
    · rw [hout s ho]
      rcases Nat.lt_or_ge s K with h2 | h2
      · exact h.done s h2
      · exact absurd ⟨wkAt b K, On.self, by rw [hsK]; omega⟩ ho
  · rw [List.length_append, List.length_singleton] at hc
    rcases Nat.lt_or_ge c cs.length with h1 | h1
    · obtain ⟨k, k1, k2, k3, k4⟩ := h.head c h1
      have hno : ∀ s : Nat, s < segN a b → ((paint b cs.length ow (orb a b l (wkAt b K))).getD s 0 = (c : Int) ↔ ow.getD s 0 = c) := fun s hs => by
        by_cases ho : OnS a b l (wkAt b K) s
        · have h3 := hin s hs ho
          rw [h3.1]
          have h5 := h3.2
          constructor
          · intro h4; omega
          · intro h4; omega
        · rw [hout s ho]
      refine ⟨k, by omega, by rw [getD_app h1]; exact k2, (hno k (by omega)).2 k3, fun s hs e => k4 s hs ((hno s (by omega)).1 e)⟩
    · have hce : c = cs.length := by omega
      subst hce
      refine ⟨K, by omega, by simp [List.getD], (hin K hK ⟨wkAt b K, On.self, hsK⟩).1, fun s hs e => ?_⟩
      by_cases ho : OnS a b l (wkAt b K) s
      · have h3 := hin s (by omega) ho
        have := h.done s hs
        omega
      · rw [hout s ho] at e
        have := h.rng s (by omega)
        omega
/-- all curves, through the first K segments: the owners of the segments, and the curves -/
def tr (a b : Int) (l : List Int) : Nat → List Int × List (List Wk)
  | 0 => (List.replicate (segN a b) (-1), [])
  | K + 1 => if 0 ≤ (tr a b l K).1.getD K 0 then tr a b l K else (paint b (tr a b l K).2.length (tr a b l K).1 (orb a b l (wkAt b K)), (tr a b l K).2 ++ [orb a b l (wkAt b K)])
theorem tr_keep {a b : Int} {l : List Int} {K : Nat} (h : 0 ≤ (tr a b l K).1.getD K 0) : tr a b l (K + 1) = tr a b l K := by
  show (if _ then _ else _) = _
  rw [if_pos h]
theorem tr_add {a b : Int} {l : List Int} {K : Nat} (h : ¬ 0 ≤ (tr a b l K).1.getD K 0) : tr a b l (K + 1) = (paint b (tr a b l K).2.length (tr a b l K).1 (orb a b l (wkAt b K)), (tr a b l K).2 ++ [orb a b l (wkAt b K)]) := by
  show (if _ then _ else _) = _
  rw [if_neg h]
theorem tr_TI {a b : Int} {l : List Int} (ha : 1 ≤ a) (hb : 1 ≤ b) : ∀ K, K ≤ segN a b → TI a b l K (tr a b l K).1 (tr a b l K).2
  | 0, _ => TI.zero a b l ha hb
  | K + 1, hK => by
    have ih := tr_TI (l := l) ha hb K (by omega)
    by_cases h : 0 ≤ (tr a b l K).1.getD K 0
    · rw [tr_keep h]; exact ih.keep h
    · rw [tr_add h]; exact ih.add ha hb (by omega) (by omega)
/-- the curve of each segment -/
def ownL (a b : Int) (l : List Int) : List Int := (tr a b l (segN a b)).1
/-- the curves -/
def curL (a b : Int) (l : List Int) : List (List Wk) := (tr a b l (segN a b)).2
/-- the number of the curves -/
def cnt (a b : Int) (l : List Int) : Nat := (curL a b l).length
theorem allTI {a b : Int} {l : List Int} (ha : 1 ≤ a) (hb : 1 ≤ b) : TI a b l (segN a b) (ownL a b l) (curL a b l) := tr_TI ha hb _ (Nat.le_refl _)
theorem cnt_pos {a b : Int} {l : List Int} (ha : 1 ≤ a) (hb : 1 ≤ b) : 1 ≤ cnt a b l ∧ cnt a b l ≤ segN a b := by
  have h := allTI (l := l) ha hb
  have hn := segN_pos ha hb
  refine ⟨?_, h.cnt⟩
  have h1 := h.rng 0 (by omega)
  have h2 := h.done 0 (by omega)
  unfold cnt
  omega
theorem segN_le {a b : Int} (hs : SizeOk a b) : segN a b ≤ 256 ∧ (segN a b : Int) = 4 * a * b ∧ 1 ≤ segN a b := by
  obtain ⟨s1, s2, s3, s4⟩ := hs
  have h := segN_pos s1 s3
  refine ⟨?_, h.2, h.1⟩
  unfold segN
  rcases side8 s1 s2 with rfl | rfl | rfl | rfl | rfl | rfl | rfl | rfl <;> omega

end Go.Proofs.Ytmfinopdokkjcaa
