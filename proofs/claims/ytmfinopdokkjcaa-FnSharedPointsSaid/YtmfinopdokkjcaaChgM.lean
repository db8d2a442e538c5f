/- Contracts of functions, printed by program from annotations. -/
import Derived.Test.YtmfinopdokkjcaaTrc2
namespace Go.Proofs.Ytmfinopdokkjcaa
open Go Go.AW Go.RowKit
set_option linter.unusedVariables false
set_option linter.unusedSimpArgs false

/-- how far two numbers are apart -/
def dst (a b : Int) : Int := max (a - b) (b - a)
theorem dst_nonneg (a b : Int) : 0 ≤ dst a b := by unfold dst; omega
theorem dst_bd {a b : Int} (h0 : 0 ≤ a) (h1 : a ≤ 256) (h2 : 1 ≤ b) (h3 : b ≤ 128) : dst a b ≤ 256 := by unfold dst; omega
theorem dst_zero {a b : Int} : dst a b = 0 ↔ a = b := by unfold dst; omega
theorem cnt_le {a b : Int} {l : List Int} (hs : SizeOk a b) : 1 ≤ cnt a b l ∧ cnt a b l ≤ 256 := by
  have h1 := cnt_pos (l := l) hs.1 hs.2.2.1
  have h2 := segN_le hs
  omega
theorem okP_set {a b : Int} {l : List Int} (h : okP a b l = true) (k : Nat) {y : Int} (h0 : 0 ≤ y) (h1 : y ≤ 2) : okP a b (l.set k y) = true := by
  obtain ⟨hs, hl, hx⟩ := okP_spec h
  unfold okP
  refine decide_eq_true ⟨hs, by rw [List.length_set]; exact hl, fun x hm => ?_⟩
  rcases List.mem_or_eq_of_mem_set hm with hm | rfl
  · exact hx x hm
  · exact ⟨h0, h1⟩
/-- the number of curves with another break at a point -/
def cw (a b : Int) (l : List Int) (k j : Nat) : Int := (cnt a b (l.set k (j : Int)) : Int)
abbrev FSt := Int × Int × Int
/-- one look at a change: the best one so far (point, kind, distance) -/
def fcU (a b : Int) (l : List Int) (c : Int) (k j : Nat) (s : FSt) : FSt := if dst (cw a b l k j) c < s.2.2 then ((k : Int), (j : Int), dst (cw a b l k j) c) else s
theorem fcU_yes {a b c : Int} {l : List Int} {k j : Nat} {s : FSt} (h : dst (cw a b l k j) c < s.2.2) : fcU a b l c k j s = ((k : Int), (j : Int), dst (cw a b l k j) c) := if_pos h
theorem fcU_no {a b c : Int} {l : List Int} {k j : Nat} {s : FSt} (h : ¬ dst (cw a b l k j) c < s.2.2) : fcU a b l c k j s = s := if_neg h
def fcJ (a b : Int) (l : List Int) (c : Int) (k : Nat) (s : FSt) : Nat → FSt
  | 0 => s
  | j + 1 => fcU a b l c k j (fcJ a b l c k s j)
def fcS (a b : Int) (l : List Int) (c : Int) : Nat → FSt
  | 0 => (-1, 0, dst (cnt a b l) c)
  | k + 1 => fcJ a b l c k (fcS a b l c k) 3
/-- what holds of the best change -/
def FI (a b : Int) (l : List Int) (c : Int) (n : Nat) (s : FSt) : Prop :=
  (s.1 = -1 ∧ s.2.1 = 0 ∧ s.2.2 = dst (cnt a b l) c) ∨ (0 ≤ s.1 ∧ s.1 < n ∧ 0 ≤ s.2.1 ∧ s.2.1 ≤ 2 ∧ s.2.2 = dst (cnt a b (l.set s.1.toNat s.2.1)) c ∧ s.2.2 < dst (cnt a b l) c)
theorem FI.up {a b c : Int} {l : List Int} {n : Nat} {s : FSt} (h : FI a b l c n s) : FI a b l c (n + 1) s := by
  rcases h with h | ⟨h1, h2, h3⟩
  · exact .inl h
  · exact .inr ⟨h1, by omega, h3⟩
theorem FI.le {a b c : Int} {l : List Int} {n : Nat} {s : FSt} (h : FI a b l c n s) : s.2.2 ≤ dst (cnt a b l) c := by
  rcases h with h | h
  · rw [h.2.2]; exact Int.le_refl _
  · exact Int.le_of_lt h.2.2.2.2.2
theorem FI.put {a b c : Int} {l : List Int} {k : Nat} {s : FSt} (h : FI a b l c (k + 1) s) (j : Nat) (hj : j ≤ 2) : FI a b l c (k + 1) (fcU a b l c k j s) := by
  by_cases hd : dst (cw a b l k j) c < s.2.2
  · rw [fcU_yes hd]
    refine .inr ⟨by show (0 : Int) ≤ (k : Int); omega, by show (k : Int) < ((k + 1 : Nat) : Int); omega, by show (0 : Int) ≤ (j : Int); omega, by show (j : Int) ≤ 2; omega, ?_, ?_⟩
    · show dst (cw a b l k j) c = dst (cnt a b (l.set (k : Int).toNat (j : Int))) c
      rw [Int.toNat_natCast]; rfl
    · show dst (cw a b l k j) c < _
      have := h.le
      omega
  · rw [fcU_no hd]; exact h
theorem FI.J {a b c : Int} {l : List Int} {k : Nat} {s : FSt} (h : FI a b l c k s) : ∀ j, j ≤ 3 → FI a b l c (k + 1) (fcJ a b l c k s j)
  | 0, _ => h.up
  | j + 1, hj => (FI.J h j (by omega)).put j (by omega)
theorem FI.S (a b c : Int) (l : List Int) : ∀ n, FI a b l c n (fcS a b l c n)
  | 0 => .inl ⟨rfl, rfl, rfl⟩
  | n + 1 => (FI.S a b c l n).J 3 (Nat.le_refl _)
/-- the first change that leads nearest: point (-1 where there is none) and kind -/
def fcA (a b : Int) (l : List Int) (c : Int) : Int := (fcS a b l c l.length).1
def fcK (a b : Int) (l : List Int) (c : Int) : Int := (fcS a b l c l.length).2.1
theorem fc_no {a b c : Int} {l : List Int} (h : fcA a b l c < 0) : fcA a b l c = -1 ∧ fcK a b l c = 0 := by
  rcases FI.S a b c l l.length with h1 | h1
  · exact ⟨h1.1, h1.2.1⟩
  · unfold fcA at h; omega
theorem fc_yes {a b c : Int} {l : List Int} (h : ¬ fcA a b l c < 0) : 0 ≤ fcA a b l c ∧ fcA a b l c < l.length ∧ 0 ≤ fcK a b l c ∧ fcK a b l c ≤ 2 ∧ dst (cnt a b (l.set (fcA a b l c).toNat (fcK a b l c))) c < dst (cnt a b l) c := by
  rcases FI.S a b c l l.length with h1 | h1
  · unfold fcA at h; omega
  · obtain ⟨h1, h2, h3, h4, h5, h6⟩ := h1
    rw [h5] at h6
    exact ⟨h1, h2, h3, h4, h6⟩
/-- the panel after the first change -/
def nxL (a b : Int) (l : List Int) (c : Int) : List Int := l.set (fcA a b l c).toNat (fcK a b l c)
/-- the way to a number of curves: the last panel where it is reached, and the number of steps -/
def goS (a b c : Int) : Nat → Nat → List Int → Option (List Int) × Nat
  | 0, n, _ => (none, n)
  | f + 1, n, l => if (cnt a b l : Int) = c then (some l, n) else if fcA a b l c < 0 then (none, n) else goS a b c f (n + 1) (nxL a b l c)
def stR (a b : Int) (l : List Int) (c : Int) : Option (List Int) × Nat := goS a b c ((dst (cnt a b l) c).toNat + 1) 0 l
/-- what is known on the way: the panel, the number of steps -/
def Way (a b : Int) (l : List Int) (c : Int) (n : Nat) (m : List Int) : Prop :=
  okP a b m = true ∧ m.length = l.length ∧ ∃ f, stR a b l c = goS a b c (f + 1) n m ∧ (dst (cnt a b m) c).toNat ≤ f ∧ n + f ≤ (dst (cnt a b l) c).toNat
theorem Way.zero {a b c : Int} {l : List Int} (h : okP a b l = true) : Way a b l c 0 l := ⟨h, rfl, _, rfl, Nat.le_refl _, by omega⟩
theorem Way.hit {a b c : Int} {l m : List Int} {n : Nat} (h : Way a b l c n m) (hc : (cnt a b m : Int) = c) : stR a b l c = (some m, n) := by
  obtain ⟨-, -, f, h1, -, -⟩ := h
  rw [h1]; unfold goS; rw [if_pos hc]
theorem Way.lost {a b c : Int} {l m : List Int} {n : Nat} (h : Way a b l c n m) (hc : ¬ (cnt a b m : Int) = c) (hn : fcA a b m c < 0) : (stR a b l c).1 = none := by
  obtain ⟨-, -, f, h1, -, -⟩ := h
  rw [h1]; unfold goS; rw [if_neg hc, if_pos hn]
theorem Way.step {a b c : Int} {l m : List Int} {n : Nat} (h : Way a b l c n m) (hc : ¬ (cnt a b m : Int) = c) (hn : ¬ fcA a b m c < 0) : Way a b l c (n + 1) (nxL a b m c) ∧ (dst (cnt a b (nxL a b m c)) c).toNat < (dst (cnt a b m) c).toNat := by
  obtain ⟨h0, h00, f, h1, h2, h3⟩ := h
  obtain ⟨g1, g2, g3, g4, g5⟩ := fc_yes hn
  have hd := dst_nonneg (cnt a b (m.set (fcA a b m c).toNat (fcK a b m c))) c
  have hlt : (dst (cnt a b (nxL a b m c)) c).toNat < (dst (cnt a b m) c).toNat := by
    unfold nxL; omega
  refine ⟨⟨okP_set h0 _ g3 g4, by unfold nxL; rw [List.length_set]; exact h00, f - 1, ?_, by omega, by omega⟩, hlt⟩
  rw [h1, show f - 1 + 1 = f by omega]
  conv => lhs; unfold goS
  rw [if_neg hc, if_neg hn]
def gcE (a b : Int) (l : List Int) (c : Int) : Int := if okP a b l = true then (if 1 ≤ c ∧ c ≤ 128 then 0 else 2) else 1
theorem gc_bad {a b c : Int} {l : List Int} (h : okP a b l = false) : gcE a b l c = 1 := by unfold gcE; rw [if_neg (by rw [h]; decide)]
theorem gc_out {a b c : Int} {l : List Int} (h : okP a b l = true) (hc : ¬ (1 ≤ c ∧ c ≤ 128)) : gcE a b l c = 2 := by unfold gcE; rw [if_pos h, if_neg hc]
theorem gc_ok {a b c : Int} {l : List Int} (h : okP a b l = true) (hc : 1 ≤ c ∧ c ≤ 128) : gcE a b l c = 0 := by unfold gcE; rw [if_pos h, if_pos hc]
theorem gc_zero {a b c : Int} {l : List Int} (h : gcE a b l c = 0) : okP a b l = true ∧ 1 ≤ c ∧ c ≤ 128 := by
  unfold gcE at h
  split at h
  · split at h
    · exact ⟨by assumption, by assumption⟩
    · cases h
  · cases h
/-- the error, the panel and the number of steps to a number of curves -/
def stE (a b : Int) (l : List Int) (c : Int) : Int := if gcE a b l c = 0 then (if (stR a b l c).1.isSome then 0 else 3) else gcE a b l c
def stV (a b : Int) (l : List Int) (c x : Int) : Int := if stE a b l c = 0 then x else 0
def stL (a b : Int) (l : List Int) (c : Int) : List Int := if stE a b l c = 0 then (stR a b l c).1.getD [] else []
theorem st_bad {a b c : Int} {l : List Int} (h : ¬ gcE a b l c = 0) : stE a b l c = gcE a b l c ∧ (∀ x, stV a b l c x = 0) ∧ stL a b l c = [] := by
  have h1 : stE a b l c = gcE a b l c := by unfold stE; rw [if_neg h]
  exact ⟨h1, fun x => by unfold stV; rw [h1, if_neg h], by unfold stL; rw [h1, if_neg h]⟩
theorem st_lost {a b c : Int} {l : List Int} (h : gcE a b l c = 0) (hr : (stR a b l c).1 = none) : stE a b l c = 3 ∧ (∀ x, stV a b l c x = 0) ∧ stL a b l c = [] := by
  have h1 : stE a b l c = 3 := by unfold stE; rw [if_pos h, hr]; rfl
  exact ⟨h1, fun x => by unfold stV; rw [h1]; rfl, by unfold stL; rw [h1]; rfl⟩
theorem st_hit {a b c : Int} {l m : List Int} {n : Nat} (h : gcE a b l c = 0) (hr : stR a b l c = (some m, n)) : stE a b l c = 0 ∧ (∀ x, stV a b l c x = x) ∧ stL a b l c = m := by
  have h1 : stE a b l c = 0 := by unfold stE; rw [if_pos h, hr]; rfl
  exact ⟨h1, fun x => by unfold stV; rw [if_pos h1], by unfold stL; rw [if_pos h1, hr]; rfl⟩
theorem goS_bd (a b c : Int) (B : Nat) : ∀ (f n : Nat) (m : List Int), m.length ≤ B → ((goS a b c f n m).1.getD []).length ≤ B ∧ (goS a b c f n m).2 ≤ n + f
  | 0, n, m, h => ⟨Nat.zero_le _, Nat.le_refl _⟩
  | f + 1, n, m, h => by
    unfold goS
    by_cases h1 : (cnt a b m : Int) = c
    · rw [if_pos h1]; exact ⟨h, by show n ≤ _; omega⟩
    · rw [if_neg h1]
      by_cases h2 : fcA a b m c < 0
      · rw [if_pos h2]; exact ⟨Nat.zero_le _, by show n ≤ _; omega⟩
      · rw [if_neg h2]
        have := goS_bd a b c B f (n + 1) (nxL a b m c) (by unfold nxL; rw [List.length_set]; exact h)
        exact ⟨this.1, by omega⟩
theorem okP_ln {a b : Int} {l : List Int} (h : okP a b l = true) : l.length ≤ 112 := by
  have h1 := okP_inn h
  have h2 := inn_eq (okP_size h)
  omega
theorem stL_size (a b : Int) (l : List Int) (c : Int) : (stL a b l c).length ≤ 112 := by
  unfold stL
  split
  · rename_i h
    unfold stE at h
    split at h
    · rename_i hg
      exact (goS_bd a b c 112 _ 0 l (okP_ln (gc_zero hg).1)).1
    · omega
  · exact Nat.zero_le _

end Go.Proofs.Ytmfinopdokkjcaa
