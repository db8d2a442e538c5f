/- Contracts of functions, printed by program from annotations. -/
import Derived.Test.YtmfinopdokkjcaaLawN
namespace Go.Proofs.Ytmfinopdokkjcaa
open Go Go.AW Go.RowKit
set_option linter.unusedVariables false
set_option linter.unusedSimpArgs false

/-- a point of a panel -/
def PtOk (a b x y : Int) : Prop := 0 ≤ x ∧ x ≤ 2 * a ∧ 0 ≤ y ∧ y ≤ 2 * b ∧ (x + y) % 2 = 1
instance (a b x y : Int) : Decidable (PtOk a b x y) := by unfold PtOk; infer_instance
def Edge (a b x y : Int) : Prop := x = 0 ∨ y = 0 ∨ x = 2 * a ∨ y = 2 * b
instance (a b x y : Int) : Decidable (Edge a b x y) := by unfold Edge; infer_instance
/-- the inner points ahead of a row -/
def rowN (a y : Int) : Int := (y - 1) * a - y / 2
theorem rowN_succ (a : Int) (k : Nat) : rowN a ((k + 1 : Nat) : Int) = rowN a k + a - ((k % 2 : Nat) : Int) := by
  unfold rowN
  have e : ((k + 1 : Nat) : Int) - 1 = ((k : Int) - 1) + 1 := by omega
  rw [e, Int.add_mul, Int.one_mul]
  omega
theorem side8 {a : Int} (h1 : 1 ≤ a) (h2 : a ≤ 8) : a = 1 ∨ a = 2 ∨ a = 3 ∨ a = 4 ∨ a = 5 ∨ a = 6 ∨ a = 7 ∨ a = 8 := by omega
theorem rowN_bd {a b y : Int} (hs : SizeOk a b) (h0 : 1 ≤ y) (h1 : y ≤ 2 * b) : 0 ≤ rowN a y ∧ rowN a y ≤ inn a b ∧ rowN a y ≤ 112 := by
  obtain ⟨s1, s2, s3, s4⟩ := hs
  unfold rowN inn
  rcases side8 s1 s2 with rfl | rfl | rfl | rfl | rfl | rfl | rfl | rfl <;> omega
/-- the number of an inner point -/
def num (a x y : Int) : Int := rowN a y + (x - 1) / 2
theorem num_bd {a b x y : Int} (hs : SizeOk a b) (hp : PtOk a b x y) (he : ¬ Edge a b x y) : 0 ≤ num a x y ∧ num a x y < inn a b := by
  obtain ⟨s1, s2, s3, s4⟩ := hs
  unfold PtOk at hp
  unfold Edge at he
  unfold num rowN inn
  rcases side8 s1 s2 with rfl | rfl | rfl | rfl | rfl | rfl | rfl | rfl <;> omega
theorem num_odd {a b x y : Int} (hs : SizeOk a b) (hp : PtOk a b x y) (he : ¬ Edge a b x y) (h : y % 2 = 1) : y / 2 * (a - 1) + (y - 1) / 2 * a + x / 2 - 1 = num a x y := by
  obtain ⟨s1, s2, s3, s4⟩ := hs
  unfold PtOk at hp
  unfold Edge at he
  unfold num rowN
  rcases side8 s1 s2 with rfl | rfl | rfl | rfl | rfl | rfl | rfl | rfl <;> omega
theorem num_even {a b x y : Int} (hs : SizeOk a b) (hp : PtOk a b x y) (he : ¬ Edge a b x y) (h : ¬ y % 2 = 1) : y / 2 * (a - 1) + (y - 1) / 2 * a + x / 2 = num a x y := by
  obtain ⟨s1, s2, s3, s4⟩ := hs
  unfold PtOk at hp
  unfold Edge at he
  unfold num rowN
  rcases side8 s1 s2 with rfl | rfl | rfl | rfl | rfl | rfl | rfl | rfl <;> omega
theorem num_mid {a b x y : Int} (hs : SizeOk a b) (hp : PtOk a b x y) (he : ¬ Edge a b x y) : 0 ≤ y / 2 * (a - 1) ∧ y / 2 * (a - 1) ≤ 56 ∧ 0 ≤ (y - 1) / 2 * a ∧ (y - 1) / 2 * a ≤ 64 ∧ 1 ≤ x ∧ x ≤ 15 ∧ 1 ≤ y ∧ y ≤ 15 := by
  obtain ⟨s1, s2, s3, s4⟩ := hs
  unfold PtOk at hp
  unfold Edge at he
  rcases side8 s1 s2 with rfl | rfl | rfl | rfl | rfl | rfl | rfl | rfl <;> omega
theorem ptOk_mid {a b x y : Int} (hs : SizeOk a b) (hp : PtOk a b x y) : 0 ≤ x ∧ x ≤ 16 ∧ 0 ≤ y ∧ y ≤ 16 := by
  obtain ⟨s1, s2, s3, s4⟩ := hs
  unfold PtOk at hp
  omega
theorem okP_size {a b : Int} {l : List Int} (h : okP a b l = true) : SizeOk a b := (okP_spec h).1
theorem okP_inn {a b : Int} {l : List Int} (h : okP a b l = true) : l.length = inn a b := (okP_spec h).2.1
/-- the code of a panel and an inner point -/
def ptE (a b : Int) (l : List Int) (x y : Int) : Int := if okP a b l = true then (if PtOk a b x y then (if Edge a b x y then 6 else 0) else 2) else 1
theorem ptE_bad {a b x y : Int} {l : List Int} (h : okP a b l = false) : ptE a b l x y = 1 := by unfold ptE; rw [if_neg (by rw [h]; decide)]
theorem ptE_out {a b x y : Int} {l : List Int} (h : okP a b l = true) (hp : ¬ PtOk a b x y) : ptE a b l x y = 2 := by unfold ptE; rw [if_pos h, if_neg hp]
theorem ptE_edge {a b x y : Int} {l : List Int} (h : okP a b l = true) (hp : PtOk a b x y) (he : Edge a b x y) : ptE a b l x y = 6 := by unfold ptE; rw [if_pos h, if_pos hp, if_pos he]
theorem ptE_ok {a b x y : Int} {l : List Int} (h : okP a b l = true) (hp : PtOk a b x y) (he : ¬ Edge a b x y) : ptE a b l x y = 0 := by unfold ptE; rw [if_pos h, if_pos hp, if_neg he]
theorem ptE_zero {a b x y : Int} {l : List Int} (h : ptE a b l x y = 0) : okP a b l = true ∧ PtOk a b x y ∧ ¬ Edge a b x y := by
  unfold ptE at h
  split at h
  · split at h
    · split at h
      · cases h
      · exact ⟨by assumption, by assumption, by assumption⟩
    · cases h
  · cases h

end Go.Proofs.Ytmfinopdokkjcaa
