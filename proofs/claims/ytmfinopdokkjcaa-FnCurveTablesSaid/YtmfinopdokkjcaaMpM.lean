/- Contracts of functions, printed by program from annotations. -/
import Derived.Test.YtmfinopdokkjcaaAwm
import Derived.Test.YtmfinopdokkjcaaPtL
import Derived.Test.YtmfinopdokkjcaaCrsM
import Derived.Test.YtmfinopdokkjcaaPWith
namespace Go.Proofs.Ytmfinopdokkjcaa
open Go Go.AW Go.RowKit
set_option linter.unusedVariables false
set_option linter.unusedSimpArgs false

/-- a point under a symmetry of a panel: first the sides are exchanged, then each is turned round -/
def mpA (s : Nat) (a b : Int) : Int := if 4 ≤ s then b else a
def mpB (s : Nat) (a b : Int) : Int := if 4 ≤ s then a else b
def mpX (s : Nat) (a b x y : Int) : Int := if s % 2 = 1 then 2 * mpA s a b - (if 4 ≤ s then y else x) else (if 4 ≤ s then y else x)
def mpY (s : Nat) (a b x y : Int) : Int := if s / 2 % 2 = 1 then 2 * mpB s a b - (if 4 ≤ s then x else y) else (if 4 ≤ s then x else y)
def mk (s : Nat) (k : Int) : Int := if 4 ≤ s ∧ k ≠ 0 then 3 - k else k
/-- the symmetry s, then t -/
def cm (s t : Nat) : Nat := 4 * ((s / 4 + t / 4) % 2) + 2 * ((t / 2 % 2 + (if 4 ≤ t then s % 2 else s / 2 % 2)) % 2) + (t % 2 + (if 4 ≤ t then s / 2 % 2 else s % 2)) % 2
def iv (s : Nat) : Nat := if s = 5 then 6 else if s = 6 then 5 else s
theorem cm_lt (s t : Nat) : cm s t < 8 := by unfold cm; omega
theorem iv_lt {s : Nat} (h : s < 8) : iv s < 8 := by unfold iv; split; omega; split <;> omega
theorem cm_iv {s : Nat} (h : s < 8) : cm s (iv s) = 0 ∧ cm (iv s) s = 0 := by
  have : s = 0 ∨ s = 1 ∨ s = 2 ∨ s = 3 ∨ s = 4 ∨ s = 5 ∨ s = 6 ∨ s = 7 := by omega
  rcases this with rfl | rfl | rfl | rfl | rfl | rfl | rfl | rfl <;> decide
theorem eight {s : Nat} (h : s < 8) : s = 0 ∨ s = 1 ∨ s = 2 ∨ s = 3 ∨ s = 4 ∨ s = 5 ∨ s = 6 ∨ s = 7 := by omega
theorem cm_A {s t : Nat} (hs : s < 8) (ht : t < 8) (a b : Int) : mpA t (mpA s a b) (mpB s a b) = mpA (cm s t) a b ∧ mpB t (mpA s a b) (mpB s a b) = mpB (cm s t) a b := by
  rcases eight hs with rfl | rfl | rfl | rfl | rfl | rfl | rfl | rfl <;> rcases eight ht with rfl | rfl | rfl | rfl | rfl | rfl | rfl | rfl <;> exact ⟨rfl, rfl⟩
theorem sub2 (w x : Int) : 2 * w - (2 * w - x) = x := by omega
theorem cm_XY {s t : Nat} (hs : s < 8) (ht : t < 8) (a b x y : Int) : mpX t (mpA s a b) (mpB s a b) (mpX s a b x y) (mpY s a b x y) = mpX (cm s t) a b x y ∧ mpY t (mpA s a b) (mpB s a b) (mpX s a b x y) (mpY s a b x y) = mpY (cm s t) a b x y := by
  rcases eight hs with rfl | rfl | rfl | rfl | rfl | rfl | rfl | rfl <;> rcases eight ht with rfl | rfl | rfl | rfl | rfl | rfl | rfl | rfl <;>
    first
      | exact ⟨rfl, rfl⟩
      | exact ⟨sub2 _ _, rfl⟩
      | exact ⟨rfl, sub2 _ _⟩
      | exact ⟨sub2 _ _, sub2 _ _⟩
theorem cm_mk {s t : Nat} (hs : s < 8) (ht : t < 8) {k : Int} (h0 : 0 ≤ k) (h1 : k ≤ 2) : mk t (mk s k) = mk (cm s t) k := by
  have hk : k = 0 ∨ k = 1 ∨ k = 2 := by omega
  rcases hk with rfl | rfl | rfl <;> rcases eight hs with rfl | rfl | rfl | rfl | rfl | rfl | rfl | rfl <;> rcases eight ht with rfl | rfl | rfl | rfl | rfl | rfl | rfl | rfl <;> rfl
theorem mk_bd (s : Nat) {k : Int} (h0 : 0 ≤ k) (h1 : k ≤ 2) : 0 ≤ mk s k ∧ mk s k ≤ 2 := by unfold mk; split <;> omega
theorem mp_zero (a b x y : Int) : mpX 0 a b x y = x ∧ mpY 0 a b x y = y ∧ mpA 0 a b = a ∧ mpB 0 a b = b := ⟨rfl, rfl, rfl, rfl⟩
theorem mk_zero (k : Int) : mk 0 k = k := rfl

/-- two ways to count: the values of f that are new, and the places that no earlier place has marked -/
theorem count_two {α : Type} [DecidableEq α] (f : Nat → α) (mark : Nat → Nat → Prop) [∀ i j, Decidable (mark i j)] (hm : ∀ i j, mark i j ↔ f i = f j) (n : Nat) :
    ((List.range n).filter fun j => decide (f j ∉ (List.range j).map f)).length = ((List.range n).filter fun j => decide (¬ ∃ i, i < j ∧ mark i j)).length := by
  congr 1
  refine List.filter_congr (fun j _ => ?_)
  rw [decide_eq_decide]
  apply not_congr
  simp only [List.mem_map, List.mem_range, hm]
theorem mp_size {s : Nat} {a b : Int} (hs : SizeOk a b) : SizeOk (mpA s a b) (mpB s a b) := by
  unfold SizeOk mpA mpB at *
  split <;> omega
theorem inn_swap (a b : Int) : inn b a = inn a b := by unfold inn; rw [Int.add_comm]
theorem mp_inn (s : Nat) (a b : Int) : inn (mpA s a b) (mpB s a b) = inn a b := by
  unfold mpA mpB
  split
  · exact inn_swap a b
  · rfl
theorem mp_pt {s : Nat} (h : s < 8) {a b x y : Int} (hp : PtOk a b x y) (he : ¬ Edge a b x y) : PtOk (mpA s a b) (mpB s a b) (mpX s a b x y) (mpY s a b x y) ∧ ¬ Edge (mpA s a b) (mpB s a b) (mpX s a b x y) (mpY s a b x y) := by
  unfold PtOk Edge at *
  rcases eight h with rfl | rfl | rfl | rfl | rfl | rfl | rfl | rfl <;> simp [mpA, mpB, mpX, mpY] <;> omega
/-- where a point goes, by number -/
def tgt (s : Nat) (a b : Int) (k : Nat) : Nat := (num (mpA s a b) (mpX s a b (ptX a k) (ptY a k)) (mpY s a b (ptX a k) (ptY a k))).toNat
theorem tgt_spec {s : Nat} (h : s < 8) {a b : Int} (hs : SizeOk a b) {k : Nat} (hk : k < inn a b) : tgt s a b k < inn a b ∧ ptX (mpA s a b) (tgt s a b k : Nat) = mpX s a b (ptX a k) (ptY a k) ∧ ptY (mpA s a b) (tgt s a b k : Nat) = mpY s a b (ptX a k) (ptY a k) := by
  obtain ⟨p1, p2, p3⟩ := pt_spec (k := (k : Int)) hs (by omega) (by omega)
  obtain ⟨q1, q2⟩ := mp_pt h p1 p2
  have hs2 := mp_size (s := s) hs
  have h1 := num_bd hs2 q1 q2
  have h2 := pt_num hs2 q1 q2
  rw [mp_inn] at h1
  have e : ((tgt s a b k : Nat) : Int) = num (mpA s a b) (mpX s a b (ptX a k) (ptY a k)) (mpY s a b (ptX a k) (ptY a k)) := by unfold tgt; omega
  rw [e]
  exact ⟨by omega, h2⟩
theorem tgt_comp {s t : Nat} (h : s < 8) (ht : t < 8) {a b : Int} (hs : SizeOk a b) {k : Nat} (hk : k < inn a b) : tgt t (mpA s a b) (mpB s a b) (tgt s a b k) = tgt (cm s t) a b k := by
  obtain ⟨h1, h2, h3⟩ := tgt_spec h hs hk
  obtain ⟨c1, c2⟩ := cm_A h ht a b
  obtain ⟨c3, c4⟩ := cm_XY h ht a b (ptX a k) (ptY a k)
  generalize tgt s a b k = j at *
  show (num (mpA t (mpA s a b) (mpB s a b)) (mpX t (mpA s a b) (mpB s a b) (ptX (mpA s a b) (j : Nat)) (ptY (mpA s a b) (j : Nat))) (mpY t (mpA s a b) (mpB s a b) (ptX (mpA s a b) (j : Nat)) (ptY (mpA s a b) (j : Nat)))).toNat = _
  rw [h2, h3, c1, c3, c4]
  rfl
theorem tgt_zero {a b : Int} (hs : SizeOk a b) {k : Nat} (hk : k < inn a b) : tgt 0 a b k = k := by
  obtain ⟨p1, p2, p3⟩ := pt_spec (k := (k : Int)) hs (by omega) (by omega)
  show (num a (ptX a k) (ptY a k)).toNat = k
  rw [p3, Int.toNat_natCast]
theorem tgt_inj {s : Nat} (h : s < 8) {a b : Int} (hs : SizeOk a b) {k j : Nat} (hk : k < inn a b) (hj : j < inn a b) (e : tgt s a b k = tgt s a b j) : k = j := by
  have h1 := tgt_comp h (iv_lt h) hs hk
  have h2 := tgt_comp h (iv_lt h) hs hj
  rw [(cm_iv h).1, tgt_zero hs hk] at h1
  rw [(cm_iv h).1, tgt_zero hs hj] at h2
  rw [← h1, ← h2, e]
theorem mp_back {s : Nat} (h : s < 8) (a b : Int) : mpA (iv s) (mpA s a b) (mpB s a b) = a ∧ mpB (iv s) (mpA s a b) (mpB s a b) = b := by
  obtain ⟨c1, c2⟩ := cm_A h (iv_lt h) a b
  rw [(cm_iv h).1] at c1 c2
  exact ⟨c1, c2⟩
theorem tgt_surj {s : Nat} (h : s < 8) {a b : Int} (hs : SizeOk a b) {i : Nat} (hi : i < inn a b) : ∃ k, k < inn a b ∧ tgt s a b k = i := by
  have hs2 := mp_size (s := s) hs
  have hi2 : i < inn (mpA s a b) (mpB s a b) := by rw [mp_inn]; exact hi
  have h1 := tgt_comp (iv_lt h) h hs2 hi2
  rw [(mp_back h a b).1, (mp_back h a b).2, (cm_iv h).2, tgt_zero hs2 hi2] at h1
  have h2 := (tgt_spec (iv_lt h) hs2 hi2).1
  rw [mp_inn] at h2
  exact ⟨_, h2, h1⟩
/-- a panel under a symmetry, as far as the loops are -/
def mapTo (s : Nat) (a b : Int) (l : List Int) : Nat → List Int
  | 0 => List.replicate (inn a b) 0
  | k + 1 => (mapTo s a b l k).set (tgt s a b k) (mk s (l.getD k 0))
theorem length_mapTo (s : Nat) (a b : Int) (l : List Int) : ∀ n, (mapTo s a b l n).length = inn a b
  | 0 => List.length_replicate ..
  | n + 1 => by unfold mapTo; rw [List.length_set]; exact length_mapTo s a b l n
theorem mapTo_get {s : Nat} (h : s < 8) {a b : Int} (hs : SizeOk a b) (l : List Int) {k : Nat} : ∀ {n : Nat}, n ≤ inn a b → k < n → (mapTo s a b l n).getD (tgt s a b k) 0 = mk s (l.getD k 0)
  | 0, _, hk => absurd hk (Nat.not_lt_zero _)
  | n + 1, hn, hk => by
    have h1 := (tgt_spec h hs (show k < inn a b by omega)).1
    show ((mapTo s a b l n).set (tgt s a b n) (mk s (l.getD n 0))).getD (tgt s a b k) 0 = _
    by_cases e : k = n
    · subst e
      rw [getD_set_eq (by rw [length_mapTo]; exact h1)]
    · rw [getD_set_ne (fun e2 => e (tgt_inj h hs (by omega) (by omega) e2.symm))]
      exact mapTo_get h hs l (by omega) (by omega)
def mapL (s : Nat) (a b : Int) (l : List Int) : List Int := mapTo s a b l (inn a b)
theorem length_mapL (s : Nat) (a b : Int) (l : List Int) : (mapL s a b l).length = inn a b := length_mapTo s a b l _
theorem mapL_get {s : Nat} (h : s < 8) {a b : Int} (hs : SizeOk a b) (l : List Int) {k : Nat} (hk : k < inn a b) : (mapL s a b l).getD (tgt s a b k) 0 = mk s (l.getD k 0) := mapTo_get h hs l (Nat.le_refl _) hk
theorem okP_get {a b : Int} {l : List Int} (hk : okP a b l = true) {k : Nat} (h : k < inn a b) : 0 ≤ l.getD k 0 ∧ l.getD k 0 ≤ 2 := by
  obtain ⟨hs, hl, hx⟩ := okP_spec hk
  exact hx _ (mem_getD 0 (by omega))
theorem mapL_ok {s : Nat} (h : s < 8) {a b : Int} {l : List Int} (hk : okP a b l = true) : okP (mpA s a b) (mpB s a b) (mapL s a b l) = true := by
  have hs := okP_size hk
  refine okP_true (k := inn a b) (mp_size hs) (by rw [length_mapL, mp_inn]) (by rw [length_mapL]; exact Nat.lt_irrefl _) (fun i hi => ?_)
  obtain ⟨k, h1, rfl⟩ := tgt_surj h hs hi
  rw [mapL_get h hs l h1]
  have := okP_get hk h1
  exact mk_bd s this.1 this.2
theorem mapL_comp {s t : Nat} (h : s < 8) (ht : t < 8) {a b : Int} {l : List Int} (hk : okP a b l = true) : mapL t (mpA s a b) (mpB s a b) (mapL s a b l) = mapL (cm s t) a b l := by
  have hs := okP_size hk
  have hs2 := mp_size (s := s) hs
  refine ext_getD 0 (by rw [length_mapL, length_mapL, mp_inn]) (fun i hi => ?_)
  rw [length_mapL, mp_inn] at hi
  obtain ⟨k, h1, rfl⟩ := tgt_surj (cm_lt s t) hs hi
  have h2 := (tgt_spec h hs h1).1
  rw [mapL_get (cm_lt s t) hs l h1, ← tgt_comp h ht hs h1, mapL_get ht hs2 _ (by rw [mp_inn]; exact h2), mapL_get h hs l h1]
  have := okP_get hk h1
  exact cm_mk h ht this.1 this.2
theorem mapL_zero {a b : Int} {l : List Int} (hk : okP a b l = true) : mapL 0 a b l = l := by
  have hs := okP_size hk
  have hl := okP_inn hk
  refine ext_getD 0 (by rw [length_mapL, hl]) (fun i hi => ?_)
  rw [length_mapL] at hi
  have h1 := mapL_get (show 0 < 8 by decide) hs l hi
  rw [tgt_zero hs hi] at h1
  rw [h1]
  rfl

end Go.Proofs.Ytmfinopdokkjcaa
