/- Contracts of functions, printed by program from annotations. -/
import Derived.Test.YtmfinopdokkjcaaMpR
import Derived.Test.YtmfinopdokkjcaaTbdM
namespace Go.Proofs.Ytmfinopdokkjcaa
open Go Go.AW Go.RowKit
set_option linter.unusedVariables false
set_option linter.unusedSimpArgs false

theorem cpI_cases (x y : Int) : (x < y ∧ cpI x y = -1) ∨ (x = y ∧ cpI x y = 0) ∨ (y < x ∧ cpI x y = 1) := by
  unfold cpI
  split
  · exact .inl ⟨by assumption, rfl⟩
  · split
    · exact .inr (.inr ⟨by assumption, rfl⟩)
    · exact .inr (.inl ⟨by omega, rfl⟩)
theorem cpL_cons (x y : Int) (l m : List Int) : cpL (x :: l) (y :: m) = if cpI x y = 0 then cpL l m else cpI x y := rfl
theorem cpL_trans : ∀ {l m k : List Int}, cpL l m < 0 → cpL m k < 0 → cpL l k < 0
  | [], [], _, h, _ => absurd h (by decide)
  | [], _ :: _, [], _, h => absurd h (show ¬ (1 : Int) < 0 by decide)
  | [], _ :: _, _ :: _, _, _ => show (-1 : Int) < 0 by decide
  | _ :: _, [], _, h, _ => absurd h (show ¬ (1 : Int) < 0 by decide)
  | _ :: _, _ :: _, [], _, h => absurd h (show ¬ (1 : Int) < 0 by decide)
  | x :: l, y :: m, z :: k, h1, h2 => by
    rw [cpL_cons] at *
    rcases cpI_cases x y with ⟨a1, a2⟩ | ⟨a1, a2⟩ | ⟨a1, a2⟩ <;> rcases cpI_cases y z with ⟨b1, b2⟩ | ⟨b1, b2⟩ | ⟨b1, b2⟩ <;> rcases cpI_cases x z with ⟨c1, c2⟩ | ⟨c1, c2⟩ | ⟨c1, c2⟩ <;> rw [a2] at h1 <;> rw [b2] at h2 <;> rw [c2] <;> simp at h1 h2 ⊢ <;> first | omega | exact cpL_trans h1 h2
theorem cpL_tri : ∀ {l m : List Int}, ¬ cpL l m < 0 → ¬ cpL m l < 0 → l = m
  | [], [], _, _ => rfl
  | [], _ :: _, h, _ => absurd (show (-1 : Int) < 0 by decide) h
  | _ :: _, [], _, h => absurd (show (-1 : Int) < 0 by decide) h
  | x :: l, y :: m, h1, h2 => by
    rw [cpL_cons] at *
    rcases cpI_cases x y with ⟨a1, a2⟩ | ⟨a1, a2⟩ | ⟨a1, a2⟩ <;> rcases cpI_cases y x with ⟨b1, b2⟩ | ⟨b1, b2⟩ | ⟨b1, b2⟩ <;> rw [a2] at h1 <;> rw [b2] at h2 <;> simp at h1 h2 <;> first | omega | (rw [a1, cpL_tri (l := l) (m := m) (by omega) (by omega)])
theorem cpP_trans {p q r : Int × Int × List Int} (h1 : cpP p q < 0) (h2 : cpP q r < 0) : cpP p r < 0 := by
  obtain ⟨a, b, l⟩ := p
  obtain ⟨a', b', m⟩ := q
  obtain ⟨a'', b'', k⟩ := r
  have h := cpL_trans (l := a :: b :: l) (m := a' :: b' :: m) (k := a'' :: b'' :: k) h1 h2
  exact h
theorem cpP_tri {p q : Int × Int × List Int} (h1 : ¬ cpP p q < 0) (h2 : ¬ cpP q p < 0) : p = q := by
  obtain ⟨a, b, l⟩ := p
  obtain ⟨a', b', m⟩ := q
  have h := cpL_tri (l := a :: b :: l) (m := a' :: b' :: m) h1 h2
  injection h with e1 e2
  injection e2 with e2 e3
  rw [e1, e2, e3]
theorem cpP_self (p : Int × Int × List Int) : ¬ cpP p p < 0 := by
  obtain ⟨a, b, l⟩ := p
  have h := cpL_self (a :: b :: l)
  have h2 : cpP (a, b, l) (a, b, l) = 0 := h
  omega
theorem caTo_min {a b : Int} {l : List Int} : ∀ {n s : Nat}, s ≤ n → ¬ cpP (img a b l s) (caTo a b l n) < 0
  | 0, s, h => by
    have : s = 0 := by omega
    subst this
    exact cpP_self _
  | n + 1, s, h => by
    by_cases hc : cpP (img a b l (n + 1)) (caTo a b l n) < 0
    · rw [caTo_yes hc]
      rcases Nat.lt_or_ge s (n + 1) with h1 | h1
      · exact fun h2 => caTo_min (show s ≤ n by omega) (cpP_trans h2 hc)
      · rw [show s = n + 1 by omega]
        exact cpP_self _
    · rw [caTo_no hc]
      rcases Nat.lt_or_ge s (n + 1) with h1 | h1
      · exact caTo_min (show s ≤ n by omega)
      · rw [show s = n + 1 by omega]
        exact hc
/-- one panel is another's image -/
def isIm (a b : Int) (i j : Nat) : Prop := ∃ s, s < 8 ∧ mpA s a b = a ∧ mpB s a b = b ∧ mapL s a b (pdig i (inn a b)) = pdig j (inn a b)
theorem isIm_symm {a b : Int} (hs : SizeOk a b) {i j : Nat} (h : isIm a b i j) : isIm a b j i := by
  obtain ⟨s, h8, hA, hB, hm⟩ := h
  have hc := mapL_comp h8 (iv_lt h8) (okP_pdig hs i)
  have hb := mp_back h8 a b
  rw [(cm_iv h8).1, mapL_zero (okP_pdig hs i), hm, hA, hB] at hc
  rw [hA, hB] at hb
  exact ⟨iv s, iv_lt h8, hb.1, hb.2, hc⟩
theorem img_im {a b : Int} (hs : SizeOk a b) {i j : Nat} (h : isIm a b i j) {t : Nat} (ht : t < 8) : ∃ u, u < 8 ∧ img a b (pdig j (inn a b)) t = img a b (pdig i (inn a b)) u := by
  obtain ⟨s, h8, hA, hB, hm⟩ := h
  have hc := mapL_comp h8 ht (okP_pdig hs i)
  have hd := cm_A h8 ht a b
  rw [hm, hA, hB] at hc
  rw [hA, hB] at hd
  refine ⟨cm s t, cm_lt s t, ?_⟩
  unfold img
  rw [hc, hd.1, hd.2]
theorem ca_im {a b : Int} (hs : SizeOk a b) {i j : Nat} (h : isIm a b i j) : ¬ cpP (caP a b j) (caP a b i) < 0 := by
  obtain ⟨t, h1, h2⟩ := caTo_img a b (pdig j (inn a b)) 7
  obtain ⟨u, h3, h4⟩ := img_im hs h (show t < 8 by omega)
  unfold caP
  rw [h2, h4]
  exact caTo_min (by omega)
theorem ca_iff {a b : Int} (hs : SizeOk a b) (i j : Nat) : caP a b i = caP a b j ↔ isIm a b i j := by
  constructor
  · intro h
    obtain ⟨s, h1, h2⟩ := caTo_img a b (pdig i (inn a b)) 7
    obtain ⟨t, h3, h4⟩ := caTo_img a b (pdig j (inn a b)) 7
    unfold caP at h
    rw [h2, h4] at h
    have hs8 : s < 8 := by omega
    have ht8 : t < 8 := by omega
    injection h with e1 e2
    injection e2 with e2 e3
    have c1 := mapL_comp hs8 (iv_lt ht8) (okP_pdig hs i)
    have c2 := mapL_comp ht8 (iv_lt ht8) (okP_pdig hs j)
    have d1 := cm_A hs8 (iv_lt ht8) a b
    have d2 := mp_back ht8 a b
    rw [(cm_iv ht8).1, mapL_zero (okP_pdig hs j)] at c2
    rw [e1, e2] at d1
    rw [e1, e2, e3, c2] at c1
    exact ⟨cm s (iv t), cm_lt _ _, by rw [← d1.1, d2.1], by rw [← d1.2, d2.2], c1.symm⟩
  · intro h
    exact (cpP_tri (ca_im hs h) (ca_im hs (isIm_symm hs h))).symm

end Go.Proofs.Ytmfinopdokkjcaa
