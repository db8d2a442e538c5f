/- Contracts of functions, printed by program from annotations. -/
import Derived.Test.YtmfinopdokkjcaaOneM
namespace Go.Proofs.Ytmfinopdokkjcaa
open Go Go.AW Go.RowKit
set_option linter.unusedVariables false
set_option linter.unusedSimpArgs false

/-- at how many of the first places two lists differ -/
def difN (l m : List Int) : Nat → Nat
  | 0 => 0
  | k + 1 => if l.getD k 0 = m.getD k 0 then difN l m k else difN l m k + 1
theorem difN_same {l m : List Int} {k : Nat} (h : l.getD k 0 = m.getD k 0) : difN l m (k + 1) = difN l m k := if_pos h
theorem difN_diff {l m : List Int} {k : Nat} (h : ¬ l.getD k 0 = m.getD k 0) : difN l m (k + 1) = difN l m k + 1 := if_neg h
theorem difN_le (l m : List Int) : ∀ k, difN l m k ≤ k
  | 0 => Nat.le_refl _
  | k + 1 => by
    have := difN_le l m k
    by_cases h : l.getD k 0 = m.getD k 0
    · rw [difN_same h]; omega
    · rw [difN_diff h]; omega
theorem difN_self (l : List Int) : ∀ k, difN l l k = 0
  | 0 => rfl
  | k + 1 => by rw [difN_same rfl, difN_self l k]
theorem difN_out {l m : List Int} {j : Nat} {y : Int} : ∀ {k : Nat}, k ≤ j → difN l (m.set j y) k = difN l m k
  | 0, _ => rfl
  | k + 1, h => by
    have e : (m.set j y).getD k 0 = m.getD k 0 := by simp [List.getD, List.getElem?_set_ne (show j ≠ k by omega)]
    have ih := difN_out (l := l) (m := m) (j := j) (y := y) (k := k) (by omega)
    show (if _ then _ else _) = (if _ then _ else _)
    rw [e, ih]
theorem difN_set (l m : List Int) (j : Nat) (y : Int) : ∀ k, difN l (m.set j y) k ≤ difN l m k + 1
  | 0 => Nat.zero_le _
  | k + 1 => by
    have ih := difN_set l m j y k
    by_cases hk : k = j
    · subst hk
      have h2 := difN_out (l := l) (m := m) (j := k) (y := y) (k := k) (Nat.le_refl _)
      have h3 : difN l (m.set k y) (k + 1) ≤ difN l (m.set k y) k + 1 := by
        by_cases h : l.getD k 0 = (m.set k y).getD k 0
        · rw [difN_same h]; omega
        · rw [difN_diff h]; omega
      have h4 : difN l m k ≤ difN l m (k + 1) := by
        by_cases h : l.getD k 0 = m.getD k 0
        · rw [difN_same h]; omega
        · rw [difN_diff h]; omega
      omega
    · have e : (m.set j y).getD k 0 = m.getD k 0 := by simp [List.getD, List.getElem?_set_ne (show j ≠ k by omega)]
      by_cases h : l.getD k 0 = m.getD k 0
      · rw [difN_same h, difN_same (by rw [e]; exact h)]; exact ih
      · rw [difN_diff h, difN_diff (by rw [e]; exact h)]; omega
theorem nx_step {a b c : Int} {m : List Int} (hok : okP a b m = true) (hc : ¬ (cnt a b m : Int) = c) (hn : ¬ fcA a b m c < 0) : dst (cnt a b (nxL a b m c)) c + 1 = dst (cnt a b m) c := by
  obtain ⟨g1, g2, g3, g4, g5⟩ := fc_yes hn
  have h := cnt_set (k := (fcA a b m c).toNat) hok (by omega) g3 g4
  unfold nxL
  unfold dst at *
  omega
theorem goS_spec {a b c : Int} {l : List Int} : ∀ (f n : Nat) (m : List Int), okP a b m = true → m.length = l.length → (n : Int) + dst (cnt a b m) c = dst (cnt a b l) c → difN l m l.length ≤ n → ∀ m' n', goS a b c f n m = (some m', n') → okP a b m' = true ∧ m'.length = l.length ∧ (cnt a b m' : Int) = c ∧ (n' : Int) = dst (cnt a b l) c ∧ difN l m' l.length ≤ n'
  | 0, n, m, _, _, _, _, m', n', h => by
    unfold goS at h
    cases h
  | f + 1, n, m, h1, h2, h3, h4, m', n', h => by
    unfold goS at h
    by_cases hc : (cnt a b m : Int) = c
    · rw [if_pos hc] at h
      injection h with e1 e2
      injection e1 with e1
      subst e1 e2
      have := dst_zero.2 hc
      exact ⟨h1, h2, hc, by omega, h4⟩
    · rw [if_neg hc] at h
      by_cases hn : fcA a b m c < 0
      · rw [if_pos hn] at h
        cases h
      · rw [if_neg hn] at h
        obtain ⟨g1, g2, g3, g4, g5⟩ := fc_yes hn
        have h5 := nx_step h1 hc hn
        refine goS_spec f (n + 1) (nxL a b m c) (okP_set h1 _ g3 g4) (by unfold nxL; rw [List.length_set]; exact h2) (by omega) ?_ m' n' h
        have := difN_set l m (fcA a b m c).toNat (fcK a b m c) l.length
        unfold nxL
        omega
theorem st_spec {a b c : Int} {l : List Int} (h : stE a b l c = 0) : okP a b l = true ∧ okP a b (stL a b l c) = true ∧ (stL a b l c).length = l.length ∧ (cnt a b (stL a b l c) : Int) = c ∧ ((stR a b l c).2 : Int) = dst (cnt a b l) c ∧ difN l (stL a b l c) l.length ≤ (stR a b l c).2 := by
  have hg : gcE a b l c = 0 := by
    unfold stE at h
    split at h
    · assumption
    · exact h
  obtain ⟨h1, h2⟩ := gc_zero hg
  cases hr : (stR a b l c).1 with
  | none => rw [(st_lost hg hr).1] at h; omega
  | some m =>
    have e : stR a b l c = (some m, (stR a b l c).2) := by rw [← hr]
    rw [(st_hit hg e).2.2]
    exact ⟨h1, goS_spec _ 0 l h1 rfl (by omega) (by rw [difN_self]; omega) m _ e⟩
/-- the first change leads to the side of the goal -/
theorem fc_side {a b c : Int} {l : List Int} (hok : okP a b l = true) (hn : ¬ fcA a b l c < 0) : ¬ (cnt a b (nxL a b l c) : Int) = cnt a b l ∧ ((cnt a b l : Int) < cnt a b (nxL a b l c) ↔ (cnt a b l : Int) < c) := by
  obtain ⟨g1, g2, g3, g4, g5⟩ := fc_yes hn
  unfold nxL
  unfold dst at g5
  omega

end Go.Proofs.Ytmfinopdokkjcaa
