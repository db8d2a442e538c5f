/- Contracts of functions, printed by program from annotations. -/
import Derived.Test.YtmfinopdokkjcaaRead
import Derived.Test.YtmfinopdokkjcaaEds
namespace Go.Proofs.Ytmfinopdokkjcaa
open Go Go.AW Go.RowKit
set_option linter.unusedVariables false
set_option linter.unusedSimpArgs false

theorem bAt_extract {s : ByteArray} {i j k : Nat} (h : k < min j s.size - i) : bAt (s.extract i j) k = bAt s (i + k) := by
  unfold bAt
  rw [ByteArray.data_extract]
  congr 2
  have h1 : i + k < s.data.size := by have : s.data.size = s.size := rfl; omega
  simp only [Array.toList_extract, List.getD, List.extract]
  rw [List.getElem?_take, if_pos (by omega), List.getElem?_drop]
theorem rdOk_bytes {y : ByteArray} (h : rdOk y) {k : Nat} (hk : k < y.size) : bAt y k = 45 ∨ digB y k := by
  obtain ⟨_, h2, _⟩ := h
  by_cases hd : 0 < (y.size : Int) ∧ bAt y 0 = 45
  · rw [digT_yes hd] at h2
    cases k with
    | zero => exact .inl hd.2
    | succ k =>
      right
      have h3 := h2 k (by rw [ByteArray.size_extract]; omega)
      unfold digB at *
      rw [bAt_extract (by omega), Nat.add_comm] at h3
      exact h3
  · rw [digT_no hd] at h2
    exact .inr (h2 k hk)
/-- one edit of a text -/
def parE (p : ByteArray) : Option (Int × Int) := if (splitB p 61).length = 2 ∧ rdB ((splitB p 61).getD 0 ByteArray.empty) = true ∧ rdB ((splitB p 61).getD 1 ByteArray.empty) = true then some (rdN ((splitB p 61).getD 0 ByteArray.empty), rdN ((splitB p 61).getD 1 ByteArray.empty)) else none
theorem parE_yes {p : ByteArray} (h1 : (splitB p 61).length = 2) (h2 : rdB ((splitB p 61).getD 0 ByteArray.empty) = true) (h3 : rdB ((splitB p 61).getD 1 ByteArray.empty) = true) : parE p = some (rdN ((splitB p 61).getD 0 ByteArray.empty), rdN ((splitB p 61).getD 1 ByteArray.empty)) := by unfold parE; rw [if_pos ⟨h1, h2, h3⟩]
theorem parE_no {p : ByteArray} (h : ¬ ((splitB p 61).length = 2 ∧ rdB ((splitB p 61).getD 0 ByteArray.empty) = true ∧ rdB ((splitB p 61).getD 1 ByteArray.empty) = true)) : parE p = none := by unfold parE; rw [if_neg h]
theorem spl_skip {s : ByteArray} {c : Int} {i : Nat} : ∀ {j : Nat}, i ≤ j → (∀ k, i ≤ k → k < j → ¬ bAt s k = c) → spl s c j = spl s c i
  | 0, h, _ => by rw [show i = 0 by omega]
  | j + 1, h, hn => by
    rcases Nat.eq_or_lt_of_le h with rfl | h1
    · rfl
    · rw [spl_no (hn j (by omega) (by omega)), spl_skip (by omega) (fun k h2 h3 => hn k h2 (by omega))]
theorem spl_mono (s : ByteArray) (c : Int) {i : Nat} : ∀ {j : Nat}, i ≤ j → (spl s c i).2.length ≤ (spl s c j).2.length
  | 0, h => by rw [show i = 0 by omega]; exact Nat.le_refl _
  | j + 1, h => by
    rcases Nat.eq_or_lt_of_le h with rfl | h1
    · exact Nat.le_refl _
    · have ih := spl_mono s c (i := i) (j := j) (by omega)
      by_cases hc : bAt s j = c
      · rw [spl_yes hc, List.length_append]; omega
      · rw [spl_no hc]; exact ih
theorem split_none {s : ByteArray} {c : Int} (h : plcB s c < 0) : (splitB s c).length = 1 := by
  have hn : ∀ k, k < s.size → ¬ bAt s k = c := by
    intro k hk hc
    unfold plcB at h
    cases hf : firstF (fun i => decide (bAt s i = c)) s.size 0 with
    | none =>
      have : ∀ {n i : Nat}, firstF (fun i => decide (bAt s i = c)) n i = none → ∀ j, i ≤ j → j < i + n → ¬ bAt s j = c := by
        intro n
        induction n with
        | zero => intro i _ j h1 h2; omega
        | succ n ih =>
          intro i hh j h1 h2
          have hh' : (if decide (bAt s i = c) then some i else firstF (fun i => decide (bAt s i = c)) n (i + 1)) = none := hh
          by_cases hp : bAt s i = c
          · rw [if_pos (decide_eq_true hp)] at hh'; cases hh'
          · rw [if_neg (by rw [decide_eq_false hp]; decide)] at hh'
            rcases Nat.eq_or_lt_of_le h1 with rfl | h3
            · exact hp
            · exact ih hh' j h3 (by omega)
      exact this hf k (Nat.zero_le _) (by omega) hc
    | some m => rw [hf] at h; change (m : Int) < 0 at h; omega
  unfold splitB
  rw [spl_skip (Nat.zero_le _) (fun k _ hk => hn k hk)]
  rfl
theorem parE_minus {p : ByteArray} (h : plcB p 61 < 0) : parE p = none := parE_no (fun hh => by rw [split_none h] at hh; omega)
theorem split_at {s : ByteArray} {c : Int} (h : 0 ≤ plcB s c) : (∀ k, (plcB s c).toNat < k → k < s.size → ¬ bAt s k = c) → splitB s c = [s.extract 0 (plcB s c).toNat, s.extract ((plcB s c).toNat + 1) s.size] := by
  intro hn
  obtain ⟨h1, h2, h3⟩ := plcB_bd s c
  obtain ⟨h4, h5⟩ := h3 h
  unfold splitB
  rw [spl_skip (i := (plcB s c).toNat + 1) (by omega) (fun k h6 h7 => hn k (by omega) h7), spl_yes h4, spl_skip (Nat.zero_le _) (fun k _ hk => h5 k hk)]
  rfl
theorem split_more {s : ByteArray} {c : Int} (h : 0 ≤ plcB s c) {k : Nat} (h1 : (plcB s c).toNat < k) (h2 : k < s.size) (h3 : bAt s k = c) : 3 ≤ (splitB s c).length := by
  obtain ⟨q1, q2, q3⟩ := plcB_bd s c
  obtain ⟨q4, q5⟩ := q3 h
  have e1 : (spl s c ((plcB s c).toNat + 1)).2.length = 1 := by rw [spl_yes q4, spl_skip (Nat.zero_le _) (fun k _ hk => q5 k hk)]; rfl
  have e2 := spl_mono s c (i := (plcB s c).toNat + 1) (j := k) (by omega)
  have e3 : (spl s c (k + 1)).2.length = (spl s c k).2.length + 1 := by rw [spl_yes h3, List.length_append]; rfl
  have e4 := spl_mono s c (i := k + 1) (j := s.size) (by omega)
  unfold splitB
  rw [List.length_append, List.length_singleton]
  omega
theorem parE_impl {p : ByteArray} (h : 0 ≤ plcB p 61) :
    (rdB (p.extract 0 (plcB p 61).toNat) = true → rdB (p.extract ((plcB p 61).toNat + 1) p.size) = true → parE p = some (rdN (p.extract 0 (plcB p 61).toNat), rdN (p.extract ((plcB p 61).toNat + 1) p.size))) ∧
    (¬ (rdB (p.extract 0 (plcB p 61).toNat) = true ∧ rdB (p.extract ((plcB p 61).toNat + 1) p.size) = true) → parE p = none) := by
  by_cases hm : ∃ k, (plcB p 61).toNat < k ∧ k < p.size ∧ bAt p k = 61
  · obtain ⟨k, h1, h2, h3⟩ := hm
    have h4 := split_more h h1 h2 h3
    refine ⟨fun _ hy => ?_, fun _ => parE_no (fun hh => by omega)⟩
    exfalso
    have h5 := rdOk_bytes (rd_true hy) (k := k - ((plcB p 61).toNat + 1)) (by rw [ByteArray.size_extract]; omega)
    unfold digB at h5
    rw [bAt_extract (by omega), show (plcB p 61).toNat + 1 + (k - ((plcB p 61).toNat + 1)) = k by omega, h3] at h5
    omega
  · have hs := split_at h (fun k h1 h2 h3 => hm ⟨k, h1, h2, h3⟩)
    have e0 : (splitB p 61).getD 0 ByteArray.empty = p.extract 0 (plcB p 61).toNat := by rw [hs]; rfl
    have e1 : (splitB p 61).getD 1 ByteArray.empty = p.extract ((plcB p 61).toNat + 1) p.size := by rw [hs]; rfl
    have e2 : (splitB p 61).length = 2 := by rw [hs]; rfl
    constructor
    · intro hx hy
      rw [parE_yes e2 (by rw [e0]; exact hx) (by rw [e1]; exact hy), e0, e1]
    · intro hn
      exact parE_no (fun hh => hn (by rw [← e0, ← e1]; exact hh.2))
def parTo (ps : List ByteArray) : Nat → Option (List (Int × Int))
  | 0 => some []
  | k + 1 => (parTo ps k).bind fun es => (parE (ps.getD k ByteArray.empty)).map fun e => es ++ [e]
theorem parTo_succ {ps : List ByteArray} {k : Nat} {es : List (Int × Int)} {e : Int × Int} (h : parTo ps k = some es) (h2 : parE (ps.getD k ByteArray.empty) = some e) : parTo ps (k + 1) = some (es ++ [e]) := by
  show (parTo ps k).bind _ = _
  rw [h, Option.bind_some, h2]
  rfl
theorem parTo_stop {ps : List ByteArray} {k : Nat} (h2 : parE (ps.getD k ByteArray.empty) = none) : parTo ps (k + 1) = none := by
  show (parTo ps k).bind _ = _
  cases parTo ps k with
  | none => rfl
  | some es => rw [Option.bind_some, h2]; rfl
theorem parTo_mono {ps : List ByteArray} {k : Nat} (h : parTo ps k = none) : ∀ {n : Nat}, k ≤ n → parTo ps n = none
  | 0, hn => by rw [show k = 0 by omega] at h; cases h
  | n + 1, hn => by
    rcases Nat.eq_or_lt_of_le hn with rfl | h1
    · exact h
    · show (parTo ps n).bind _ = _
      rw [parTo_mono h (by omega)]
      rfl
theorem parTo_len {ps : List ByteArray} : ∀ {k : Nat} {es : List (Int × Int)}, parTo ps k = some es → es.length = k
  | 0, es, h => by cases h; rfl
  | k + 1, es, h => by
    have h' : (parTo ps k).bind (fun es => (parE (ps.getD k ByteArray.empty)).map fun e => es ++ [e]) = some es := h
    cases h1 : parTo ps k with
    | none => rw [h1] at h'; cases h'
    | some es' =>
      rw [h1, Option.bind_some] at h'
      cases h2 : parE (ps.getD k ByteArray.empty) with
      | none => rw [h2] at h'; cases h'
      | some e =>
        rw [h2] at h'
        cases h'
        rw [List.length_append, parTo_len h1]
        rfl
/-- the edits of a text -/
def reC (s : ByteArray) : Option (List (Int × Int)) := if (s.size : Int) = 0 then some [] else parTo (splitB s 32) (splitB s 32).length
theorem reC_nil {s : ByteArray} (h : (s.size : Int) = 0) : reC s = some [] := by unfold reC; rw [if_pos h]
theorem reC_par {s : ByteArray} (h : ¬ (s.size : Int) = 0) : reC s = parTo (splitB s 32) (splitB s 32).length := by unfold reC; rw [if_neg h]
theorem reC_none {s : ByteArray} (h : ¬ (s.size : Int) = 0) {k : Nat} (hk : k < (splitB s 32).length) (hp : parE ((splitB s 32).getD k ByteArray.empty) = none) : reC s = none := by
  rw [reC_par h]
  exact parTo_mono (parTo_stop hp) (by omega)
/-- .. which are valid for breaks -/
def okR (l : List Int) (s : ByteArray) : Bool := match reC s with
  | some es => edsB l es
  | none => false
theorem okR_none {l : List Int} {s : ByteArray} (h : reC s = none) : okR l s = false := by unfold okR; rw [h]
theorem okR_some {l : List Int} {s : ByteArray} {es : List (Int × Int)} (h : reC s = some es) : okR l s = edsB l es := by unfold okR; rw [h]
theorem edsB_ge {l : List Int} {es : List (Int × Int)} (h : edsB l es = true) : ∀ k, k < es.length → (k : Int) ≤ (es.getD k (0, 0)).1
  | 0, hk => (edsB_spec h 0 hk).1.1
  | k + 1, hk => by
    have h1 := edsB_ge h k (by omega)
    have h2 := (edsB_spec h (k + 1) hk).2.1 (by omega)
    rw [show (((k + 1 : Nat) : Int) - 1).toNat = k by omega] at h2
    omega
theorem edsB_len {l : List Int} {es : List (Int × Int)} (h : edsB l es = true) : es.length ≤ l.length := by
  rcases Nat.eq_zero_or_pos es.length with h0 | h0
  · omega
  · have h1 := edsB_ge h (es.length - 1) (by omega)
    have h2 := (edsB_spec h (es.length - 1) (by omega)).1
    omega
theorem okR_long {l : List Int} {s : ByteArray} (h : ¬ (s.size : Int) = 0) (hk : l.length < (splitB s 32).length) : okR l s = false := by
  cases hr : reC s with
  | none => exact okR_none hr
  | some es =>
    rw [okR_some hr]
    cases he : edsB l es with
    | false => rfl
    | true =>
      have h1 := edsB_len he
      rw [reC_par h] at hr
      have := parTo_len hr
      omega
theorem parTo_zero (ps : List ByteArray) : parTo ps 0 = some [] := rfl
attribute [irreducible] reC okR parE parTo
def reE (a b : Int) (l : List Int) (s : ByteArray) : Int := if okP a b l = true then (if okR l s = true then 0 else 7) else 1
def reL (a b : Int) (l : List Int) (s : ByteArray) : List (Int × Int) := lif (reE a b l s) ((reC s).getD [])
theorem re_bad {a b : Int} {l : List Int} {s : ByteArray} (h : okP a b l = false) : reE a b l s = 1 ∧ reL a b l s = [] := by
  have h1 : reE a b l s = 1 := by unfold reE; rw [if_neg (by rw [h]; decide)]
  refine ⟨h1, ?_⟩
  unfold reL
  rw [h1]
  rfl
theorem re_no {a b : Int} {l : List Int} {s : ByteArray} (h : okP a b l = true) (hn : okR l s = false) : reE a b l s = 7 ∧ reL a b l s = [] := by
  have h1 : reE a b l s = 7 := by unfold reE; rw [if_pos h, if_neg (by rw [hn]; decide)]
  refine ⟨h1, ?_⟩
  unfold reL
  rw [h1]
  rfl
theorem re_ok {a b : Int} {l : List Int} {s : ByteArray} (h : okP a b l = true) (hn : okR l s = true) : reE a b l s = 0 ∧ reL a b l s = (reC s).getD [] := by
  have h1 : reE a b l s = 0 := by unfold reE; rw [if_pos h, if_pos hn]
  refine ⟨h1, ?_⟩
  unfold reL
  rw [h1]
  rfl
theorem reL_size (a b : Int) (l : List Int) (s : ByteArray) : (reL a b l s).length ≤ 112 := by
  cases h : okP a b l with
  | false => rw [(re_bad h).2]; exact Nat.zero_le _
  | true =>
    cases h2 : okR l s with
    | false => rw [(re_no h h2).2]; exact Nat.zero_le _
    | true =>
      rw [(re_ok h h2).2]
      cases hr : reC s with
      | none => exact Nat.zero_le _
      | some es =>
        rw [okR_some hr] at h2
        exact Nat.le_trans (edsB_len h2) (okP_len h)

end Go.Proofs.Ytmfinopdokkjcaa
