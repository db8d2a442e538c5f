/- Contracts of functions, printed by program from annotations. -/
import Derived.Test.YtmfinopdokkjcaaRdE
import Derived.Test.YtmfinopdokkjcaaRdCM
namespace Go.Proofs.Ytmfinopdokkjcaa
open Go Go.AW Go.RowKit
set_option linter.unusedVariables false
set_option linter.unusedSimpArgs false

theorem bAt_appL {a b : ByteArray} {i : Nat} (h : i < a.size) : bAt (a ++ b) i = bAt a i := by
  have h2 : i < a.data.toList.length := by simpa using h
  unfold bAt
  rw [ByteArray.data_append, Array.toList_append, List.getD, List.getElem?_append_left h2]
  rfl
theorem bAt_appR (a b : ByteArray) (i : Nat) : bAt (a ++ b) (a.size + i) = bAt b i := by
  have h2 : a.size = a.data.toList.length := Array.length_toList.symm
  unfold bAt
  rw [ByteArray.data_append, Array.toList_append, h2, List.getD, List.getElem?_append_right (Nat.le_add_right _ _), Nat.add_sub_cancel_left]
  rfl
theorem extract_appL {a b : ByteArray} {i j : Nat} (h : j ≤ a.size) : (a ++ b).extract i j = a.extract i j := by
  have h2 : a.size = a.data.toList.length := Array.length_toList.symm
  apply ByteArray.ext
  rw [ByteArray.data_extract, ByteArray.data_extract, ByteArray.data_append]
  apply Array.ext'
  rw [Array.toList_extract, Array.toList_extract, Array.toList_append, List.extract, List.extract]
  rcases Nat.le_total i j with h3 | h3
  · rw [List.drop_append_of_le_length (by omega), List.take_append_of_le_length (by rw [List.length_drop]; omega)]
  · rw [show j - i = 0 by omega, List.take_zero, List.take_zero]
theorem extract_appR (a b : ByteArray) : (a ++ b).extract a.size (a ++ b).size = b := by
  have h2 : a.size = a.data.toList.length := Array.length_toList.symm
  have h3 : b.size = b.data.toList.length := Array.length_toList.symm
  apply ByteArray.ext
  rw [ByteArray.data_extract, ByteArray.data_append]
  apply Array.ext'
  rw [Array.toList_extract, Array.toList_append, List.extract, ByteArray.size_append, h2, List.drop_left, Nat.add_sub_cancel_left, h3, List.take_length]
theorem spl_app {a b : ByteArray} {c : Int} : ∀ {i : Nat}, i ≤ a.size → spl (a ++ b) c i = spl a c i
  | 0, _ => rfl
  | i + 1, h => by
    have ih := spl_app (a := a) (b := b) (c := c) (i := i) (by omega)
    by_cases hc : bAt a i = c
    · rw [spl_yes hc, spl_yes (by rw [bAt_appL (by omega)]; exact hc), ih, extract_appL (by omega)]
    · rw [spl_no hc, spl_no (by rw [bAt_appL (by omega)]; exact hc), ih]
theorem bAt_strOf {l : List Int} {i : Nat} (h : i < l.length) (h0 : 0 ≤ l.getD i 0) (h1 : l.getD i 0 ≤ 255) : bAt (strOf l) i = l.getD i 0 := by
  unfold bAt strOf
  simp only [List.getD, List.getElem?_map, List.getElem?_eq_getElem h, Option.map_some, Option.getD_some] at *
  rw [UInt8.toNat_ofNat']
  omega
theorem split_one {x : ByteArray} {c : Int} (hx : ∀ i, i < x.size → ¬ bAt x i = c) : splitB x c = [x] := by
  unfold splitB
  rw [spl_skip (Nat.zero_le _) (fun k _ hk => hx k hk)]
  show [x.extract 0 x.size] = [x]
  rw [ByteArray.extract_zero_size]
theorem split_snoc {a x : ByteArray} {c : Int} (h0 : 0 ≤ c) (h1 : c ≤ 255) (hx : ∀ i, i < x.size → ¬ bAt x i = c) : splitB ((a ++ strOf [c]) ++ x) c = splitB a c ++ [x] := by
  have hz : (strOf [c]).size = 1 := size_strOf [c]
  have hz1 : (a ++ strOf [c]).size = a.size + 1 := by rw [ByteArray.size_append, hz]
  have hz2 : ((a ++ strOf [c]) ++ x).size = a.size + 1 + x.size := by rw [ByteArray.size_append, hz1]
  have e1 : spl ((a ++ strOf [c]) ++ x) c a.size = spl a c a.size := by rw [spl_app (by omega), spl_app (Nat.le_refl _)]
  have e2 : bAt ((a ++ strOf [c]) ++ x) a.size = c := by
    rw [bAt_appL (by omega)]
    have := bAt_appR a (strOf [c]) 0
    rw [Nat.add_zero] at this
    rw [this]
    exact bAt_strOf (l := [c]) (i := 0) Nat.zero_lt_one h0 h1
  have e3 : spl ((a ++ strOf [c]) ++ x) c (a.size + 1) = (a.size + 1, (spl a c a.size).2 ++ [a.extract (spl a c a.size).1 a.size]) := by
    rw [spl_yes e2, e1, extract_appL (by omega), extract_appL (Nat.le_refl _)]
  have e4 : spl ((a ++ strOf [c]) ++ x) c ((a ++ strOf [c]) ++ x).size = spl ((a ++ strOf [c]) ++ x) c (a.size + 1) := spl_skip (by omega) (fun k hk1 hk2 => by
    have := bAt_appR (a ++ strOf [c]) x (k - (a.size + 1))
    rw [hz1, show a.size + 1 + (k - (a.size + 1)) = k by omega] at this
    rw [this]
    exact hx _ (by omega))
  have e5 : ((a ++ strOf [c]) ++ x).extract (a.size + 1) ((a ++ strOf [c]) ++ x).size = x := by rw [← hz1]; exact extract_appR _ _
  unfold splitB
  rw [e4, e3]
  show (spl a c a.size).2 ++ [a.extract (spl a c a.size).1 a.size] ++ [((a ++ strOf [c]) ++ x).extract (a.size + 1) ((a ++ strOf [c]) ++ x).size] = _
  rw [e5]
theorem snoc_of {α : Type} : ∀ {l : List α}, l ≠ [] → ∃ m x, l = m ++ [x]
  | l, h => ⟨l.dropLast, l.getLast h, (List.dropLast_concat_getLast h).symm⟩
theorem split_join {c : Int} (h0 : 0 ≤ c) (h1 : c ≤ 255) : ∀ (n : Nat) (ps : List ByteArray), ps.length = n + 1 → (∀ p ∈ ps, ∀ i, i < p.size → ¬ bAt p i = c) → splitB (joinAll (strOf [c]) ps) c = ps
  | n, ps, hn, hp => by
    obtain ⟨m, x, rfl⟩ := snoc_of (l := ps) (by intro h; rw [h] at hn; simp at hn)
    rw [List.length_append, List.length_singleton] at hn
    have hx := hp x (List.mem_append_right _ (List.mem_singleton.2 rfl))
    rw [joinAll_snoc]
    cases n with
    | zero =>
      have hm : m = [] := List.eq_nil_of_length_eq_zero (by omega)
      subst hm
      show splitB (ByteArray.empty ++ x) c = [x]
      rw [ByteArray.empty_append, split_one hx]
    | succ n =>
      rw [if_neg (by omega), split_snoc h0 h1 hx, split_join h0 h1 n m (by omega) (fun p hpm => hp p (List.mem_append_left _ hpm))]
theorem digs_mem (n : Nat) : ∀ x ∈ digs n, 48 ≤ x ∧ x ≤ 57 := by
  induction n using Nat.strongRecOn with
  | ind n ih =>
    intro x hx
    rcases Nat.eq_zero_or_pos n with rfl | h
    · rw [digs_zero] at hx; cases hx
    · rw [digs_pos h] at hx
      rcases List.mem_append.1 hx with hx | hx
      · exact ih (n / 10) (by omega) x hx
      · rw [List.mem_singleton] at hx
        omega
theorem digs_at {n i : Nat} (h : i < (digs n).length) : 48 ≤ (digs n).getD i 0 ∧ (digs n).getD i 0 ≤ 57 := digs_mem n _ (by simp [List.getD, List.getElem?_eq_getElem h])
theorem numB_digs (t : ByteArray) (n : Nat) : (∀ i, i < (digs n).length → bAt t i = (digs n).getD i 0) → numB t (digs n).length = n := by
  induction n using Nat.strongRecOn with
  | ind n ih =>
    intro hb
    rcases Nat.eq_zero_or_pos n with rfl | h
    · rw [digs_zero]; rfl
    · have ih2 := ih (n / 10) (by omega) (fun i hi => by
        rw [hb i (by rw [digs_pos h, List.length_append]; omega), digs_pos h]
        simp [List.getD, List.getElem?_append_left hi])
      have hl := hb (digs (n / 10)).length (by rw [digs_pos h, List.length_append, List.length_singleton]; omega)
      have hl2 : (digs n).getD (digs (n / 10)).length 0 = ((48 + n % 10 : Nat) : Int) := by rw [digs_pos h]; simp [List.getD]
      have hln : (digs n).length = (digs (n / 10)).length + 1 := by rw [digs_pos h, List.length_append, List.length_singleton]
      rw [hln]
      show 10 * numB t (digs (n / 10)).length + (bAt t (digs (n / 10)).length - 48) = n
      rw [ih2, hl, hl2]
      omega
theorem digB_digs {t : ByteArray} {n : Nat} (h : ∀ i, i < (digs n).length → bAt t i = (digs n).getD i 0) {i : Nat} (hi : i < (digs n).length) : digB t i := by
  unfold digB
  rw [h i hi]
  exact digs_at hi
theorem cons_getD (x : Int) (l : List Int) (i : Nat) : (x :: l).getD (i + 1) 0 = l.getD i 0 := rfl
theorem dec_read {n : Int} (h0 : -1000000000000000000 < n) (h1 : n < 1000000000000000000) : rdB (decB n) = true ∧ rdN (decB n) = n := by
  have key : (1 ≤ (digT (decB n)).size ∧ (digT (decB n)).size ≤ 18) ∧ (∀ i, i < (digT (decB n)).size → digB (digT (decB n)) i) ∧ sgnN (decB n) = n := by
    rcases Int.lt_trichotomy n 0 with hn | hn | hn
    · have hd := digs_ne (n := n.natAbs) (by omega)
      have hd2 := digs_len 18 n.natAbs (by have : (10 : Nat) ^ 18 = 1000000000000000000 := by decide
                                           omega)
      have hz : (decB n).size = (digs n.natAbs).length + 1 := by rw [decB_neg hn, size_strOf]; rfl
      have hb0 : bAt (decB n) 0 = 45 := by rw [decB_neg hn]; exact bAt_strOf (l := 45 :: digs n.natAbs) (i := 0) (Nat.succ_pos _) (show (0 : Int) ≤ 45 by decide) (show (45 : Int) ≤ 255 by decide)
      have hT : digT (decB n) = (decB n).extract 1 (decB n).size := digT_yes ⟨by omega, hb0⟩
      have hTz : (digT (decB n)).size = (digs n.natAbs).length := by rw [hT, ByteArray.size_extract]; omega
      have hb : ∀ i, i < (digs n.natAbs).length → bAt (digT (decB n)) i = (digs n.natAbs).getD i 0 := fun i hi => by
        have hda := digs_at hi
        rw [hT, bAt_extract (by omega), Nat.add_comm 1 i, decB_neg hn, bAt_strOf (by rw [List.length_cons]; omega) (by rw [cons_getD]; omega) (by rw [cons_getD]; omega), cons_getD]
      refine ⟨by omega, fun i hi => digB_digs hb (by omega), ?_⟩
      unfold sgnN
      rw [if_pos (by omega), hTz, numB_digs _ _ hb]
      omega
    · subst hn
      have hb0 : bAt (decB 0) 0 = 48 := bAt_strOf (l := [48]) (i := 0) (by decide) (by decide) (by decide)
      have hT : digT (decB 0) = decB 0 := digT_no (fun h => by omega)
      have hz : (decB 0).size = 1 := rfl
      rw [hT]
      refine ⟨by omega, fun i hi => ?_, ?_⟩
      · have : i = 0 := by omega
        subst this
        unfold digB
        omega
      · unfold sgnN
        rw [hT, if_neg (by omega), hz]
        show 10 * 0 + (bAt (decB 0) 0 - 48) = 0
        omega
    · have hd := digs_ne (n := n.natAbs) (by omega)
      have hd2 := digs_len 18 n.natAbs (by have : (10 : Nat) ^ 18 = 1000000000000000000 := by decide
                                           omega)
      have hz : (decB n).size = (digs n.natAbs).length := by rw [decB_pos hn, size_strOf]
      have hb : ∀ i, i < (digs n.natAbs).length → bAt (decB n) i = (digs n.natAbs).getD i 0 := fun i hi => by
        have hda := digs_at hi
        rw [decB_pos hn, bAt_strOf hi (by omega) (by omega)]
      have hb0 := hb 0 hd
      have hd0 := digs_at hd
      have hT : digT (decB n) = decB n := digT_no (fun h => by omega)
      rw [hT, hz]
      refine ⟨by omega, fun i hi => digB_digs hb hi, ?_⟩
      unfold sgnN
      rw [hT, if_neg (by omega), hz, numB_digs _ _ hb]
      omega
  have hok : rdOk (decB n) := ⟨key.1, key.2.1, by rw [key.2.2]⟩
  exact ⟨(rd_ok hok).2, by rw [(rd_ok hok).1, key.2.2]⟩
theorem dec_bytes {n : Int} (h0 : -1000000000000000000 < n) (h1 : n < 1000000000000000000) {c : Int} (hc : c < 45 ∨ 57 < c) : ∀ i, i < (decB n).size → ¬ bAt (decB n) i = c := fun i hi hh => by
  have := rdOk_bytes (rd_true (dec_read h0 h1).1) hi
  unfold digB at this
  omega
/-- the edits of a list's text are the list -/
theorem parE_part {e : Int × Int} (h : 0 ≤ e.1 ∧ e.1 ≤ 1073741824 ∧ 0 ≤ e.2 ∧ e.2 ≤ 2) : parE (partE e) = some e := by
  have h1 := dec_read (n := e.1) (by omega) (by omega)
  have h2 := dec_read (n := e.2) (by omega) (by omega)
  have hs : splitB (partE e) 61 = [decB e.1, decB e.2] := by
    unfold partE
    rw [split_snoc (by decide) (by decide) (dec_bytes (by omega) (by omega) (by omega)), split_one (dec_bytes (by omega) (by omega) (by omega))]
    rfl
  rw [parE_yes (by rw [hs]; rfl) (by rw [hs]; exact h1.1) (by rw [hs]; exact h2.1), hs]
  show some (rdN (decB e.1), rdN (decB e.2)) = some e
  rw [h1.2, h2.2]
theorem part_bytes {e : Int × Int} (h : 0 ≤ e.1 ∧ e.1 ≤ 1073741824 ∧ 0 ≤ e.2 ∧ e.2 ≤ 2) : ∀ i, i < (partE e).size → ¬ bAt (partE e) i = 32 := fun i hi => by
  have hz : (strOf [61]).size = 1 := size_strOf [61]
  have hz1 : (decB e.1 ++ strOf [61]).size = (decB e.1).size + 1 := by rw [ByteArray.size_append, hz]
  unfold partE at *
  rw [ByteArray.size_append, hz1] at hi
  rcases Nat.lt_or_ge i (decB e.1).size with h1 | h1
  · rw [bAt_appL (by omega), bAt_appL h1]
    exact dec_bytes (by omega) (by omega) (by omega) i h1
  · rcases Nat.eq_or_lt_of_le h1 with h2 | h2
    · subst h2
      rw [bAt_appL (by omega)]
      have := bAt_appR (decB e.1) (strOf [61]) 0
      rw [Nat.add_zero] at this
      rw [this, bAt_strOf (l := [61]) (i := 0) (by decide) (by decide) (by decide)]
      decide
    · have := bAt_appR (decB e.1 ++ strOf [61]) (decB e.2) (i - ((decB e.1).size + 1))
      rw [hz1, show (decB e.1).size + 1 + (i - ((decB e.1).size + 1)) = i by omega] at this
      rw [this]
      exact dec_bytes (by omega) (by omega) (by omega) _ (by omega)
theorem parTo_parts {es : List (Int × Int)} (h : ∀ e ∈ es, 0 ≤ e.1 ∧ e.1 ≤ 1073741824 ∧ 0 ≤ e.2 ∧ e.2 ≤ 2) : ∀ k, k ≤ es.length → parTo (es.map partE) k = some (es.take k)
  | 0, _ => by rw [parTo_zero]; rfl
  | k + 1, hk => by
    have hm : es.getD k (0, 0) ∈ es := mem_getD _ (by omega)
    rw [parTo_succ (parTo_parts h k (by omega)) (by rw [getD_mapB (0, 0) (by omega)]; exact parE_part (h _ hm)), List.take_add_one, getD_some (by omega) (0, 0)]
    rfl
theorem reC_edT {es : List (Int × Int)} (h : ∀ e ∈ es, 0 ≤ e.1 ∧ e.1 ≤ 1073741824 ∧ 0 ≤ e.2 ∧ e.2 ≤ 2) : reC (edT es) = some es := by
  cases hes : es with
  | nil => exact reC_nil rfl
  | cons e r =>
    rw [← hes]
    have hn : es.length = r.length + 1 := by rw [hes]; rfl
    have hsp : splitB (edT es) 32 = es.map partE := by
      unfold edT
      exact split_join (by decide) (by decide) r.length (es.map partE) (by rw [List.length_map, hn]) (fun p hp => by
        obtain ⟨e, he, rfl⟩ := List.mem_map.1 hp
        exact part_bytes (h e he))
    have hz : ¬ ((edT es).size : Int) = 0 := fun h0 => by
      have h3 : edT es = ByteArray.empty := by
        apply ByteArray.ext
        apply Array.eq_empty_of_size_eq_zero
        have : (edT es).data.size = (edT es).size := rfl
        omega
      have h4 := parE_part (h e (by rw [hes]; exact List.mem_cons_self ..))
      have h5 : splitB (edT es) 32 = [ByteArray.empty] := by rw [h3]; rw [split_one (fun i hi => absurd hi (Nat.not_lt_zero _))]
      rw [hsp, hes] at h5
      injection h5 with h6 h7
      rw [h6] at h4
      rw [parE_no (fun hh => by rw [split_one (fun i hi => absurd hi (Nat.not_lt_zero _))] at hh; exact absurd hh.1 (by decide))] at h4
      cases h4
    rw [reC_par hz, hsp, List.length_map, parTo_parts h es.length (Nat.le_refl _), List.take_length]

end Go.Proofs.Ytmfinopdokkjcaa
