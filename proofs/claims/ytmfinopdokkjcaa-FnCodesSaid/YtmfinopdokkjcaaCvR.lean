/- Contracts of functions, printed by program from annotations. -/
import Derived.Test.YtmfinopdokkjcaaL14
import Derived.Test.YtmfinopdokkjcaaRtM
import Derived.Test.YtmfinopdokkjcaaRdC
namespace Go.Proofs.Ytmfinopdokkjcaa
open Go Go.AW Go.RowKit
set_option linter.unusedVariables false
set_option linter.unusedSimpArgs false

/-- all bytes of a text -/
def allBt (P : Int → Prop) (s : ByteArray) : Prop := ∀ i, i < s.size → P (bAt s i)
theorem allBt_app {P : Int → Prop} {a b : ByteArray} (ha : allBt P a) (hb : allBt P b) : allBt P (a ++ b) := fun i hi => by
  rw [ByteArray.size_append] at hi
  rcases Nat.lt_or_ge i a.size with h | h
  · rw [bAt_appL h]; exact ha i h
  · have := bAt_appR a b (i - a.size)
    rw [show a.size + (i - a.size) = i by omega] at this
    rw [this]
    exact hb _ (by omega)
theorem allBt_empty (P : Int → Prop) : allBt P ByteArray.empty := fun i hi => absurd hi (Nat.not_lt_zero _)
theorem allBt_one {P : Int → Prop} {c : Int} (h0 : 0 ≤ c) (h1 : c ≤ 255) (h : P c) : allBt P (strOf [c]) := fun i hi => by
  have hz : (strOf [c]).size = 1 := size_strOf [c]
  have : i = 0 := by omega
  subst this
  rw [bAt_strOf (l := [c]) (i := 0) Nat.zero_lt_one h0 h1]
  exact h
theorem allBt_join {P : Int → Prop} {sep : ByteArray} {ps : List ByteArray} (hs : allBt P sep) (hp : ∀ p ∈ ps, allBt P p) : ∀ k, k ≤ ps.length → allBt P (joinTo sep ps k)
  | 0, _ => allBt_empty P
  | k + 1, h => by
    have ih := allBt_join hs hp k (by omega)
    have hk : allBt P (ps.getD k ByteArray.empty) := by
      refine hp _ ?_
      simp [List.getD, List.getElem?_eq_getElem (show k < ps.length by omega)]
    show allBt P (if k = 0 then joinTo sep ps k ++ ps.getD k ByteArray.empty else (joinTo sep ps k ++ sep) ++ ps.getD k ByteArray.empty)
    split
    · exact allBt_app ih hk
    · exact allBt_app (allBt_app ih hs) hk
def rowIn (row : List Int) : Prop := ∀ x ∈ row, -120 ≤ x ∧ x ≤ 120
theorem dec_all {P : Int → Prop} {x : Int} (hx : -120 ≤ x ∧ x ≤ 120) (h : ∀ c, (c = 45 ∨ 48 ≤ c ∧ c ≤ 57) → P c) : allBt P (decB x) := fun i hi => by
  have h2 := dec_read (n := x) (by omega) (by omega)
  have := rdOk_bytes (rd_true h2.1) hi
  unfold digB at this
  exact h _ (by omega)
theorem part_all {P : Int → Prop} {row : List Int} (hr : rowIn row) (h : ∀ c, (c = 45 ∨ 48 ≤ c ∧ c ≤ 57 ∨ c = 32 ∨ c = 111 ∧ row = []) → P c) : allBt P (partC row) := by
  by_cases h0 : (row.length : Int) = 0
  · rw [partC_nil h0]
    exact allBt_one (by decide) (by decide) (h _ (.inr (.inr (.inr ⟨rfl, List.eq_nil_of_length_eq_zero (by omega)⟩))))
  · rw [partC_some h0]
    refine allBt_join (allBt_one (by decide) (by decide) (h _ (by omega))) (fun p hp => ?_) _ (Nat.le_refl _)
    obtain ⟨x, hx, rfl⟩ := List.mem_map.1 hp
    exact dec_all (hr x hx) (fun c hc => h c (by omega))
theorem parN_row {row : List Int} (hr : rowIn row) : ∀ k, k ≤ row.length → parN (row.map decB) k = some (row.take k)
  | 0, _ => by rw [parN_zero]; rfl
  | k + 1, h => by
    have hm := hr _ (mem_getD 0 (show k < row.length by omega))
    have hd := dec_read (n := row.getD k 0) (by omega) (by omega)
    have hg : (row.map decB).getD k ByteArray.empty = decB (row.getD k 0) := getD_mapB 0 (by omega)
    rw [parN_yes (parN_row hr k (by omega)) (by rw [hg]; exact hd.1), hg, hd.2, take_snoc 0 (by omega)]
theorem numsE_part {row : List Int} (hr : rowIn row) : numsE (partC row) = some row := by
  by_cases h0 : (row.length : Int) = 0
  · rw [List.eq_nil_of_length_eq_zero (l := row) (by omega)]
    exact numsE_o (partC_nil rfl)
  · have hne : row ≠ [] := by rintro rfl; exact h0 rfl
    have ha := part_all (P := fun c => c ≠ 111) hr (fun c hc => (by rcases hc with h | h | h | h <;> first | omega | exact absurd h.2 hne))
    have hno : ¬ partC row = strOf [111] := fun e => by
      rw [e] at ha
      exact ha 0 (by decide) (bAt_strOf (l := [111]) (i := 0) (by decide) (by decide) (by decide))
    rw [numsE_w hno, partC_some h0]
    have hsp : splitB (joinAll (strOf [32]) (row.map decB)) 32 = row.map decB := by
      refine split_join (by decide) (by decide) (row.length - 1) _ (by rw [List.length_map]; omega) (fun p hp => ?_)
      obtain ⟨x, hx, rfl⟩ := List.mem_map.1 hp
      have := hr x hx
      exact dec_bytes (by omega) (by omega) (by omega)
    rw [hsp, List.length_map, parN_row hr _ (Nat.le_refl _), List.take_length]
theorem parC_rows {cs : List (List Int)} (hr : ∀ row ∈ cs, rowIn row) : ∀ k, k ≤ cs.length → parC (cs.map partC) k = some (cs.take k)
  | 0, _ => by rw [parC_zero]; rfl
  | k + 1, h => by
    have hm : cs.getD k [] ∈ cs := mem_getD _ (by omega)
    have hg : (cs.map partC).getD k ByteArray.empty = partC (cs.getD k []) := getD_mapB [] (by omega)
    rw [parC_yes (parC_rows hr k (by omega)) (by rw [hg]; exact numsE_part (hr _ hm)), take_snoc [] (by omega)]
theorem rows_in {cs : List (List Int)} (h : validB cs = true) : ∀ row ∈ cs, rowIn row := fun row hm x hx => by
  obtain ⟨h1, h2, h3, h4⟩ := validB_len h
  have := h4.1 x (List.mem_flatten.2 ⟨row, hm, hx⟩)
  omega
/-- a code read out of its text -/
theorem rc_round {cs : List (List Int)} (h : validB cs = true) : rcB (codeT cs) = true ∧ rcL (codeT cs) = cs := by
  refine rcL_yes ?_ h
  have hr := rows_in h
  by_cases h0 : (cs.length : Int) = 0
  · have hnil : cs = [] := List.eq_nil_of_length_eq_zero (by omega)
    rw [hnil] at h ⊢
    exact rcO_none (codeT_none h rfl)
  · have hsp : splitB (codeT cs) 59 = cs.map partC := by
      rw [codeT_some h h0]
      refine split_join (by decide) (by decide) (cs.length - 1) _ (by rw [List.length_map]; omega) (fun p hp => ?_)
      obtain ⟨row, hm, rfl⟩ := List.mem_map.1 hp
      exact part_all (P := fun c => ¬ c = 59) (hr row hm) (fun c hc => by omega)
    have hno : ¬ codeT cs = strOf [110, 111, 110, 101] := fun e => by
      have ha : allBt (fun c => c ≠ 110) (codeT cs) := by
        rw [codeT_some h h0]
        refine allBt_join (allBt_one (by decide) (by decide) (by decide)) (fun p hp => ?_) _ (Nat.le_refl _)
        obtain ⟨row, hm, rfl⟩ := List.mem_map.1 hp
        exact part_all (hr row hm) (fun c hc => by omega)
      rw [e] at ha
      exact ha 0 (by decide) (bAt_strOf (l := [110, 111, 110, 101]) (i := 0) (by decide) (by decide) (by decide))
    rw [rcO_par hno, hsp, List.length_map, parC_rows hr _ (Nat.le_refl _), List.take_length]
theorem joinTo_szC {sep : ByteArray} {ps : List ByteArray} {B : Nat} (hs : sep.size ≤ 16) (hp : ∀ k, k < ps.length → (ps.getD k ByteArray.empty).size ≤ B) : ∀ k, k ≤ ps.length → (joinTo sep ps k).size ≤ k * (B + 16)
  | 0, _ => by simp [joinTo]
  | k + 1, h => by
    have h1 := joinTo_szC hs hp k (by omega)
    have h2 := hp k (by omega)
    rw [Nat.succ_mul]
    show (if k = 0 then joinTo sep ps k ++ ps.getD k ByteArray.empty else (joinTo sep ps k ++ sep) ++ ps.getD k ByteArray.empty).size ≤ _
    split
    · rw [ByteArray.size_append]; omega
    · rw [ByteArray.size_append, ByteArray.size_append]; omega
theorem codeT_size {cs : List (List Int)} (h : validB cs = true) : (codeT cs).size ≤ 1048576 := by
  have hz := validB_sz h
  by_cases h0 : (cs.length : Int) = 0
  · rw [codeT_none h h0, size_strOf]; decide
  · rw [codeT_some h h0]
    have hp : ∀ k, k < (cs.map partC).length → ((cs.map partC).getD k ByteArray.empty).size ≤ 6000 := fun k hk => by
      rw [List.length_map] at hk
      rw [getD_mapB [] hk]
      have hb := (row_bound h hk).1
      have hl := len_le_tot hk
      unfold partC
      split
      · rw [size_strOf]; decide
      · have := joinD_size hb _ (Nat.le_refl _)
        unfold joinAll
        rw [List.length_map]
        omega
    have := joinTo_szC (sep := strOf [59]) (by decide) hp _ (Nat.le_refl _)
    unfold joinAll
    rw [List.length_map] at *
    have h2 : cs.length * (6000 + 16) ≤ 40 * (6000 + 16) := Nat.mul_le_mul_right _ hz.1
    omega
/-- where a number of a valid code lies -/
theorem fRow_in {cs : List (List Int)} {x : Int} (h : x ∈ cs.flatten) : ∃ r : Nat, fRow cs x = r ∧ r < cs.length ∧ x ∈ cs.getD r [] := by
  obtain ⟨row, hm, hx⟩ := List.mem_flatten.1 h
  have hlt : cs.findIdx (fun l => decide (x ∈ l)) < cs.length := List.findIdx_lt_length_of_exists ⟨row, hm, decide_eq_true hx⟩
  refine ⟨cs.findIdx (fun l => decide (x ∈ l)), by unfold fRow; rw [if_pos hlt], hlt, ?_⟩
  have h1 := of_decide_eq_true (List.findIdx_getElem (w := hlt))
  simpa [List.getD, List.getElem?_eq_getElem hlt] using h1
theorem at_valid {cs : List (List Int)} (h : validB cs = true) {k : Nat} (hk : k < tot cs / 2) : ∃ i j : Nat, atC cs (k : Int) = ((i : Int), (j : Int), 0) ∧ i < cs.length ∧ j < cs.length ∧ (k : Int) + 1 ∈ cs.getD i [] ∧ -(k : Int) - 1 ∈ cs.getD j [] := by
  have hp := validB_perm h
  obtain ⟨i, h1, h2, h3⟩ := fRow_in (cs := cs) (x := (k : Int) + 1) (hp.mem_iff.2 (mem_alls.2 (by omega)))
  obtain ⟨j, h4, h5, h6⟩ := fRow_in (cs := cs) (x := -(k : Int) - 1) (hp.mem_iff.2 (mem_alls.2 (by omega)))
  refine ⟨i, j, ?_, h2, h5, h3, h6⟩
  unfold atC
  rw [h, if_pos rfl, if_pos (by omega), h1, h4]

end Go.Proofs.Ytmfinopdokkjcaa
