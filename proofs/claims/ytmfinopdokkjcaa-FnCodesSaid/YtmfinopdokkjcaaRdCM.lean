/- Contracts of functions, printed by program from annotations. -/
import Derived.Test.YtmfinopdokkjcaaRead
import Derived.Test.YtmfinopdokkjcaaCText
namespace Go.Proofs.Ytmfinopdokkjcaa
open Go Go.AW Go.RowKit
set_option linter.unusedVariables false
set_option linter.unusedSimpArgs false

def j1 (c : Int) : ByteArray := strOf [c]
theorem bytes_split (s : ByteArray) {i j : Nat} (h1 : i ≤ j) (h2 : j < s.size) : s.extract i (j + 1) = s.extract i j ++ strOf [bAt s j] := by
  apply ByteArray.ext
  rw [ByteArray.data_append, ByteArray.data_extract, ByteArray.data_extract]
  apply Array.ext'
  have hsz : s.data.size = s.size := rfl
  have hj : j < s.data.toList.length := by simpa using h2
  rw [Array.toList_append, Array.toList_extract, Array.toList_extract, List.extract, List.extract, show j + 1 - i = (j - i) + 1 by omega, List.take_add_one, List.getElem?_drop, show i + (j - i) = j by omega, List.getElem?_eq_getElem hj]
  congr 1
  show [s.data.toList[j]] = [UInt8.ofNat (bAt s j).toNat]
  congr 1
  unfold bAt
  rw [Int.toNat_natCast]
  simp [List.getD, List.getElem?_eq_getElem hj]
theorem joinTo_app {sep : ByteArray} {ps qs : List ByteArray} : ∀ {k : Nat}, k ≤ ps.length → joinTo sep (ps ++ qs) k = joinTo sep ps k
  | 0, _ => rfl
  | k + 1, h => by
    have ih := joinTo_app (sep := sep) (ps := ps) (qs := qs) (k := k) (by omega)
    have hg : (ps ++ qs).getD k ByteArray.empty = ps.getD k ByteArray.empty := by simp [List.getD, List.getElem?_append_left (show k < ps.length by omega)]
    show (if k = 0 then joinTo sep (ps ++ qs) k ++ (ps ++ qs).getD k ByteArray.empty else (joinTo sep (ps ++ qs) k ++ sep) ++ (ps ++ qs).getD k ByteArray.empty) = (if k = 0 then joinTo sep ps k ++ ps.getD k ByteArray.empty else (joinTo sep ps k ++ sep) ++ ps.getD k ByteArray.empty)
    rw [ih, hg]
theorem joinAll_snoc (sep : ByteArray) (ps : List ByteArray) (x : ByteArray) : joinAll sep (ps ++ [x]) = (if ps.length = 0 then joinAll sep ps else joinAll sep ps ++ sep) ++ x := by
  unfold joinAll
  rw [List.length_append, List.length_singleton]
  have hg : (ps ++ [x]).getD ps.length ByteArray.empty = x := by simp [List.getD]
  show (if ps.length = 0 then joinTo sep (ps ++ [x]) ps.length ++ (ps ++ [x]).getD ps.length ByteArray.empty else (joinTo sep (ps ++ [x]) ps.length ++ sep) ++ (ps ++ [x]).getD ps.length ByteArray.empty) = _
  rw [hg, joinTo_app (Nat.le_refl _)]
  split <;> rfl
theorem joinAll_more (sep : ByteArray) (ps : List ByteArray) (x y : ByteArray) : joinAll sep (ps ++ [x ++ y]) = joinAll sep (ps ++ [x]) ++ y := by rw [joinAll_snoc, joinAll_snoc, ByteArray.append_assoc]
theorem extract_nil (s : ByteArray) (i : Nat) : s.extract i i = ByteArray.empty := by
  apply ByteArray.ext
  rw [ByteArray.data_extract]
  apply Array.ext'
  rw [Array.toList_extract, List.extract, Nat.sub_self]
  rfl
theorem join_spl (s : ByteArray) (c : Int) : ∀ i, i ≤ s.size → joinAll (strOf [c]) ((spl s c i).2 ++ [s.extract (spl s c i).1 i]) = s.extract 0 i
  | 0, _ => by
    rw [joinAll_snoc]
    show (if (0 : Nat) = 0 then ByteArray.empty else ByteArray.empty ++ strOf [c]) ++ s.extract 0 0 = s.extract 0 0
    rw [if_pos rfl, ByteArray.empty_append]
  | i + 1, h => by
    have ih := join_spl s c i (by omega)
    have hb := (spl_bd s c i).1
    by_cases hc : bAt s i = c
    · rw [spl_yes hc]
      show joinAll (strOf [c]) (((spl s c i).2 ++ [s.extract (spl s c i).1 i]) ++ [s.extract (i + 1) (i + 1)]) = _
      rw [joinAll_snoc, if_neg (by simp), ih, extract_nil, ByteArray.append_empty, bytes_split s (Nat.zero_le i) (by omega), hc]
    · rw [spl_no hc, bytes_split s hb (by omega), joinAll_more, ih, bytes_split s (Nat.zero_le i) (by omega)]
theorem join_split (s : ByteArray) (c : Int) : joinAll (strOf [c]) (splitB s c) = s := by
  unfold splitB
  rw [join_spl s c s.size (Nat.le_refl _)]
  exact ByteArray.extract_zero_size
/-- the numbers of words -/
def parN (ps : List ByteArray) : Nat → Option (List Int)
  | 0 => some []
  | k + 1 => (parN ps k).bind fun ns => if rdB (ps.getD k ByteArray.empty) = true then some (ns ++ [rdN (ps.getD k ByteArray.empty)]) else none
theorem parN_yes {ps : List ByteArray} {k : Nat} {ns : List Int} (h : parN ps k = some ns) (h2 : rdB (ps.getD k ByteArray.empty) = true) : parN ps (k + 1) = some (ns ++ [rdN (ps.getD k ByteArray.empty)]) := by
  show (parN ps k).bind _ = _
  rw [h, Option.bind_some, if_pos h2]
theorem parN_no {ps : List ByteArray} {k : Nat} (h2 : rdB (ps.getD k ByteArray.empty) = false) : parN ps (k + 1) = none := by
  show (parN ps k).bind _ = _
  cases parN ps k with
  | none => rfl
  | some ns => rw [Option.bind_some, if_neg (by rw [h2]; decide)]
theorem parN_mono {ps : List ByteArray} {k : Nat} (h : parN ps k = none) : ∀ {n : Nat}, k ≤ n → parN ps n = none
  | 0, hn => by rw [show k = 0 by omega] at h; cases h
  | n + 1, hn => by
    rcases Nat.eq_or_lt_of_le hn with rfl | h1
    · exact h
    · show (parN ps n).bind _ = _
      rw [parN_mono h (by omega)]
      rfl
theorem parN_inv {ps : List ByteArray} {k : Nat} {ns : List Int} (h : parN ps (k + 1) = some ns) : ∃ ms, parN ps k = some ms ∧ rdB (ps.getD k ByteArray.empty) = true ∧ ns = ms ++ [rdN (ps.getD k ByteArray.empty)] := by
  cases h1 : parN ps k with
  | none => rw [parN_mono h1 (Nat.le_succ k)] at h; cases h
  | some ms =>
    cases h2 : rdB (ps.getD k ByteArray.empty) with
    | false => rw [parN_no h2] at h; cases h
    | true => rw [parN_yes h1 h2] at h; cases h; exact ⟨ms, rfl, rfl, rfl⟩
theorem parN_len {ps : List ByteArray} : ∀ {k : Nat} {ns : List Int}, parN ps k = some ns → ns.length = k
  | 0, ns, h => by cases h; rfl
  | k + 1, ns, h => by
    obtain ⟨ms, h1, _, rfl⟩ := parN_inv h
    rw [List.length_append, parN_len h1]
    rfl
theorem parN_text {ps : List ByteArray} : ∀ {k : Nat} {ns : List Int}, k ≤ ps.length → parN ps k = some ns → ns.map decB = ps.take k
  | 0, ns, _, h => by cases h; rfl
  | k + 1, ns, hk, h => by
    obtain ⟨ms, h1, h2, rfl⟩ := parN_inv h
    have h3 := rd_true h2
    rw [List.map_append, parN_text (by omega) h1, List.take_add_one, getD_some (show k < ps.length by omega) ByteArray.empty]
    congr 1
    show [decB (rdN (ps.getD k ByteArray.empty))] = [ps.getD k ByteArray.empty]
    rw [(rd_ok h3).1, h3.2.2]
theorem parN_zero (ps : List ByteArray) : parN ps 0 = some [] := rfl
attribute [irreducible] parN
/-- the numbers of a text -/
def numsE (p : ByteArray) : Option (List Int) := if p = strOf [111] then some [] else parN (splitB p 32) (splitB p 32).length
theorem numsE_o {p : ByteArray} (h : p = strOf [111]) : numsE p = some [] := by unfold numsE; rw [if_pos h]
theorem numsE_w {p : ByteArray} (h : ¬ p = strOf [111]) : numsE p = parN (splitB p 32) (splitB p 32).length := by unfold numsE; rw [if_neg h]
theorem numsE_len {p : ByteArray} {ns : List Int} (h : numsE p = some ns) : ns.length ≤ p.size + 1 := by
  by_cases hp : p = strOf [111]
  · rw [numsE_o hp] at h; cases h; exact Nat.zero_le _
  · rw [numsE_w hp] at h; rw [parN_len h]; exact (splitB_len p 32).2
theorem numsE_text {p : ByteArray} {ns : List Int} (h : numsE p = some ns) : partC ns = p := by
  by_cases hp : p = strOf [111]
  · rw [numsE_o hp] at h; cases h; rw [hp]; exact partC_nil rfl
  · rw [numsE_w hp] at h
    have h1 := parN_len h
    have h2 := splitB_len p 32
    rw [partC_some (by omega), parN_text (Nat.le_refl _) h, List.take_length, join_split]
attribute [irreducible] numsE
def parC (ps : List ByteArray) : Nat → Option (List (List Int))
  | 0 => some []
  | k + 1 => (parC ps k).bind fun cs => (numsE (ps.getD k ByteArray.empty)).map fun ns => cs ++ [ns]
theorem parC_yes {ps : List ByteArray} {k : Nat} {cs : List (List Int)} {ns : List Int} (h : parC ps k = some cs) (h2 : numsE (ps.getD k ByteArray.empty) = some ns) : parC ps (k + 1) = some (cs ++ [ns]) := by
  show (parC ps k).bind _ = _
  rw [h, Option.bind_some, h2]
  rfl
theorem parC_no {ps : List ByteArray} {k : Nat} (h2 : numsE (ps.getD k ByteArray.empty) = none) : parC ps (k + 1) = none := by
  show (parC ps k).bind _ = _
  cases parC ps k with
  | none => rfl
  | some cs => rw [Option.bind_some, h2]; rfl
theorem parC_mono {ps : List ByteArray} {k : Nat} (h : parC ps k = none) : ∀ {n : Nat}, k ≤ n → parC ps n = none
  | 0, hn => by rw [show k = 0 by omega] at h; cases h
  | n + 1, hn => by
    rcases Nat.eq_or_lt_of_le hn with rfl | h1
    · exact h
    · show (parC ps n).bind _ = _
      rw [parC_mono h (by omega)]
      rfl
theorem parC_inv {ps : List ByteArray} {k : Nat} {cs : List (List Int)} (h : parC ps (k + 1) = some cs) : ∃ ds ns, parC ps k = some ds ∧ numsE (ps.getD k ByteArray.empty) = some ns ∧ cs = ds ++ [ns] := by
  cases h1 : parC ps k with
  | none => rw [parC_mono h1 (Nat.le_succ k)] at h; cases h
  | some ds =>
    cases h2 : numsE (ps.getD k ByteArray.empty) with
    | none => rw [parC_no h2] at h; cases h
    | some ns => rw [parC_yes h1 h2] at h; cases h; exact ⟨ds, ns, rfl, rfl, rfl⟩
theorem parC_len {ps : List ByteArray} : ∀ {k : Nat} {cs : List (List Int)}, parC ps k = some cs → cs.length = k
  | 0, cs, h => by cases h; rfl
  | k + 1, cs, h => by
    obtain ⟨ds, ns, h1, _, rfl⟩ := parC_inv h
    rw [List.length_append, parC_len h1]
    rfl
theorem parC_text {ps : List ByteArray} : ∀ {k : Nat} {cs : List (List Int)}, k ≤ ps.length → parC ps k = some cs → cs.map partC = ps.take k
  | 0, cs, _, h => by cases h; rfl
  | k + 1, cs, hk, h => by
    obtain ⟨ds, ns, h1, h2, rfl⟩ := parC_inv h
    rw [List.map_append, parC_text (by omega) h1, List.take_add_one, getD_some (show k < ps.length by omega) ByteArray.empty]
    congr 1
    show [partC ns] = [ps.getD k ByteArray.empty]
    rw [numsE_text h2]
theorem tot_app (cs ds : List (List Int)) : tot (cs ++ ds) = tot cs + tot ds := by unfold tot; rw [List.map_append, List.sum_append_nat]
theorem tot_one (ns : List Int) : tot [ns] = ns.length := by simp [tot]
theorem parC_ext {ps : List ByteArray} {k : Nat} : ∀ {n : Nat} {cs ds : List (List Int)}, k ≤ n → parC ps n = some ds → parC ps k = some cs → ∃ es, ds = cs ++ es
  | 0, cs, ds, hn, h1, h2 => by
    rw [show k = 0 by omega, h1] at h2
    cases h2
    exact ⟨[], by simp⟩
  | n + 1, cs, ds, hn, h1, h2 => by
    rcases Nat.eq_or_lt_of_le hn with rfl | h3
    · rw [h1] at h2; cases h2; exact ⟨[], by simp⟩
    · obtain ⟨es, ns, h4, h5, rfl⟩ := parC_inv h1
      obtain ⟨fs, rfl⟩ := parC_ext (k := k) (by omega) h4 h2
      exact ⟨fs ++ [ns], by rw [List.append_assoc]⟩
theorem parN_ext {ps : List ByteArray} {k : Nat} : ∀ {n : Nat} {ms ns : List Int}, k ≤ n → parN ps n = some ns → parN ps k = some ms → ms.length ≤ ns.length := by
  intro n ms ns hn h1 h2
  rw [parN_len h1, parN_len h2]
  exact hn
theorem parC_zero (ps : List ByteArray) : parC ps 0 = some [] := rfl
attribute [irreducible] parC
def rcO (s : ByteArray) : Option (List (List Int)) := if s = strOf [110, 111, 110, 101] then some [] else parC (splitB s 59) (splitB s 59).length
theorem rcO_none {s : ByteArray} (h : s = strOf [110, 111, 110, 101]) : rcO s = some [] := by unfold rcO; rw [if_pos h]
theorem rcO_par {s : ByteArray} (h : ¬ s = strOf [110, 111, 110, 101]) : rcO s = parC (splitB s 59) (splitB s 59).length := by unfold rcO; rw [if_neg h]
/-- a text is one of a code -/
def rcB (s : ByteArray) : Bool := match rcO s with
  | some cs => validB cs
  | none => false
def rcL (s : ByteArray) : List (List Int) := if rcB s then (rcO s).getD [] else []
theorem rcB_some {s : ByteArray} {cs : List (List Int)} (h : rcO s = some cs) : rcB s = validB cs := by unfold rcB; rw [h]
theorem rcB_none {s : ByteArray} (h : rcO s = none) : rcB s = false := by unfold rcB; rw [h]
theorem rcL_no {s : ByteArray} (h : rcB s = false) : rcL s = [] := by unfold rcL; rw [h]; rfl
theorem rcL_yes {s : ByteArray} {cs : List (List Int)} (h : rcO s = some cs) (h2 : validB cs = true) : rcB s = true ∧ rcL s = cs := by
  have h3 : rcB s = true := by rw [rcB_some h]; exact h2
  refine ⟨h3, ?_⟩
  unfold rcL
  rw [h3, h]
  rfl
theorem rc_stop {s : ByteArray} (h : ¬ s = strOf [110, 111, 110, 101]) {k : Nat} (hk : k < (splitB s 59).length) (h2 : numsE ((splitB s 59).getD k ByteArray.empty) = none) : rcB s = false :=
  rcB_none (by rw [rcO_par h]; exact parC_mono (parC_no h2) (by omega))
theorem nums_stop {p : ByteArray} (h : ¬ p = strOf [111]) {j : Nat} (hj : j < (splitB p 32).length) (h2 : rdB ((splitB p 32).getD j ByteArray.empty) = false) : numsE p = none := by
  rw [numsE_w h]
  exact parN_mono (parN_no h2) (by omega)
theorem valid_tot {cs : List (List Int)} (h : validB cs = true) : cs.length ≤ 40 ∧ tot cs ≤ 240 := by
  obtain ⟨h1, h2, h3, _⟩ := validB_len h
  omega
theorem rc_many {s : ByteArray} (h : ¬ s = strOf [110, 111, 110, 101]) {k : Nat} (hk : k < (splitB s 59).length) {cs : List (List Int)} (hc : parC (splitB s 59) k = some cs) (hp : ¬ (splitB s 59).getD k ByteArray.empty = strOf [111]) {j : Nat} {ns : List Int} (hj : j ≤ (splitB ((splitB s 59).getD k ByteArray.empty) 32).length) (hn : parN (splitB ((splitB s 59).getD k ByteArray.empty) 32) j = some ns) (hm : 240 < tot cs + ns.length) : rcB s = false := by
  cases hr : rcO s with
  | none => exact rcB_none hr
  | some ds =>
    rw [rcB_some hr]
    cases hv : validB ds with
    | false => rfl
    | true =>
      have h1 := valid_tot hv
      rw [rcO_par h] at hr
      cases h2 : parC (splitB s 59) (k + 1) with
      | none => rw [parC_mono h2 (by omega)] at hr; cases hr
      | some es =>
        obtain ⟨fs, rfl⟩ := parC_ext (by omega) hr h2
        obtain ⟨gs, ms, h3, h4, rfl⟩ := parC_inv h2
        rw [hc] at h3
        cases h3
        rw [numsE_w hp] at h4
        have h5 := parN_ext hj h4 hn
        rw [tot_app, tot_app, tot_one] at h1
        omega
theorem rc_long {s : ByteArray} (h : ¬ s = strOf [110, 111, 110, 101]) {k : Nat} (hk : k < (splitB s 59).length) (hm : 40 < k + 1) : rcB s = false := by
  cases hr : rcO s with
  | none => exact rcB_none hr
  | some ds =>
    rw [rcB_some hr]
    cases hv : validB ds with
    | false => rfl
    | true =>
      have h1 := valid_tot hv
      rw [rcO_par h] at hr
      have := parC_len hr
      omega
theorem rc_text {s : ByteArray} (h : ¬ s = strOf [110, 111, 110, 101]) {cs : List (List Int)} (hr : rcO s = some cs) (hv : validB cs = true) : codeT cs = s := by
  rw [rcO_par h] at hr
  have h1 := parC_len hr
  have h2 := splitB_len s 59
  rw [codeT_some hv (by omega), parC_text (Nat.le_refl _) hr, List.take_length, join_split]
theorem validB_nil : validB [] = true := by
  unfold validB
  exact decide_eq_true ⟨by simp, by simp [tot], by simp [tot], fun x hx => by simp at hx, by simp⟩
theorem rcL_size (s : ByteArray) : (rcL s).length + tot (rcL s) ≤ 280 := by
  cases h : rcB s with
  | false => rw [rcL_no h]; simp [tot]
  | true =>
    cases hr : rcO s with
    | none => rw [rcB_none hr] at h; cases h
    | some cs =>
      rw [rcB_some hr] at h
      rw [(rcL_yes hr h).2]
      have := valid_tot h
      omega
/-- the sizes of parts -/
def szTo (ps : List ByteArray) : Nat := (ps.map fun p => p.size).sum
theorem szTo_app (ps qs : List ByteArray) : szTo (ps ++ qs) = szTo ps + szTo qs := by unfold szTo; rw [List.map_append, List.sum_append_nat]
theorem spl_sz (s : ByteArray) (c : Int) : ∀ i, szTo (spl s c i).2 ≤ (spl s c i).1
  | 0 => Nat.le_refl _
  | i + 1 => by
    have ih := spl_sz s c i
    have hb := spl_bd s c i
    by_cases h : bAt s i = c
    · rw [spl_yes h, szTo_app]
      have : szTo [s.extract (spl s c i).1 i] ≤ i - (spl s c i).1 := by
        simp only [szTo, List.map_cons, List.map_nil, List.sum_cons, List.sum_nil]
        rw [ByteArray.size_extract]
        omega
      show szTo (spl s c i).2 + szTo [s.extract (spl s c i).1 i] ≤ i + 1
      omega
    · rw [spl_no h]; exact ih
theorem splitB_sz (s : ByteArray) (c : Int) : szTo (splitB s c) ≤ s.size := by
  have h1 := spl_sz s c s.size
  have h2 := (spl_bd s c s.size).1
  unfold splitB
  rw [szTo_app]
  have : szTo [s.extract (spl s c s.size).1 s.size] ≤ s.size - (spl s c s.size).1 := by
    simp only [szTo, List.map_cons, List.map_nil, List.sum_cons, List.sum_nil]
    rw [ByteArray.size_extract]
    omega
  omega
theorem parC_tot {ps : List ByteArray} : ∀ {k : Nat} {cs : List (List Int)}, k ≤ ps.length → parC ps k = some cs → tot cs ≤ szTo (ps.take k) + k
  | 0, cs, _, h => by rw [parC_zero] at h; cases h; simp [tot]
  | k + 1, cs, hk, h => by
    obtain ⟨ds, ns, h1, h2, rfl⟩ := parC_inv h
    have h3 := parC_tot (k := k) (by omega) h1
    have h4 := numsE_len h2
    rw [tot_app, tot_one, List.take_add_one, getD_some (show k < ps.length by omega) ByteArray.empty, szTo_app]
    have : szTo (some (ps.getD k ByteArray.empty)).toList = (ps.getD k ByteArray.empty).size := by simp [szTo]
    omega
theorem szTo_take (ps : List ByteArray) (k : Nat) : szTo (ps.take k) ≤ szTo ps := by
  have h : szTo ps = szTo (ps.take k) + szTo (ps.drop k) := by rw [← szTo_app, List.take_append_drop]
  omega

end Go.Proofs.Ytmfinopdokkjcaa
