/- Contracts of functions, printed by program from annotations. -/
import Derived.Test.YtmfinopdokkjcaaTurns2
import Derived.Test.YtmfinopdokkjcaaCod
import Derived.Test.YtmfinopdokkjcaaCrsM
namespace Go.Proofs.Ytmfinopdokkjcaa
open Go Go.AW Go.RowKit
set_option linter.unusedVariables false
set_option linter.unusedSimpArgs false

theorem nodup_sub_len : ∀ {L M : List Int}, L.Nodup → (∀ x ∈ L, x ∈ M) → L.length ≤ M.length
  | [], _, _, _ => Nat.zero_le _
  | x :: L, M, h, hs => by
    rw [List.nodup_cons] at h
    have hx := hs x (List.mem_cons_self ..)
    have hp := List.perm_cons_erase hx
    have ih := nodup_sub_len (L := L) (M := M.erase x) h.2 (fun y hy => by
      have hy2 := hs y (List.mem_cons_of_mem _ hy)
      rw [List.mem_erase_of_ne (by rintro rfl; exact h.1 hy)]
      exact hy2)
    have e := hp.length_eq
    simp only [List.length_cons] at *
    omega
theorem nodup_sub_perm : ∀ {L M : List Int}, L.Nodup → (∀ x ∈ L, x ∈ M) → M.length ≤ L.length → L.Perm M
  | [], M, _, _, hl => by rw [List.eq_nil_of_length_eq_zero (l := M) (by simpa using hl)]
  | x :: L, M, h, hs, hl => by
    rw [List.nodup_cons] at h
    have hx := hs x (List.mem_cons_self ..)
    have hp := List.perm_cons_erase hx
    have e := hp.length_eq
    simp only [List.length_cons] at *
    have ih := nodup_sub_perm (L := L) (M := M.erase x) h.2 (fun y hy => by
      have hy2 := hs y (List.mem_cons_of_mem _ hy)
      rw [List.mem_erase_of_ne (by rintro rfl; exact h.1 hy)]
      exact hy2) (by omega)
    exact (List.Perm.cons x ih).trans hp.symm
def alls : Nat → List Int
  | 0 => []
  | z + 1 => alls z ++ [(z : Int) + 1, -((z : Int) + 1)]
theorem length_alls : ∀ z, (alls z).length = 2 * z
  | 0 => rfl
  | z + 1 => by rw [alls, List.length_append, length_alls z]; simp; omega
theorem mem_alls {x : Int} : ∀ {z : Nat}, x ∈ alls z ↔ x ≠ 0 ∧ -(z : Int) ≤ x ∧ x ≤ z
  | 0 => by simp [alls]; omega
  | z + 1 => by
    rw [alls, List.mem_append, mem_alls (z := z)]
    simp only [List.mem_cons, List.not_mem_nil, or_false]
    omega
theorem nodup_alls : ∀ z, (alls z).Nodup
  | 0 => List.nodup_nil
  | z + 1 => by
    rw [alls, List.nodup_append]
    refine ⟨nodup_alls z, ?_, fun x hx y hy => ?_⟩
    · simp; omega
    · have := mem_alls.1 hx
      simp only [List.mem_cons, List.not_mem_nil, or_false] at hy
      omega
theorem perm_set_flatten : ∀ {ls : List (List Int)} {c : Nat} {m : List Int}, c < ls.length → m.Perm (ls.getD c []) → (ls.set c m).flatten.Perm ls.flatten
  | [], c, m, h, _ => by simp at h
  | l :: ls, 0, m, _, hm => by
    simp only [List.set_cons_zero, List.flatten_cons]
    exact List.Perm.append_right _ (by simpa using hm)
  | l :: ls, c + 1, m, h, hm => by
    simp only [List.set_cons_succ, List.flatten_cons]
    exact List.Perm.append_left _ (perm_set_flatten (by simpa using h) (by simpa using hm))
theorem set_snoc_perm : ∀ {ls : List (List Int)} {c : Nat} {x : Int}, c < ls.length → (ls.set c (ls.getD c [] ++ [x])).flatten.Perm (ls.flatten ++ [x])
  | [], c, m, h => by simp at h
  | l :: ls, 0, x, _ => by
    simp only [List.set_cons_zero, List.flatten_cons, List.getD_cons_zero, List.append_assoc]
    exact List.Perm.append_left _ List.perm_append_comm
  | l :: ls, c + 1, x, h => by
    simp only [List.set_cons_succ, List.flatten_cons, List.getD_cons_succ, List.append_assoc]
    exact List.Perm.append_left _ (set_snoc_perm (by simpa using h))
/-- two places exchanged -/
theorem swap_perm {l : List Int} {i j : Nat} (hi : i < l.length) (hj : j < l.length) : ((l.set i (l.getD j 0)).set j (l.getD i 0)).Perm l := by
  rw [List.perm_iff_count]
  intro x
  by_cases e : i = j
  · subst e
    rw [List.set_set, List.getD, List.getElem?_eq_getElem hi]
    simp
  · rw [List.count_set (by simpa using hj), List.count_set hi, List.getElem_set_ne e]
    simp only [List.getD, List.getElem?_eq_getElem hi, List.getElem?_eq_getElem hj, Option.getD_some]
    have c1 : l[i] == x → 1 ≤ l.count x := fun h => by
      have : l[i] = x := by simpa using h
      exact List.count_pos_iff.2 (this ▸ List.getElem_mem hi)
    have c2 : l[j] == x → 1 ≤ l.count x := fun h => by
      have : l[j] = x := by simpa using h
      exact List.count_pos_iff.2 (this ▸ List.getElem_mem hj)
    by_cases a : l[i] == x <;> by_cases b : l[j] == x <;> simp only [a, b, if_true, if_false, Bool.false_eq_true] <;> first | omega | (have := c1 a; omega) | (have := c2 b; omega)
/-- a code that is a shuffle of the numbers is valid, and a valid code is one -/
theorem validB_alls {ls : List (List Int)} {z : Nat} (h1 : ls.length ≤ 40) (h2 : z ≤ 120) (h : ls.flatten.Perm (alls z)) : validB ls = true ∧ tot ls = 2 * z := by
  have ht : tot ls = 2 * z := by rw [← length_flatten, h.length_eq, length_alls]
  refine ⟨?_, ht⟩
  unfold validB
  refine decide_eq_true ⟨h1, by omega, by omega, ?_⟩
  rw [show tot ls / 2 = z by omega]
  exact ⟨fun x hx => mem_alls.1 (h.mem_iff.1 hx), h.nodup_iff.2 (nodup_alls z)⟩
theorem validB_perm {ls : List (List Int)} (h : validB ls = true) : ls.flatten.Perm (alls (tot ls / 2)) := by
  obtain ⟨h1, h2, h3, h4⟩ := validB_len h
  exact nodup_sub_perm h4.2 (fun x hx => mem_alls.2 (h4.1 x hx)) (by rw [length_alls, length_flatten]; omega)
theorem validB_like {ls ms : List (List Int)} (h : validB ls = true) (hl : ms.length = ls.length) (hp : ms.flatten.Perm ls.flatten) : validB ms = true := by
  obtain ⟨h1, h2, h3, h4⟩ := validB_len h
  exact (validB_alls (by omega) h3 (hp.trans (validB_perm h))).1
theorem validB_sz {ls : List (List Int)} (h : validB ls = true) : ls.length ≤ 40 ∧ tot ls ≤ 241 := by
  obtain ⟨h1, h2, h3, h4⟩ := validB_len h
  omega
theorem mir_valid {ls : List (List Int)} (h : validB ls = true) : validB (mirC ls) = true ∧ mirC (mirC ls) = ls ∧ okM ls = 0 ∧ okM (mirC ls) = 0 := by
  have e := (mirC_ok h).1
  have hv : validB (mirC ls) = true := by
    rw [e]
    obtain ⟨h1, h2, h3, h4⟩ := validB_len h
    refine (validB_alls (z := tot ls / 2) (by rw [List.length_map]; exact h1) h3 ?_).1
    have hf : (ls.map negR).flatten = ls.flatten.map fun x => -x := by
      rw [List.map_flatten]
      rfl
    rw [hf]
    refine nodup_sub_perm ?_ (fun x hx => ?_) (by rw [length_alls, List.length_map, length_flatten]; omega)
    · have hn := h4.2
      unfold List.Nodup at *
      rw [List.pairwise_map]
      exact hn.imp (fun hne => by omega)
    · obtain ⟨y, hy, rfl⟩ := List.mem_map.1 hx
      have := h4.1 y hy
      exact mem_alls.2 (by omega)
  refine ⟨hv, ?_, (mirC_ok h).2, (mirC_ok hv).2⟩
  rw [(mirC_ok hv).1, e, List.map_map]
  conv => rhs; rw [← List.map_id ls]
  refine List.map_congr_left (fun l _ => ?_)
  show negR (negR l) = l
  unfold negR
  rw [List.map_map]
  conv => rhs; rw [← List.map_id l]
  refine List.map_congr_left (fun x _ => ?_)
  show -(-x) = x
  omega
theorem cdE_in {ls : List (List Int)} (h : validB ls = true) {k : Int} (h0 : 0 ≤ k) (h1 : k < ls.length) : cdE ls [k] = 0 := by
  rw [cdE_one, h, if_pos rfl, if_pos (by omega)]
theorem cdE_empty {ls : List (List Int)} (h : validB ls = true) (h0 : ls.length = 0) : cdE ls [0] = 2 := by
  rw [cdE_one, h, if_pos rfl, if_neg (by omega)]
theorem back_valid {ls : List (List Int)} (h : validB ls = true) {k : Nat} (hk : k < ls.length) : cdE ls [(k : Int)] = 0 ∧ validB (backC ls k) = true ∧ cdE (backC ls k) [(k : Int)] = 0 ∧ backC (backC ls k) k = ls := by
  have h1 := cdE_in h (k := (k : Int)) (by omega) (by omega)
  have e := backC_ok h1
  have hv : validB (backC ls k) = true := by
    rw [e]
    exact validB_like h (by rw [List.length_set]) (perm_set_flatten hk (List.reverse_perm _))
  have hl : (backC ls k).length = ls.length := by rw [e, List.length_set]
  have h2 := cdE_in hv (k := (k : Int)) (by omega) (by omega)
  refine ⟨h1, hv, h2, ?_⟩
  rw [backC_ok h2, e]
  have hg : (ls.set k (ls.getD k []).reverse).getD k [] = (ls.getD k []).reverse := by simp [List.getD, hk]
  rw [hg, List.reverse_reverse, List.set_set]
  refine ext_getD [] (by rw [List.length_set]) fun j hj => ?_
  by_cases ej : k = j
  · subst ej; simp [List.getD, hk]
  · simp [List.getD, List.getElem?_set_ne ej]
theorem rot_perm (l : List Int) (b : Nat) : (rot l b).Perm l := by
  unfold rot
  refine List.perm_append_comm.trans ?_
  rw [List.take_append_drop]
theorem rot_rot {l : List Int} {b c : Nat} (hb : b ≤ l.length) (hc : c = l.length - b ∨ (b = 0 ∧ c = 0)) : rot (rot l b) c = l := by
  rcases hc with rfl | ⟨rfl, rfl⟩
  · unfold rot
    have h1 : l.length - b = (l.drop b).length := by rw [List.length_drop]
    rw [List.drop_append_of_le_length (by omega), List.take_append_of_le_length (by omega), h1, List.drop_length, List.take_length, List.nil_append, List.take_append_drop]
  · simp [rot]
theorem turn_valid {ls : List (List Int)} (h : validB ls = true) {k b : Nat} (hk : k < ls.length) (hb : b ≤ 1000) : tE ls k b = 0 ∧ validB (turnC ls k b) = true ∧ (turnC ls k b).length = ls.length ∧ (turnC ls k b).getD k [] = rot (ls.getD k []) (b % (ls.getD k []).length) := by
  have h1 := cdE_in h (k := (k : Int)) (by omega) (by omega)
  have h2 : tE ls k b = 0 := tE_ok h1 (by omega)
  have e := turnC_ok h2
  refine ⟨h2, ?_, ?_, ?_⟩
  · rw [e]; exact validB_like h (by rw [List.length_set]) (perm_set_flatten hk (rot_perm _ _))
  · rw [e, List.length_set]
  · rw [e]; simp [List.getD, hk]
theorem turn_back {ls : List (List Int)} (h : validB ls = true) {k b c : Nat} (hk : k < ls.length) (hb : b ≤ 1000) (hc : c ≤ 1000) (hr : (ls.getD k []).length = 0 ∧ c = 0 ∨ 0 < (ls.getD k []).length ∧ c = ((ls.getD k []).length - b % (ls.getD k []).length) % (ls.getD k []).length) :
    tE (turnC ls k b) k c = 0 ∧ turnC (turnC ls k b) k c = ls := by
  obtain ⟨h1, h2, h3, h4⟩ := turn_valid h hk hb
  obtain ⟨g1, g2, g3, g4⟩ := turn_valid h2 (k := k) (b := c) (by omega) hc
  refine ⟨g1, ?_⟩
  rw [turnC_ok g1, h4, length_rot, turnC_ok h1, List.set_set]
  have hrr : rot (rot (ls.getD k []) (b % (ls.getD k []).length)) (c % (ls.getD k []).length) = ls.getD k [] := by
    rcases hr with ⟨h0, rfl⟩ | ⟨h0, hc2⟩
    · rw [List.eq_nil_of_length_eq_zero h0]
      simp [rot]
    · have hm := Nat.mod_lt b h0
      refine rot_rot (by omega) ?_
      rw [hc2, Nat.mod_mod]
      by_cases hz : b % (ls.getD k []).length = 0
      · right
        rw [hz, Nat.sub_zero, Nat.mod_self]
        exact ⟨rfl, rfl⟩
      · left
        exact Nat.mod_eq_of_lt (by omega)
  rw [hrr]
  refine ext_getD [] (by rw [List.length_set]) fun j hj => ?_
  by_cases ej : k = j
  · subst ej; simp [List.getD, hk]
  · simp [List.getD, List.getElem?_set_ne ej]
/-- the code of a panel is valid, and alternates -/
theorem nodup_flags {ps : List (Int × Bool)} (h : List.Pairwise (fun p q => p ≠ q) ps) (hb : ∀ q ∈ ps, 0 ≤ q.1) : (ps.map cdI).Nodup := by
  unfold List.Nodup
  rw [List.pairwise_map]
  refine List.Pairwise.imp_of_mem ?_ h
  intro p q hp hq hne he
  have h1 := hb p hp
  have h2 := hb q hq
  apply hne
  obtain ⟨x, o⟩ := p
  obtain ⟨y, o'⟩ := q
  cases o <;> cases o'
  · rw [cdI_no rfl, cdI_no rfl] at he; simp only at *; rw [show x = y by omega]
  · rw [cdI_no rfl, cdI_yes rfl] at he; simp only at *; omega
  · rw [cdI_yes rfl, cdI_no rfl] at he; simp only at *; omega
  · rw [cdI_yes rfl, cdI_yes rfl] at he; simp only at *; rw [show x = y by omega]
theorem codL_flatten {a b : Int} {l : List Int} (hk : okP a b l = true) : ∀ n, n ≤ cnt a b l → (codL a b l n).flatten = (preP a b l n).map cdI
  | 0, _ => rfl
  | n + 1, h => by
    rw [codL_succ, List.flatten_append, List.flatten_singleton, codL_flatten hk n (by omega), preP_succ (by omega), List.map_append]
    unfold rowC
    rw [psL_nat hk (by omega)]
theorem allP_all {a b : Int} {l : List Int} (hk : okP a b l = true) : ((allP a b l).map cdI).Perm (alls (zlen l l.length)) := by
  have hs := okP_size hk
  have hr : ∀ q ∈ allP a b l, 0 ≤ q.1 ∧ q.1 < (zlen l l.length : Int) := fun q hq => pas_rng hk (fun w hw => allW_VW hs hw) hq
  have hn := nodup_flags (allP_nodup hs) (fun q hq => (hr q hq).1)
  refine nodup_sub_perm hn (fun x hx => ?_) ?_
  · obtain ⟨q, hq, rfl⟩ := List.mem_map.1 hx
    have := hr q hq
    rw [mem_alls]
    cases ho : q.2 with
    | true => rw [cdI_yes ho]; omega
    | false => rw [cdI_no ho]; omega
  · refine nodup_sub_len (nodup_alls _) (fun x hx => ?_)
    obtain ⟨h0, h1, h2⟩ := mem_alls.1 hx
    rw [List.mem_map]
    rcases Int.lt_or_gt_of_ne h0 with h3 | h3
    · obtain ⟨m, hm⟩ := Int.eq_ofNat_of_zero_le (show 0 ≤ -x - 1 by omega)
      exact ⟨_, allP_mem hk (x := m) (by omega) false, by rw [cdI_no rfl]; simp only; omega⟩
    · obtain ⟨m, hm⟩ := Int.eq_ofNat_of_zero_le (show 0 ≤ x - 1 by omega)
      exact ⟨_, allP_mem hk (x := m) (by omega) true, by rw [cdI_yes rfl]; simp only; omega⟩
theorem zlen_cnt112 {a b : Int} {l : List Int} (hk : okP a b l = true) : zlen l l.length ≤ 112 := by
  have h1 := zlen_le l l.length
  have h2 := okP_inn hk
  have h3 := inn_eq (okP_size hk)
  omega
theorem cod_valid {a b : Int} {l : List Int} (hk : okP a b l = true) (hn : cnt a b l ≤ 40) : validB (codL a b l (cnt a b l)) = true ∧ tot (codL a b l (cnt a b l)) = 2 * zlen l l.length :=
  validB_alls (by rw [length_codL]; exact hn) (by have := zlen_cnt112 hk; omega) (by rw [codL_flatten hk _ (Nat.le_refl _), preP_all]; exact allP_all hk)
theorem alt_orb {a b : Int} {l : List Int} {w : Wk} (hk : okP a b l = true) (hw : VW a b w) : ∀ n, sgm (itr (stp a b l) n w) = (if (pasL a b l (orbTo a b l w n)).length % 2 = 0 then sgm w else -sgm w) ∧
    ∀ k, k < (pasL a b l (orbTo a b l w n)).length → ((pasL a b l (orbTo a b l w n)).getD k (0, false)).2 = decide ((if k % 2 = 0 then sgm w else -sgm w) = 1)
  | 0 => ⟨rfl, fun k hk => absurd hk (Nat.not_lt_zero _)⟩
  | n + 1 => by
    have hs := okP_size hk
    obtain ⟨ih1, ih2⟩ := alt_orb hk hw n
    have hv := VW_itr (l := l) hs.1 hs.2.2.1 hw n
    rw [orbTo_succ]
    by_cases hc : CrAt a b l ((itr (stp a b l) n w).1 + (itr (stp a b l) n w).2.2.1) ((itr (stp a b l) n w).2.1 + (itr (stp a b l) n w).2.2.2)
    · rw [pasL_yes hc]
      generalize hps : pasL a b l (orbTo a b l w n) = ps at *
      refine ⟨?_, fun k hk => ?_⟩
      · show sgm (stp a b l (itr (stp a b l) n w)) = _
        rw [sgm_cross hv hc, ih1, List.length_append, List.length_singleton]
        by_cases h2 : ps.length % 2 = 0
        · rw [if_pos h2, if_neg (by omega)]
        · rw [if_neg h2, if_pos (by omega), Int.neg_neg]
      · rw [List.length_append, List.length_singleton] at hk
        rcases Nat.lt_or_ge k ps.length with h3 | h3
        · rw [← ih2 k h3]
          simp [List.getD, List.getElem?_append_left h3]
        · have e : k = ps.length := by omega
          subst e
          rw [← ih1, ← sgm_over hv]
          simp [List.getD]
    · rw [pasL_no hc]
      refine ⟨?_, ih2⟩
      show sgm (stp a b l (itr (stp a b l) n w)) = _
      rw [sgm_bounce hk hv hc]
      exact ih1
theorem pos_cdI {x : Int × Bool} (h : 0 ≤ x.1) : decide (0 < cdI x) = x.2 := by
  cases hx : x.2 with
  | true => rw [cdI_yes hx]; exact decide_eq_true (by omega)
  | false => rw [cdI_no hx]; exact decide_eq_false (by omega)
theorem row_alt {a b : Int} {l : List Int} (hk : okP a b l = true) {c : Nat} (hc : c < cnt a b l) : altRow (rowC a b l c) := by
  have hs := okP_size hk
  have hT := allTI (l := l) hs.1 hs.2.2.1
  have hn := segN_pos hs.1 hs.2.2.1
  obtain ⟨k, h1, h2, _⟩ := hT.head c hc
  have hw := (wkAt_spec (a := a) hs.2.2.1 (show (0 : Int) ≤ k by omega) (by omega)).1
  obtain ⟨h3, h4⟩ := alt_orb hk hw (per a b l (wkAt b k))
  rw [(per_spec hs.1 hs.2.2.1 hw).1, ← orb_eq, ← h2] at h3
  rw [← orb_eq, ← h2] at h4
  have hsg := sgm_bd hw
  have hps := psL_nat hk hc
  have hbd : ∀ q ∈ psL a b l (c : Int), 0 ≤ q.1 := fun q hq => (psL_bd hq).1
  unfold rowC
  rw [← hps] at h3 h4
  intro j hj
  rw [List.length_map] at *
  generalize psL a b l (c : Int) = ps at *
  have hm := Nat.mod_lt (j + 1) (show 0 < ps.length by omega)
  rw [getD_map cdI ps j (0, false) 0 hj, getD_map cdI ps _ (0, false) 0 hm, pos_cdI (hbd _ (mem_getD _ hj)), pos_cdI (hbd _ (mem_getD _ hm)), h4 j hj, h4 _ hm]
  have hev : ps.length % 2 = 0 := by
    by_cases h5 : ps.length % 2 = 0
    · exact h5
    · rw [if_neg h5] at h3; omega
  rw [decide_eq_decide]
  by_cases e : j + 1 < ps.length
  · rw [Nat.mod_eq_of_lt e]
    by_cases h6 : j % 2 = 0
    · rw [if_pos h6, if_neg (by omega)]; omega
    · rw [if_neg h6, if_pos (by omega)]; omega
  · have e2 : j + 1 = ps.length := by omega
    rw [e2, Nat.mod_self, if_neg (by omega), if_pos (by omega)]
    omega
theorem cod_alt {a b : Int} {l : List Int} (hk : okP a b l = true) (hn : cnt a b l ≤ 40) : altC (codL a b l (cnt a b l)) = true :=
  altC_true (cod_valid hk hn).1 (k := (codL a b l (cnt a b l)).length) (by omega) (fun j hj => by
    rw [length_codL] at hj
    have e : (codL a b l (cnt a b l)).getD j [] = rowC a b l j := by
      unfold codL
      simp [List.getD, hj]
    rw [e]
    exact row_alt hk hj)
/-- no curve is shorter than three segments -/
theorem two_len {a b : Int} {l : List Int} (hs : SizeOk a b) {c : Nat} (hc : c < (curL a b l).length) : 3 ≤ ((curL a b l).getD c []).length := by
  have hT := allTI (l := l) hs.1 hs.2.2.1
  have hn := segN_pos hs.1 hs.2.2.1
  obtain ⟨k, h1, h2, _⟩ := hT.head c hc
  have hw := (wkAt_spec (a := a) hs.2.2.1 (show (0 : Int) ≤ k by omega) (by omega)).1
  have hp := per_spec (l := l) hs.1 hs.2.2.1 hw
  rw [show (curL a b l).getD c [] = _ from h2, orb_eq, length_orbTo]
  have e1 : ¬ per a b l (wkAt b k) = 1 := fun e => by
    have h5 := hp.1
    rw [e] at h5
    have h6 : stp a b l (wkAt b k) = wkAt b k := h5
    have hd := dir_cases hw
    generalize wkAt b k = w at *
    obtain ⟨x, y, dx, dy⟩ := w
    rw [stp_mk] at h6
    have h7 := congrArg (fun w : Wk => w.1) h6
    simp only at h7 hd
    omega
  have e2 : ¬ per a b l (wkAt b k) = 2 := fun e => by
    have h5 := hp.1
    rw [e] at h5
    have h6 : stp a b l (stp a b l (wkAt b k)) = wkAt b k := h5
    have hd := dir_cases hw
    generalize wkAt b k = w at *
    obtain ⟨x, y, dx, dy⟩ := w
    have hfb := fl_not_both (l := l) (VW_mk.1 hw).2.2.2
    rw [stp_mk (x := x), stp_mk] at h6
    have h7 := congrArg (fun w : Wk => w.1) h6
    have h8 := congrArg (fun w : Wk => w.2.1) h6
    simp only at h7 h8 hd
    by_cases f1 : FlX a b l (x + dx) (y + dy)
    · have f2 : ¬ FlY a b l (x + dx) (y + dy) := fun f2 => hfb f1 f2
      rw [if_neg f2] at h8
      omega
    · rw [if_neg f1] at h7
      omega
  omega
theorem flat_two {α : Type} : ∀ {ls : List (List α)}, (∀ l ∈ ls, 3 ≤ l.length) → 3 * ls.length ≤ ls.flatten.length
  | [], _ => Nat.zero_le _
  | l :: ls, h => by
    have ih := flat_two (ls := ls) (fun m hm => h m (List.mem_cons_of_mem _ hm))
    have h1 := h l (List.mem_cons_self ..)
    rw [List.flatten_cons, List.length_append, List.length_cons]
    omega
theorem cnt_half {a b : Int} {l : List Int} (hs : SizeOk a b) : 3 * cnt a b l ≤ segN a b := by
  have h1 : 3 * cnt a b l ≤ (allW a b l).length := flat_two (fun x hx => by
    obtain ⟨c, hc, rfl⟩ := mem_getDL hx
    exact two_len hs hc)
  have h2 : ((allW a b l).map (sg b)).Nodup := by
    unfold List.Nodup
    rw [List.pairwise_map]
    exact allW_pw hs
  have h3 := nodup_sub_len h2 (M := (List.range (segN a b)).map (fun (k : Nat) => (k : Int))) (fun x hx => by
    obtain ⟨w, hw, rfl⟩ := List.mem_map.1 hx
    have h4 := sg_bd (allW_VW hs hw)
    have h5 := segN_pos hs.1 hs.2.2.1
    exact List.mem_map.2 ⟨(sg b w).toNat, List.mem_range.2 (by omega), by omega⟩)
  rw [List.length_map, List.length_map, List.length_range] at h3
  omega
theorem cnt_40 {a b : Int} {l : List Int} (hs : SizeOk a b) (ha : a ≤ 4) (hb : b ≤ 4) : cnt a b l ≤ 40 := by
  have h1 := cnt_half (l := l) hs
  obtain ⟨h2, h3, h4⟩ := segN_le hs
  have h5 : a * b ≤ 16 := by
    obtain ⟨s1, s2, s3, s4⟩ := hs
    have : a = 1 ∨ a = 2 ∨ a = 3 ∨ a = 4 := by omega
    rcases this with rfl | rfl | rfl | rfl <;> omega
  rw [Int.mul_assoc] at h3
  omega
theorem cnt_5 {a b : Int} {l : List Int} (hs : SizeOk a b) (ha : a ≤ 5) (hb : b ≤ 5) : cnt a b l ≤ 40 := by
  have h1 := cnt_half (l := l) hs
  obtain ⟨h2, h3, h4⟩ := segN_le hs
  have h5 : a * b ≤ 25 := by
    obtain ⟨s1, s2, s3, s4⟩ := hs
    have : a = 1 ∨ a = 2 ∨ a = 3 ∨ a = 4 ∨ a = 5 := by omega
    rcases this with rfl | rfl | rfl | rfl | rfl <;> omega
  rw [Int.mul_assoc] at h3
  omega

end Go.Proofs.Ytmfinopdokkjcaa
