/- Contracts of functions, printed by program from annotations. -/
import Derived.Test.YtmfinopdokkjcaaMpN
import Derived.Test.YtmfinopdokkjcaaTab4
import Derived.Test.YtmfinopdokkjcaaMpE
import Derived.Test.YtmfinopdokkjcaaLawCn
namespace Go.Proofs.Ytmfinopdokkjcaa
open Go Go.AW Go.RowKit
set_option linter.unusedVariables false
set_option linter.unusedSimpArgs false

/-- the sum of the first entries -/
def asTo (t : List Int) : Nat → Int
  | 0 => 0
  | k + 1 => asTo t k + t.getD k 0
theorem grow_getD (t : List Int) (c k : Nat) : (grow t c).getD k 0 = t.getD k 0 := by
  unfold grow
  rcases Nat.lt_or_ge k t.length with h | h
  · rw [List.getD, List.getElem?_append_left h]; rfl
  · rw [List.getD, List.getElem?_append_right h, List.getD, List.getElem?_eq_none h]
    rw [List.getElem?_replicate]
    split <;> rfl
theorem bump_getD (t : List Int) (c k : Nat) : (bump t c).getD k 0 = t.getD k 0 + (if k = c then 1 else 0) := by
  have hl := length_grow t c
  unfold bump
  by_cases e : k = c
  · subst e
    rw [getD_set_eq (by omega), grow_getD, if_pos rfl]
  · rw [getD_set_ne (fun h => e h.symm), grow_getD, if_neg e, Int.add_zero]
theorem bump_comm (t : List Int) (c d : Nat) : bump (bump t c) d = bump (bump t d) c := by
  refine ext_getD 0 (by rw [length_bump, length_bump, length_bump, length_bump]; omega) (fun j _ => ?_)
  rw [bump_getD, bump_getD, bump_getD, bump_getD]
  omega
theorem as_bump (t : List Int) (c : Nat) : ∀ k, asTo (bump t c) k = asTo t k + (if c < k then 1 else 0)
  | 0 => by rw [if_neg (Nat.not_lt_zero _)]; rfl
  | k + 1 => by
    show asTo (bump t c) k + (bump t c).getD k 0 = asTo t k + t.getD k 0 + _
    rw [as_bump t c k, bump_getD]
    by_cases h1 : c < k
    · rw [if_pos h1, if_neg (by omega), if_pos (by omega)]; omega
    · by_cases h2 : k = c
      · rw [if_neg h1, if_pos h2, if_pos (by omega)]; omega
      · rw [if_neg h1, if_neg h2, if_neg (by omega)]; omega
theorem as_over {t : List Int} : ∀ {k : Nat}, t.length ≤ k → asTo t k = asTo t t.length
  | 0, h => by rw [show t.length = 0 by omega]
  | k + 1, h => by
    rcases Nat.lt_or_ge k t.length with h1 | h1
    · rw [show k + 1 = t.length by omega]
    · show asTo t k + t.getD k 0 = _
      rw [as_over h1, List.getD, List.getElem?_eq_none h1]
      exact Int.add_zero _
theorem tab_sum (a b : Int) : ∀ m, asTo (tabTo a b m) (tabTo a b m).length = m
  | 0 => rfl
  | m + 1 => by
    show asTo (bump (tabTo a b m) (cntN a b m)) (bump (tabTo a b m) (cntN a b m)).length = _
    rw [as_bump, if_pos (by rw [length_bump]; omega), as_over (t := tabTo a b m) (by rw [length_bump]; omega), tab_sum a b m]
    omega
theorem tab_at (a b : Int) (c : Nat) : ∀ m, (tabTo a b m).getD c 0 = ((List.range m).countP (fun i => decide (cntN a b i = c)) : Nat)
  | 0 => rfl
  | m + 1 => by
    show (bump (tabTo a b m) (cntN a b m)).getD c 0 = _
    rw [bump_getD, tab_at a b c m, List.range_succ, List.countP_append]
    by_cases h : cntN a b m = c
    · rw [if_pos h.symm, List.countP_cons_of_pos (by exact decide_eq_true h)]; rfl
    · rw [if_neg (fun e => h e.symm), List.countP_cons_of_neg (by simpa using h)]; rfl
theorem tab_zero {a b : Int} (hs : SizeOk a b) : ∀ m, (tabTo a b m).getD 0 0 = 0
  | 0 => rfl
  | m + 1 => by
    have h := cntN_bd hs m
    show (bump (tabTo a b m) (cntN a b m)).getD 0 0 = 0
    rw [bump_getD, tab_zero hs m, if_neg (by omega)]
    rfl
theorem tab_len {a b : Int} (hs : SizeOk a b) {m : Nat} (h : 1 ≤ m) : 1 < (tabTo a b m).length := by
  obtain ⟨k, rfl⟩ : ∃ k, m = k + 1 := ⟨m - 1, by omega⟩
  have h2 := cntN_bd hs k
  show 1 < (bump (tabTo a b k) (cntN a b k)).length
  rw [length_bump]
  omega
theorem as_set {t : List Int} {c : Nat} (hc : c < t.length) : ∀ k, asTo (t.set c (t.getD c 0 + 1)) k = asTo t k + (if c < k then 1 else 0)
  | 0 => by rw [if_neg (Nat.not_lt_zero _)]; rfl
  | k + 1 => by
    show asTo (t.set c (t.getD c 0 + 1)) k + (t.set c (t.getD c 0 + 1)).getD k 0 = asTo t k + t.getD k 0 + _
    rw [as_set hc k]
    by_cases h2 : c = k
    · subst h2
      rw [getD_set_eq hc, if_neg (Nat.lt_irrefl _), if_pos (Nat.lt_succ_self _)]; omega
    · rw [getD_set_ne h2]
      by_cases h1 : c < k
      · rw [if_pos h1, if_pos (by omega)]; omega
      · rw [if_neg h1, if_neg (by omega)]; omega
theorem as_rep (n : Nat) : ∀ k, asTo (List.replicate n 0) k = 0
  | 0 => rfl
  | k + 1 => by
    show asTo (List.replicate n 0) k + (List.replicate n (0 : Int)).getD k 0 = 0
    rw [as_rep n k, List.getD, List.getElem?_replicate]
    split <;> rfl
theorem mt_sum (a b : Int) : ∀ m, asTo (mtTo a b m) (inn a b + 1) = (tabTo a b m).getD 1 0
  | 0 => as_rep _ _
  | m + 1 => by
    have ih := mt_sum a b m
    have h1 := mrP_le a b m
    have h2 := length_mt a b m
    show _ = (bump (tabTo a b m) (cntN a b m)).getD 1 0
    rw [bump_getD, ← ih]
    by_cases h : cntN a b m = 1
    · rw [mtTo_yes h, as_set (by omega), if_pos (by omega), if_pos h.symm]
    · rw [mtTo_no h, if_neg (fun e => h e.symm), Int.add_zero]
/-- the number of the panel with its sides exchanged -/
def swN (a b : Int) (i : Nat) : Nat := (numTo (mapL 4 a b (pdig i (inn a b))) (inn a b)).toNat
theorem sw_dig {a b : Int} (hs : SizeOk a b) (i : Nat) : pdig (swN a b i) (inn a b) = mapL 4 a b (pdig i (inn a b)) := by
  obtain ⟨-, -, hx⟩ := okP_spec (mapL_ok (s := 4) (by decide) (okP_pdig hs i))
  have h5 := (pdig_num _ hx).2.2
  rw [length_mapL] at h5
  exact h5
theorem sw_lt {a b : Int} (hs : SizeOk a b) (hm : many a b ≤ 2500) (i : Nat) : swN a b i < many a b := by
  have := num_in (s := 4) (by decide) hs hm i
  unfold swN
  omega
theorem dig_inj {n i j : Nat} (hi : i < p3 n) (hj : j < p3 n) (h : pdig i n = pdig j n) : i = j := by
  have h1 := numTo_pdig i n
  have h2 := numTo_pdig j n
  rw [Nat.mod_eq_of_lt hi] at h1
  rw [Nat.mod_eq_of_lt hj, ← h, h1] at h2
  omega
theorem sw_inj {a b : Int} (hs : SizeOk a b) (hm : many a b ≤ 2500) {i j : Nat} (hi : i < many a b) (hj : j < many a b) (h : swN a b i = swN a b j) : i = j := by
  have h1 := sw_dig hs i
  rw [h, sw_dig hs j] at h1
  have b1 := (mapL_comp (s := 4) (t := 4) (by decide) (by decide) (okP_pdig hs i)).trans (mapL_zero (okP_pdig hs i))
  have b2 := (mapL_comp (s := 4) (t := 4) (by decide) (by decide) (okP_pdig hs j)).trans (mapL_zero (okP_pdig hs j))
  rw [← h1] at b1
  have h3 := b1.symm.trans b2
  exact dig_inj (n := inn a b) (by rw [many_p3 hm]; exact hi) (by rw [many_p3 hm]; exact hj) h3
theorem cnt_sw {a b : Int} (hs : SizeOk a b) (i : Nat) : cntN b a (swN a b i) = cntN a b i := by
  have h := cnt_swp (okP_pdig hs i)
  rw [← sw_dig hs i] at h
  unfold cntN
  rw [inn_swap]
  exact h
theorem sub_perm : ∀ {L M : List Nat}, L.Nodup → (∀ x ∈ L, x ∈ M) → M.length ≤ L.length → L.Perm M
  | [], M, _, _, hl => by rw [List.eq_nil_of_length_eq_zero (l := M) (by simpa using hl)]
  | x :: L, M, h, hs, hl => by
    rw [List.nodup_cons] at h
    have hx := hs x (List.mem_cons_self ..)
    have hp := List.perm_cons_erase hx
    have e := hp.length_eq
    simp only [List.length_cons] at *
    have ih := sub_perm (L := L) (M := M.erase x) h.2 (fun y hy => by
      have hy2 := hs y (List.mem_cons_of_mem _ hy)
      rw [List.mem_erase_of_ne (by rintro rfl; exact h.1 hy)]
      exact hy2) (by omega)
    exact (List.Perm.cons x ih).trans hp.symm
theorem sw_perm {a b : Int} (hs : SizeOk a b) (hm : many a b ≤ 2500) : ((List.range (many a b)).map (swN a b)).Perm (List.range (many a b)) := by
  refine sub_perm ?_ (fun x hx => ?_) (by simp)
  · unfold List.Nodup
    rw [List.pairwise_map]
    refine List.Pairwise.imp_of_mem ?_ List.nodup_range
    intro i j hi hj hne he
    exact hne (sw_inj hs hm (List.mem_range.1 hi) (List.mem_range.1 hj) he)
  · obtain ⟨i, -, rfl⟩ := List.mem_map.1 hx
    exact List.mem_range.2 (sw_lt hs hm i)
theorem tab_fold (a b : Int) : ∀ m, tabTo a b m = ((List.range m).map (cntN a b)).foldl bump []
  | 0 => rfl
  | m + 1 => by
    rw [List.range_succ, List.map_append, List.foldl_append, ← tab_fold a b m]
    rfl
theorem fold_perm {L M : List Nat} (h : L.Perm M) : ∀ t : List Int, L.foldl bump t = M.foldl bump t := by
  induction h with
  | nil => intro t; rfl
  | cons x _ ih => intro t; exact ih _
  | swap x y l => intro t; show List.foldl bump (bump (bump t y) x) l = List.foldl bump (bump (bump t x) y) l; rw [bump_comm]
  | trans _ _ h1 h2 => intro t; rw [h1, h2]
theorem many_swap (a b : Int) : many b a = many a b := by unfold many; rw [inn_swap]
theorem tab_swap {a b : Int} (hs : SizeOk a b) (hm : many a b ≤ 2500) : tabTo b a (many b a) = tabTo a b (many a b) := by
  rw [many_swap, tab_fold, tab_fold]
  have e : (List.range (many a b)).map (cntN a b) = ((List.range (many a b)).map (swN a b)).map (cntN b a) := by
    rw [List.map_map]
    refine List.map_congr_left (fun i _ => ?_)
    exact (cnt_sw hs i).symm
  rw [e]
  exact (fold_perm ((sw_perm hs hm).map (cntN b a)) []).symm
theorem pcE_swap (a b : Int) : pcE b a = pcE a b := by
  unfold pcE
  rw [many_swap]
  have h : SizeOk b a ↔ SizeOk a b := by unfold SizeOk; constructor <;> (intro h; omega)
  simp only [h]
theorem tabE_swap (a b : Int) : tabE b a = tabE a b := by
  by_cases h : pcE a b = 0
  · obtain ⟨hs, hm, -⟩ := pc_zero h
    rw [tabE_ok h, tabE_ok (by rw [pcE_swap]; exact h), tab_swap hs hm]
  · rw [tabE_bad h, tabE_bad (by rw [pcE_swap]; exact h)]
theorem key_le (a b : Int) : ∀ n, (keyA a b n).length ≤ n
  | 0 => Nat.le_refl _
  | n + 1 => by
    have ih := key_le a b n
    show (addK (keyA a b n) (ptT (caP a b n))).length ≤ n + 1
    unfold addK
    split
    · omega
    · rw [List.length_append, List.length_singleton]; omega
/-- the numbers whose text was new -/
noncomputable def repA (a b : Int) : Nat → List Nat
  | 0 => []
  | n + 1 => @ite _ (ptT (caP a b n) ∈ keyA a b n) (Classical.propDecidable _) (repA a b n) (repA a b n ++ [n])
theorem rep_spec (a b : Int) : ∀ n, (repA a b n).length = (keyA a b n).length ∧ ∀ x ∈ keyA a b n, ∃ r ∈ repA a b n, x = ptT (caP a b r)
  | 0 => ⟨rfl, fun x hx => by cases hx⟩
  | n + 1 => by
    obtain ⟨h1, h2⟩ := rep_spec a b n
    by_cases h : ptT (caP a b n) ∈ keyA a b n
    · rw [show repA a b (n + 1) = repA a b n from @if_pos _ (Classical.propDecidable _) h _ _ _, show keyA a b (n + 1) = keyA a b n from addK_yes h]
      exact ⟨h1, h2⟩
    · rw [show repA a b (n + 1) = repA a b n ++ [n] from @if_neg _ (Classical.propDecidable _) h _ _ _, show keyA a b (n + 1) = keyA a b n ++ [ptT (caP a b n)] from addK_no h]
      refine ⟨by rw [List.length_append, List.length_append, h1]; rfl, fun x hx => ?_⟩
      rcases List.mem_append.1 hx with hx | hx
      · obtain ⟨r, g1, g2⟩ := h2 x hx
        exact ⟨r, List.mem_append_left _ g1, g2⟩
      · exact ⟨n, List.mem_append_right _ (List.mem_singleton.2 rfl), List.mem_singleton.1 hx⟩
theorem flat8 {f : Nat → Nat → Nat} : ∀ L : List Nat, (L.flatMap fun r => (List.range 8).map (f r)).length = 8 * L.length
  | [] => rfl
  | x :: L => by rw [List.flatMap_cons, List.length_append, flat8 L, List.length_map, List.length_range, List.length_cons]; omega
theorem key_eight {a b : Int} (hs : SizeOk a b) (hm : many a b ≤ 2500) : many a b ≤ 8 * (keyA a b (many a b)).length := by
  obtain ⟨h1, h2⟩ := rep_spec a b (many a b)
  rw [← h1, ← flat8 (f := fun r s => (numTo (mapL s a b (pdig r (inn a b))) (inn a b)).toNat)]
  have hp : ((List.range (many a b)).map fun (k : Nat) => (k : Int)).length ≤ (((repA a b (many a b)).flatMap fun r => (List.range 8).map fun s => (numTo (mapL s a b (pdig r (inn a b))) (inn a b)).toNat).map fun (k : Nat) => (k : Int)).length := by
    refine nodup_len ?_ (fun x hx => ?_)
    · unfold List.Nodup
      rw [List.pairwise_map]
      exact List.Pairwise.imp (fun h e => h (by omega)) List.nodup_range
    · obtain ⟨j, hj, rfl⟩ := List.mem_map.1 hx
      have hj := List.mem_range.1 hj
      obtain ⟨r, hr, e⟩ := h2 (ptT (caP a b j)) (mem_keyA.2 ⟨j, hj, rfl⟩)
      have o1 := caP_ok hs j
      have o2 := caP_ok hs r
      have him := (ca_iff hs r j).1 (ptT_inj o1.1 o2.1 (o1.2.trans o2.2.symm) e).symm
      obtain ⟨s, g1, -, g3⟩ := (im_num hs hm hj).1 him
      exact List.mem_map.2 ⟨j, List.mem_flatMap.2 ⟨r, hr, List.mem_map.2 ⟨s, List.mem_range.2 g1, g3⟩⟩, rfl⟩
  rwa [List.length_map, List.length_map, List.length_range] at hp

end Go.Proofs.Ytmfinopdokkjcaa
