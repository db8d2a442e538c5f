/- Contracts of functions, printed by program from annotations. -/
import Derived.Test.YtmfinopdokkjcaaPss2
import Derived.Test.YtmfinopdokkjcaaPtL
namespace Go.Proofs.Ytmfinopdokkjcaa
open Go Go.AW Go.RowKit
set_option linter.unusedVariables false
set_option linter.unusedSimpArgs false

theorem tr_on {a b : Int} {l : List Int} (ha : 1 ≤ a) (hb : 1 ≤ b) : ∀ K, K ≤ segN a b → ∀ v, VW a b v → 0 ≤ (tr a b l K).1.getD (sg b v).toNat 0 → ∃ c u, c < (tr a b l K).2.length ∧ u ∈ (tr a b l K).2.getD c [] ∧ sg b u = sg b v
  | 0, _, v, hv, h => by
    exfalso
    have h1 := sg_bd hv
    have h2 := segN_pos ha hb
    have hg : (tr a b l 0).1.getD (sg b v).toNat 0 = -1 := by
      show (List.replicate (segN a b) (-1 : Int)).getD (sg b v).toNat 0 = -1
      simp [List.getD, show (sg b v).toNat < segN a b by omega]
    omega
  | K + 1, hK, v, hv, h => by
    have ih := tr_on (l := l) ha hb K (by omega) v hv
    have hT := tr_TI (l := l) ha hb K (by omega)
    by_cases hk : 0 ≤ (tr a b l K).1.getD K 0
    · rw [tr_keep hk] at h ⊢
      exact ih h
    · rw [tr_add hk] at h ⊢
      by_cases hm : ∃ u, u ∈ orb a b l (wkAt b K) ∧ (sg b u).toNat = (sg b v).toNat
      · obtain ⟨u, h1, h2⟩ := hm
        have hw := (wkAt_spec (a := a) hb (show (0 : Int) ≤ K by omega) (by have := segN_pos ha hb; omega)).1
        have h3 := ((mem_orb ha hb hw).1 h1).val ha hb hw
        have h4 := sg_bd h3
        have h5 := sg_bd hv
        refine ⟨(tr a b l K).2.length, u, by simp, ?_, by omega⟩
        simp only [List.getD, List.getElem?_append_right (Nat.le_refl _), Nat.sub_self]
        exact h1
      · have h1 : (paint b (tr a b l K).2.length (tr a b l K).1 (orb a b l (wkAt b K))).getD (sg b v).toNat 0 = (tr a b l K).1.getD (sg b v).toNat 0 := paint_out (fun u hu he => hm ⟨u, hu, he⟩)
        obtain ⟨c, u, h2, h3, h4⟩ := ih (by rw [← h1]; exact h)
        refine ⟨c, u, by simp only [List.length_append]; omega, ?_, h4⟩
        show u ∈ ((tr a b l K).2 ++ [orb a b l (wkAt b K)]).getD c []
        rw [getD_app h2]
        exact h3
theorem cur_own {a b : Int} {l : List Int} (ha : 1 ≤ a) (hb : 1 ≤ b) {c : Nat} (hc : c < (curL a b l).length) {u : Wk} (hu : u ∈ (curL a b l).getD c []) : (ownL a b l).getD (sg b u).toNat 0 = c := by
  have hT := allTI (l := l) ha hb
  have hn := segN_pos ha hb
  obtain ⟨k, h1, h2, h3, _⟩ := hT.head c hc
  have hw := wkAt_spec (a := a) hb (show (0 : Int) ≤ k by omega) (by omega)
  rw [h2] at hu
  obtain ⟨i, rfl⟩ := (mem_orb ha hb hw.1).1 hu
  rw [hT.along ha hb hw.1 i, hw.2, Int.toNat_natCast, h3]
theorem cur_stp {a b : Int} {l : List Int} (ha : 1 ≤ a) (hb : 1 ≤ b) {c : Nat} (hc : c < (curL a b l).length) {u : Wk} : u ∈ (curL a b l).getD c [] ↔ stp a b l u ∈ (curL a b l).getD c [] := by
  have hT := allTI (l := l) ha hb
  have hn := segN_pos ha hb
  obtain ⟨k, h1, h2, h3, _⟩ := hT.head c hc
  have hw := wkAt_spec (a := a) hb (show (0 : Int) ≤ k by omega) (by omega)
  rw [h2, mem_orb ha hb hw.1, mem_orb ha hb hw.1]
  exact ⟨On.next, On.prev ha hb hw.1⟩
theorem mem_getDL {α : Type} {L : List (List α)} {x : List α} (h : x ∈ L) : ∃ c, c < L.length ∧ L.getD c [] = x := by
  obtain ⟨c, hc, rfl⟩ := List.mem_iff_getElem.1 h
  exact ⟨c, hc, by simp [List.getD, List.getElem?_eq_getElem hc]⟩
/-- all walkers of all curves -/
def allW (a b : Int) (l : List Int) : List Wk := (curL a b l).flatten
theorem mem_allW {a b : Int} {l : List Int} {u : Wk} : u ∈ allW a b l ↔ ∃ c, c < (curL a b l).length ∧ u ∈ (curL a b l).getD c [] := by
  unfold allW
  rw [List.mem_flatten]
  constructor
  · rintro ⟨x, hx, hu⟩
    obtain ⟨c, hc, rfl⟩ := mem_getDL hx
    exact ⟨c, hc, hu⟩
  · rintro ⟨c, hc, hu⟩
    refine ⟨_, ?_, hu⟩
    simp [List.getD, List.getElem?_eq_getElem hc]
theorem allW_VW {a b : Int} {l : List Int} (hs : SizeOk a b) {u : Wk} (h : u ∈ allW a b l) : VW a b u := by
  obtain ⟨c, hc, hu⟩ := mem_allW.1 h
  exact cur_VW hs hc u hu
theorem allW_stp {a b : Int} {l : List Int} (hs : SizeOk a b) {u : Wk} : u ∈ allW a b l ↔ stp a b l u ∈ allW a b l := by
  rw [mem_allW, mem_allW]
  constructor
  · rintro ⟨c, hc, hu⟩
    exact ⟨c, hc, (cur_stp hs.1 hs.2.2.1 hc).1 hu⟩
  · rintro ⟨c, hc, hu⟩
    exact ⟨c, hc, (cur_stp hs.1 hs.2.2.1 hc).2 hu⟩
theorem allW_has {a b : Int} {l : List Int} (hs : SizeOk a b) {w : Wk} (hw : VW a b w) : w ∈ allW a b l ∨ bk w ∈ allW a b l := by
  have hT := allTI (l := l) hs.1 hs.2.2.1
  have h1 := sg_bd hw
  have h2 := segN_pos hs.1 hs.2.2.1
  obtain ⟨c, u, h3, h4, h5⟩ := tr_on (l := l) hs.1 hs.2.2.1 (segN a b) (Nat.le_refl _) w hw (hT.done _ (by omega))
  have h6 : u ∈ allW a b l := mem_allW.2 ⟨c, h3, h4⟩
  rcases sg_eq (allW_VW hs h6) hw h5 with h | h
  · exact .inl (h ▸ h6)
  · exact .inr (h ▸ h6)
theorem allW_pw {a b : Int} {l : List Int} (hs : SizeOk a b) : List.Pairwise (fun u v => sg b u ≠ sg b v) (allW a b l) := by
  have hT := allTI (l := l) hs.1 hs.2.2.1
  have hn := segN_pos hs.1 hs.2.2.1
  unfold allW
  rw [List.pairwise_flatten]
  constructor
  · intro x hx
    obtain ⟨c, hc, rfl⟩ := mem_getDL hx
    obtain ⟨k, h1, h2, h3, _⟩ := hT.head c hc
    have hw := (wkAt_spec (a := a) hs.2.2.1 (show (0 : Int) ≤ k by omega) (by omega)).1
    rw [h2]
    unfold orb
    rw [List.pairwise_map]
    refine List.Pairwise.imp_of_mem ?_ (List.pairwise_lt_range (n := per a b l (wkAt b k)))
    intro i j hi hj hij
    exact per_sg hs.1 hs.2.2.1 hw hij (List.mem_range.1 hj)
  · rw [List.pairwise_iff_getElem]
    intro i j hi hj hij u hu v hv he
    have e1 : (curL a b l).getD i [] = (curL a b l)[i] := by simp [List.getD, List.getElem?_eq_getElem hi]
    have e2 : (curL a b l).getD j [] = (curL a b l)[j] := by simp [List.getD, List.getElem?_eq_getElem hj]
    have h1 := cur_own (l := l) hs.1 hs.2.2.1 hi (u := u) (by rw [e1]; exact hu)
    have h2 := cur_own (l := l) hs.1 hs.2.2.1 hj (u := v) (by rw [e2]; exact hv)
    rw [he] at h1
    omega
theorem pw_eq {α : Type} {f : α → Int} : ∀ {L : List α}, List.Pairwise (fun u v => f u ≠ f v) L → ∀ {u v : α}, u ∈ L → v ∈ L → f u = f v → u = v
  | [], _, u, v, hu, _, _ => by cases hu
  | x :: L, h, u, v, hu, hv, he => by
    rw [List.pairwise_cons] at h
    rcases List.mem_cons.1 hu with h1 | h1
    · rcases List.mem_cons.1 hv with h2 | h2
      · rw [h1, h2]
      · exact absurd (by rw [← h1]; exact he) (h.1 v h2)
    · rcases List.mem_cons.1 hv with h2 | h2
      · exact absurd (by rw [← h2]; exact he.symm) (h.1 u h1)
      · exact pw_eq h.2 h1 h2 he
/-- a curve goes straight on over a crossing -/
theorem stp_cr {a b : Int} {l : List Int} {w : Wk} (hc : CrAt a b l (w.1 + w.2.2.1) (w.2.1 + w.2.2.2)) : stp a b l w = (w.1 + w.2.2.1, w.2.1 + w.2.2.2, w.2.2.1, w.2.2.2) := by
  obtain ⟨x, y, dx, dy⟩ := w
  obtain ⟨h1, h2⟩ := hc
  have hk : kd a b l (x + dx) (y + dy) = 0 := by unfold kd; rw [if_neg h1]; exact h2
  have n1 : ¬ FlX a b l (x + dx) (y + dy) := by
    unfold FlX Edge at *
    simp only at *
    omega
  have n2 : ¬ FlY a b l (x + dx) (y + dy) := by
    unfold FlY Edge at *
    simp only at *
    omega
  rw [stp_mk, if_neg n1, if_neg n2]
/-- whether a walker is to pass over (1) or under (-1) -/
def sgm (w : Wk) : Int := w.2.2.1 * w.2.2.2 * slp (w.1 + w.2.2.1)
theorem slp_next {x d : Int} (h : d = 1 ∨ d = -1) : slp (x + d) = -slp x := by
  by_cases h1 : x % 2 = 1
  · rw [slp_odd h1, slp_even (by omega)]
  · rw [slp_even h1, slp_odd (by omega)]
    rfl
theorem dir_cases {w : Wk} {a b : Int} (h : VW a b w) : (w.2.2.1 = 1 ∨ w.2.2.1 = -1) ∧ (w.2.2.2 = 1 ∨ w.2.2.2 = -1) := ⟨h.1, h.2.1⟩
theorem sgm_bd {a b : Int} {w : Wk} (h : VW a b w) : sgm w = 1 ∨ sgm w = -1 := by
  obtain ⟨h1, h2⟩ := dir_cases h
  unfold sgm
  rcases h1 with e1 | e1 <;> rcases h2 with e2 | e2 <;> rcases slp_bd (w.1 + w.2.2.1) with e3 | e3 <;> rw [e3] <;> rw [e1, e2] <;> decide
theorem sgm_over {a b : Int} {w : Wk} (h : VW a b w) : decide (w.2.2.1 * w.2.2.2 = slp (w.1 + w.2.2.1)) = decide (sgm w = 1) := by
  obtain ⟨h1, h2⟩ := dir_cases h
  unfold sgm
  rcases h1 with e1 | e1 <;> rcases h2 with e2 | e2 <;> rcases slp_bd (w.1 + w.2.2.1) with e3 | e3 <;> rw [e3] <;> rw [e1, e2] <;> decide
theorem sgm_cross {a b : Int} {l : List Int} {w : Wk} (hw : VW a b w) (hc : CrAt a b l (w.1 + w.2.2.1) (w.2.1 + w.2.2.2)) : sgm (stp a b l w) = -sgm w := by
  rw [stp_cr hc]
  unfold sgm
  show w.2.2.1 * w.2.2.2 * slp (w.1 + w.2.2.1 + w.2.2.1) = -(w.2.2.1 * w.2.2.2 * slp (w.1 + w.2.2.1))
  rw [slp_next (x := w.1 + w.2.2.1) hw.1, Int.mul_neg]
theorem kd_bd {a b : Int} {l : List Int} {x y : Int} (hk : okP a b l = true) (hp : PtOk a b x y) (he : ¬ Edge a b x y) : 0 ≤ kd a b l x y ∧ kd a b l x y ≤ 2 := by
  obtain ⟨hs, hl, hx⟩ := okP_spec hk
  have h1 := num_bd hs hp he
  unfold kd
  rw [if_neg he]
  exact hx _ (mem_getD 0 (by omega))
theorem sgm_bounce {a b : Int} {l : List Int} {w : Wk} (hk : okP a b l = true) (hw : VW a b w) (hc : ¬ CrAt a b l (w.1 + w.2.2.1) (w.2.1 + w.2.2.2)) : sgm (stp a b l w) = sgm w := by
  obtain ⟨x, y, dx, dy⟩ := w
  obtain ⟨h1, h2, h3, h4⟩ := VW_mk.1 hw
  simp only at hc
  have hor : FlX a b l (x + dx) (y + dy) ∨ FlY a b l (x + dx) (y + dy) := by
    by_cases he : Edge a b (x + dx) (y + dy)
    · unfold FlX FlY Edge at *
      omega
    · have hkd := kd_bd hk h4 he
      have h0 : ¬ kd a b l (x + dx) (y + dy) = 0 := fun h => hc ⟨he, by unfold kd at h; rw [if_neg he] at h; exact h⟩
      unfold FlX FlY
      omega
  have hnb := fl_not_both (l := l) h4
  unfold sgm
  rw [stp_mk]
  rcases hor with hf | hf
  · have hg : ¬ FlY a b l (x + dx) (y + dy) := fun h => hnb hf h
    rw [if_pos hf, if_neg hg]
    show -dx * dy * slp (x + dx + -dx) = dx * dy * slp (x + dx)
    rw [slp_next (x := x + dx) (d := -dx) (by omega), Int.neg_mul, Int.neg_mul_neg]
  · have hg : ¬ FlX a b l (x + dx) (y + dy) := fun h => hnb h hf
    rw [if_neg hg, if_pos hf]
    show dx * -dy * slp (x + dx + dx) = dx * dy * slp (x + dx)
    rw [slp_next (x := x + dx) (d := dx) h1, Int.mul_neg, Int.mul_neg, Int.neg_mul, Int.neg_neg]
theorem ovN_take (ps : List (Int × Bool)) : ∀ k, k ≤ ps.length → ovN ps k = (ps.take k).countP (fun q => q.2)
  | 0, _ => rfl
  | k + 1, h => by
    have ih := ovN_take ps k (by omega)
    rw [take_snoc (0, false) (by omega), List.countP_append]
    cases hq : (ps.getD k (0, false)).2 with
    | true => rw [ovN_yes hq, ih, List.countP_cons_of_pos (by exact hq)]; rfl
    | false => rw [ovN_no hq, ih, List.countP_cons_of_neg (by rw [hq]; decide)]; rfl
theorem ovN_count (ps : List (Int × Bool)) : ovN ps ps.length = ps.countP (fun q => q.2) := by rw [ovN_take ps _ (Nat.le_refl _), List.take_length]
theorem sgm_sum {a b : Int} {l : List Int} {w : Wk} (hk : okP a b l = true) (hw : VW a b w) : ∀ n, sgm (itr (stp a b l) n w) = sgm w - 2 * (2 * ((pasL a b l (orbTo a b l w n)).countP (fun q => q.2) : Int) - (pasL a b l (orbTo a b l w n)).length)
  | 0 => by
    rw [orbTo_zero]
    show sgm w = sgm w - 2 * (2 * ((0 : Nat) : Int) - ((0 : Nat) : Int))
    omega
  | n + 1 => by
    have hs := okP_size hk
    have ih := sgm_sum hk hw n
    have hv := VW_itr (l := l) hs.1 hs.2.2.1 hw n
    rw [orbTo_succ]
    show sgm (stp a b l (itr (stp a b l) n w)) = _
    by_cases hc : CrAt a b l ((itr (stp a b l) n w).1 + (itr (stp a b l) n w).2.2.1) ((itr (stp a b l) n w).2.1 + (itr (stp a b l) n w).2.2.2)
    · rw [pasL_yes hc, sgm_cross hv hc, List.countP_append, List.length_append, List.length_singleton]
      rcases sgm_bd hv with h1 | h1
      · have h2 : decide ((itr (stp a b l) n w).2.2.1 * (itr (stp a b l) n w).2.2.2 = slp ((itr (stp a b l) n w).1 + (itr (stp a b l) n w).2.2.1)) = true := by rw [sgm_over hv]; exact decide_eq_true h1
        rw [List.countP_cons_of_pos (by exact h2), List.countP_nil]
        omega
      · have h2 : decide ((itr (stp a b l) n w).2.2.1 * (itr (stp a b l) n w).2.2.2 = slp ((itr (stp a b l) n w).1 + (itr (stp a b l) n w).2.2.1)) = false := by rw [sgm_over hv]; exact decide_eq_false (by omega)
        rw [List.countP_cons_of_neg (by simp only [h2]; exact Bool.false_ne_true), List.countP_nil]
        omega
    · rw [pasL_no hc, sgm_bounce hk hv hc]
      exact ih
theorem cur_half {a b : Int} {l : List Int} (hk : okP a b l = true) {c : Nat} (hc : c < (curL a b l).length) : 2 * ovN (pasL a b l ((curL a b l).getD c [])) (pasL a b l ((curL a b l).getD c [])).length = (pasL a b l ((curL a b l).getD c [])).length := by
  have hs := okP_size hk
  have hT := allTI (l := l) hs.1 hs.2.2.1
  have hn := segN_pos hs.1 hs.2.2.1
  obtain ⟨k, h1, h2, _⟩ := hT.head c hc
  have hw := (wkAt_spec (a := a) hs.2.2.1 (show (0 : Int) ≤ k by omega) (by omega)).1
  have h3 := sgm_sum hk hw (per a b l (wkAt b k))
  rw [(per_spec hs.1 hs.2.2.1 hw).1] at h3
  rw [ovN_count, h2, orb_eq]
  omega
theorem zlen_mono {l : List Int} {i : Nat} : ∀ {j : Nat}, i ≤ j → zlen l i ≤ zlen l j
  | 0, h => by rw [show i = 0 by omega]; exact Nat.le_refl _
  | j + 1, h => by
    rcases Nat.eq_or_lt_of_le h with rfl | h1
    · exact Nat.le_refl _
    · have ih := zlen_mono (l := l) (i := i) (j := j) (by omega)
      by_cases h2 : l.getD j 0 = 0
      · rw [zlen_yes h2]; omega
      · rw [zlen_no h2]; exact ih
theorem zlen_inj {l : List Int} {i j : Nat} (hi : l.getD i 0 = 0) (hj : l.getD j 0 = 0) (h : zlen l i = zlen l j) : i = j := by
  rcases Nat.lt_trichotomy i j with h1 | h1 | h1
  · have h2 := zlen_mono (l := l) (i := i + 1) (j := j) (by omega)
    rw [zlen_yes hi] at h2
    omega
  · exact h1
  · have h2 := zlen_mono (l := l) (i := j + 1) (j := i) (by omega)
    rw [zlen_yes hj] at h2
    omega
theorem zlen_find {l : List Int} : ∀ {n : Nat} {x : Nat}, x < zlen l n → ∃ k, k < n ∧ l.getD k 0 = 0 ∧ zlen l k = x
  | 0, x, h => by exact absurd h (Nat.not_lt_zero _)
  | n + 1, x, h => by
    by_cases h2 : l.getD n 0 = 0
    · rw [zlen_yes h2] at h
      rcases Nat.lt_or_ge x (zlen l n) with h3 | h3
      · obtain ⟨k, h4, h5, h6⟩ := zlen_find h3
        exact ⟨k, by omega, h5, h6⟩
      · exact ⟨n, by omega, h2, by omega⟩
    · rw [zlen_no h2] at h
      obtain ⟨k, h4, h5, h6⟩ := zlen_find h
      exact ⟨k, by omega, h5, h6⟩

theorem pas_inv {a b : Int} {l : List Int} {w : Wk} {q : Int × Bool} (h : pasW a b l w = some q) : CrAt a b l (w.1 + w.2.2.1) (w.2.1 + w.2.2.2) ∧ q = ((zlen l (num a (w.1 + w.2.2.1) (w.2.1 + w.2.2.2)).toNat : Int), decide (w.2.2.1 * w.2.2.2 = slp (w.1 + w.2.2.1))) := by
  by_cases hc : CrAt a b l (w.1 + w.2.2.1) (w.2.1 + w.2.2.2)
  · rw [pasW_yes hc] at h
    exact ⟨hc, (Option.some.inj h).symm⟩
  · rw [pasW_no hc] at h
    cases h
theorem pas_same {a b : Int} {l : List Int} {u v : Wk} {q : Int × Bool} (hs : SizeOk a b) (hu : VW a b u) (hv : VW a b v) (h1 : pasW a b l u = some q) (h2 : pasW a b l v = some q) :
    u.1 + u.2.2.1 = v.1 + v.2.2.1 ∧ u.2.1 + u.2.2.2 = v.2.1 + v.2.2.2 ∧ u.2.2.1 * u.2.2.2 = v.2.2.1 * v.2.2.2 := by
  obtain ⟨c1, e1⟩ := pas_inv h1
  obtain ⟨c2, e2⟩ := pas_inv h2
  rw [e1] at e2
  injection e2 with e3 e4
  have n1 := num_bd hs hu.2.2.2 c1.1
  have n2 := num_bd hs hv.2.2.2 c2.1
  have e5 := zlen_inj c1.2 c2.2 (by omega)
  have e6 : num a (u.1 + u.2.2.1) (u.2.1 + u.2.2.2) = num a (v.1 + v.2.2.1) (v.2.1 + v.2.2.2) := by omega
  have p1 := pt_num hs hu.2.2.2 c1.1
  have p2 := pt_num hs hv.2.2.2 c2.1
  rw [e6] at p1
  have ex : u.1 + u.2.2.1 = v.1 + v.2.2.1 := p1.1.symm.trans p2.1
  refine ⟨ex, p1.2.symm.trans p2.2, ?_⟩
  rw [ex] at e4
  obtain ⟨a1, a2⟩ := dir_cases hu
  obtain ⟨b1, b2⟩ := dir_cases hv
  have e7 := decide_eq_decide.1 e4
  have s := slp_bd (v.1 + v.2.2.1)
  generalize slp (v.1 + v.2.2.1) = z at e7 s
  rcases a1 with r1 | r1 <;> rcases a2 with r2 | r2 <;> rcases b1 with r3 | r3 <;> rcases b2 with r4 | r4 <;> rw [r1, r2, r3, r4] at e7 <;> rw [r1, r2, r3, r4] <;> omega
theorem two_pas {a b : Int} {l : List Int} {u v : Wk} {q : Int × Bool} (hs : SizeOk a b) (hu : u ∈ allW a b l) (hv : v ∈ allW a b l) (hn : sg b u ≠ sg b v) (h1 : pasW a b l u = some q) (h2 : pasW a b l v = some q) : False := by
  have vu := allW_VW hs hu
  have vv := allW_VW hs hv
  obtain ⟨e1, e2, e3⟩ := pas_same hs vu vv h1 h2
  have c1 := (pas_inv h1).1
  have hst := stp_cr c1
  have hmem := (allW_stp hs).1 hu
  obtain ⟨a1, a2⟩ := dir_cases vu
  obtain ⟨b1, b2⟩ := dir_cases vv
  obtain ⟨x, y, dx, dy⟩ := u
  obtain ⟨x', y', dx', dy'⟩ := v
  simp only at e1 e2 e3 a1 a2 b1 b2 hst
  by_cases hd : dx = dx'
  · have hd2 : dy = dy' := by
      subst hd
      rcases a1 with r | r <;> rw [r] at e3 <;> omega
    subst hd hd2
    have ex : x = x' := by omega
    have ey : y = y' := by omega
    subst ex ey
    exact hn rfl
  · have hd1 : dx' = -dx := by omega
    have hd2 : dy' = -dy := by
      subst hd1
      rcases a1 with r | r <;> rw [r] at e3 <;> omega
    have hb : bk (x', y', dx', dy') = stp a b l (x, y, dx, dy) := by
      rw [hst, bk_mk, ← e1, ← e2, hd1, hd2, Int.neg_neg, Int.neg_neg]
    have h5 : stp a b l (x, y, dx, dy) = (x', y', dx', dy') := pw_eq (allW_pw (l := l) hs) hmem hv (by rw [← hb, sg_bk])
    exact bk_ne vv (hb.trans h5)
/-- all passes of all curves -/
def allP (a b : Int) (l : List Int) : List (Int × Bool) := pasL a b l (allW a b l)
theorem allP_nodup {a b : Int} {l : List Int} (hs : SizeOk a b) : List.Pairwise (fun p q => p ≠ q) (allP a b l) := by
  unfold allP pasL
  rw [List.pairwise_filterMap]
  refine List.Pairwise.imp_of_mem ?_ (allW_pw (l := l) hs)
  intro u v hu hv hn p hp q hq e
  subst e
  exact two_pas hs hu hv hn hp hq
theorem allP_mem {a b : Int} {l : List Int} (hk : okP a b l = true) {x : Nat} (hx : x < zlen l l.length) (o : Bool) : ((x : Int), o) ∈ allP a b l := by
  have hs := okP_size hk
  have hl := okP_inn hk
  obtain ⟨k, h1, h2, h3⟩ := zlen_find hx
  obtain ⟨p1, p2, p3⟩ := pt_spec (k := k) hs (by omega) (by omega)
  generalize hX : ptX a k = X at p1 p2 p3
  generalize hY : ptY a k = Y at p1 p2 p3
  have hcr : CrAt a b l X Y := ⟨p2, by rw [p3, Int.toNat_natCast]; exact h2⟩
  obtain ⟨s, hs1, hs2⟩ : ∃ s : Int, (s = 1 ∨ s = -1) ∧ decide (s = slp X) = o := by
    cases o with
    | true => exact ⟨slp X, slp_bd X, decide_eq_true rfl⟩
    | false =>
      rcases slp_bd X with h | h
      · exact ⟨-1, .inr rfl, decide_eq_false (by omega)⟩
      · exact ⟨1, .inl rfl, decide_eq_false (by omega)⟩
  have hw : VW a b (X - 1, Y - s, 1, s) := by
    rw [VW_mk]
    unfold PtOk Edge at *
    omega
  have hz : ∀ Z : Int, Z = X → ((x : Int), o) = ((zlen l (num a Z Y).toNat : Int), decide (s = slp Z)) := fun Z hZ => by
    rw [hZ, p3, Int.toNat_natCast, h3, hs2]
  unfold allP pasL
  rw [List.mem_filterMap]
  rcases allW_has (l := l) hs hw with h | h
  · refine ⟨_, h, ?_⟩
    have hc : CrAt a b l (X - 1 + 1) (Y - s + s) := by rw [Int.sub_add_cancel, Int.sub_add_cancel]; exact hcr
    rw [pasW_yes hc]
    show some ((zlen l (num a (X - 1 + 1) (Y - s + s)).toNat : Int), decide (1 * s = slp (X - 1 + 1))) = _
    rw [Int.sub_add_cancel, Int.sub_add_cancel, Int.one_mul, hz X rfl]
  · have hc : CrAt a b l (X + 1 + -1) (Y + s + -s) := by rw [Int.add_neg_cancel_right, Int.add_neg_cancel_right]; exact hcr
    have hst := stp_cr (w := (X + 1, Y + s, -1, -s)) hc
    have hb : bk (X - 1, Y - s, 1, s) = stp a b l (X + 1, Y + s, -1, -s) := by
      rw [hst, bk_mk]
      show (X - 1 + 1, Y - s + s, -1, -s) = (X + 1 + -1, Y + s + -s, -1, -s)
      rw [Int.sub_add_cancel, Int.sub_add_cancel, Int.add_neg_cancel_right, Int.add_neg_cancel_right]
    rw [hb] at h
    refine ⟨_, (allW_stp hs).2 h, ?_⟩
    rw [pasW_yes hc]
    show some ((zlen l (num a (X + 1 + -1) (Y + s + -s)).toNat : Int), decide (-1 * -s = slp (X + 1 + -1))) = _
    rw [Int.add_neg_cancel_right, Int.add_neg_cancel_right, Int.neg_mul_neg, Int.one_mul, hz X rfl]
theorem count_one {α : Type} [BEq α] [LawfulBEq α] : ∀ {L : List α} {x : α}, List.Pairwise (fun p q => p ≠ q) L → x ∈ L → L.count x = 1
  | [], _, _, h => by cases h
  | y :: L, x, hp, h => by
    rw [List.pairwise_cons] at hp
    rcases List.mem_cons.1 h with rfl | h
    · rw [List.count_cons_self, List.count_eq_zero_of_not_mem (fun hm => hp.1 x hm rfl)]
    · rw [List.count_cons_of_ne (fun e => hp.1 x h e), count_one hp.2 h]
theorem allP_count {a b : Int} {l : List Int} (hk : okP a b l = true) {x : Nat} (hx : x < zlen l l.length) (o : Bool) : (allP a b l).count ((x : Int), o) = 1 := count_one (allP_nodup (okP_size hk)) (allP_mem hk hx o)
/-- the passes of the first curves -/
def preP (a b : Int) (l : List Int) (c : Nat) : List (Int × Bool) := pasL a b l ((curL a b l).take c).flatten
theorem preP_zero (a b : Int) (l : List Int) : preP a b l 0 = [] := rfl
theorem preP_succ {a b : Int} {l : List Int} {c : Nat} (h : c < cnt a b l) : preP a b l (c + 1) = preP a b l c ++ pasL a b l ((curL a b l).getD c []) := by
  unfold preP
  rw [take_snoc [] h, List.flatten_append, List.flatten_singleton]
  unfold pasL
  rw [List.filterMap_append]
theorem preP_all (a b : Int) (l : List Int) : preP a b l (cnt a b l) = allP a b l := by
  unfold preP allP allW cnt
  rw [List.take_length]
theorem pas_rng {a b : Int} {l : List Int} {ws : List Wk} (hk : okP a b l = true) (hw : ∀ w ∈ ws, VW a b w) {q : Int × Bool} (h : q ∈ pasL a b l ws) : 0 ≤ q.1 ∧ q.1 < (zlen l l.length : Int) := by
  have hs := okP_size hk
  have hl := okP_inn hk
  unfold pasL at h
  obtain ⟨w, h1, h2⟩ := List.mem_filterMap.1 h
  obtain ⟨h3, rfl⟩ := pas_inv h2
  have h4 := num_bd hs (hw w h1).2.2.2 h3.1
  have h5 := zlen_mono (l := l) (i := (num a (w.1 + w.2.2.1) (w.2.1 + w.2.2.2)).toNat + 1) (j := l.length) (by omega)
  rw [zlen_yes h3.2] at h5
  simp only
  omega
/-- how often each crossing is passed over, or under -/
def cntO (ps : List (Int × Bool)) (o : Bool) (n : Nat) : List Int := (List.range n).map fun (x : Nat) => ((ps.count ((x : Int), o) : Nat) : Int)
theorem length_cntO (ps : List (Int × Bool)) (o : Bool) (n : Nat) : (cntO ps o n).length = n := by simp [cntO]
theorem cntO_get {ps : List (Int × Bool)} {o : Bool} {n x : Nat} (h : x < n) : (cntO ps o n).getD x 0 = ((ps.count ((x : Int), o) : Nat) : Int) := by simp [cntO, List.getD, h]
theorem cntO_nil (o : Bool) (n : Nat) : cntO [] o n = List.replicate n 0 := by
  refine ext_getD 0 (by rw [length_cntO, List.length_replicate]) (fun j hj => ?_)
  rw [length_cntO] at hj
  rw [cntO_get hj]
  simp [List.getD, hj]
theorem cntO_other {ps : List (Int × Bool)} {o o' : Bool} {n : Nat} {x : Int} (h : o' ≠ o) : cntO (ps ++ [(x, o')]) o n = cntO ps o n := by
  unfold cntO
  refine List.map_congr_left (fun y _ => ?_)
  rw [List.count_append, List.count_cons_of_ne (by intro e; injection e with e1 e2; exact h e2), List.count_nil, Nat.add_zero]
theorem cntO_step {ps : List (Int × Bool)} {o : Bool} {n x : Nat} (h : x < n) : cntO (ps ++ [((x : Int), o)]) o n = (cntO ps o n).set x ((cntO ps o n).getD x 0 + 1) := by
  refine ext_getD 0 (by rw [List.length_set, length_cntO, length_cntO]) (fun j hj => ?_)
  rw [length_cntO] at hj
  rw [cntO_get hj, List.count_append]
  by_cases e : x = j
  · subst e
    rw [getD_set_eq (by rw [length_cntO]; exact h), cntO_get h, List.count_cons_self, List.count_nil]
    omega
  · rw [getD_set_ne e, cntO_get hj, List.count_cons_of_ne (by intro e2; injection e2 with e3 e4; omega), List.count_nil]
    omega
theorem count_le (ps : List (Int × Bool)) (q : Int × Bool) : ps.count q ≤ ps.length := List.count_le_length

end Go.Proofs.Ytmfinopdokkjcaa
