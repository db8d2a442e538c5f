/- Contracts of functions, printed by program from annotations. -/
import Derived.Test.YtmfinopdokkjcaaCrsM
import Derived.Test.YtmfinopdokkjcaaChgM
namespace Go.Proofs.Ytmfinopdokkjcaa
open Go Go.AW Go.RowKit
set_option linter.unusedVariables false
set_option linter.unusedSimpArgs false

theorem On.trans' {a b : Int} {l : List Int} {w v u : Wk} (h : On a b l w v) (h2 : On a b l v u) : On a b l w u := by
  obtain ⟨i, rfl⟩ := h
  obtain ⟨j, rfl⟩ := h2
  exact ⟨j + i, (itr_add _ j i w).symm⟩
theorem On.back {a b : Int} {l : List Int} {w v : Wk} (ha : 1 ≤ a) (hb : 1 ≤ b) (hw : VW a b w) (h : On a b l w v) : On a b l v w := by
  obtain ⟨i, hi, rfl⟩ := h.mem ha hb hw
  refine ⟨per a b l w - i, ?_⟩
  rw [← itr_add, show per a b l w - i + i = per a b l w by omega, (per_spec ha hb hw).1]
theorem itr_bk {a b : Int} {l : List Int} {u : Wk} : ∀ i, itr (stp a b l) i (bk (itr (stp a b l) i u)) = bk u
  | 0 => rfl
  | i + 1 => by
    have e : itr (stp a b l) (i + 1) (bk (itr (stp a b l) (i + 1) u)) = itr (stp a b l) i (itr (stp a b l) 1 (bk (itr (stp a b l) (i + 1) u))) := itr_add _ i 1 _
    rw [e]
    show itr (stp a b l) i (stp a b l (bk (stp a b l (itr (stp a b l) i u)))) = _
    rw [stp_bk_stp, itr_bk i]
theorem On.bk' {a b : Int} {l : List Int} {u v : Wk} (ha : 1 ≤ a) (hb : 1 ≤ b) (hu : VW a b u) (h : On a b l u v) : On a b l (bk u) (bk v) := by
  have hv := h.val ha hb hu
  obtain ⟨i, rfl⟩ := h
  have h2 : On a b l (bk (itr (stp a b l) i u)) (bk u) := ⟨i, (itr_bk i).symm⟩
  exact h2.back ha hb (VW_bk hv)
theorem own_on {a b : Int} {l : List Int} (hs : SizeOk a b) {w v : Wk} (hw : VW a b w) (hv : VW a b v) (h : (ownL a b l).getD (sg b v).toNat 0 = (ownL a b l).getD (sg b w).toNat 0) : OnS a b l w (sg b v) := by
  have ha := hs.1
  have hb := hs.2.2.1
  have hT := allTI (l := l) ha hb
  have hn := segN_pos ha hb
  have s1 := sg_bd hw
  have s2 := sg_bd hv
  obtain ⟨c1, u1, p1, p2, p3⟩ := tr_on (l := l) ha hb (segN a b) (Nat.le_refl _) w hw (hT.done _ (by omega))
  obtain ⟨c2, u2, q1, q2, q3⟩ := tr_on (l := l) ha hb (segN a b) (Nat.le_refl _) v hv (hT.done _ (by omega))
  have o1 := cur_own (l := l) ha hb p1 p2
  have o2 := cur_own (l := l) ha hb q1 q2
  have e : c2 = c1 := by rw [p3] at o1; rw [q3] at o2; omega
  subst e
  obtain ⟨k, h1, h2, h3, _⟩ := hT.head c2 p1
  have hx := (wkAt_spec (a := a) hb (show (0 : Int) ≤ k by omega) (by omega)).1
  change u1 ∈ (curL a b l).getD c2 [] at p2
  change u2 ∈ (curL a b l).getD c2 [] at q2
  rw [h2] at p2 q2
  have g1 := (mem_orb ha hb hx).1 p2
  have g2 := (mem_orb ha hb hx).1 q2
  have v1 := g1.val ha hb hx
  have g3 := (g1.back ha hb hx).trans' g2
  rcases sg_eq v1 hw p3 with r | r
  · subst r
    exact ⟨u2, g3, q3⟩
  · have r2 : w = bk u1 := by rw [r, bk_bk]
    subst r2
    exact ⟨bk u2, g3.bk' ha hb v1, by rw [sg_bk]; exact q3⟩
theorem onS_own {a b : Int} {l : List Int} (hs : SizeOk a b) {w : Wk} (hw : VW a b w) {s : Int} (h : OnS a b l w s) : (ownL a b l).getD s.toNat 0 = (ownL a b l).getD (sg b w).toNat 0 := by
  obtain ⟨v, ⟨i, rfl⟩, rfl⟩ := h
  exact (allTI (l := l) hs.1 hs.2.2.1).along hs.1 hs.2.2.1 hw i
/-- only the breaks at one point differ -/
def Dif (l l' : List Int) (k : Nat) : Prop := ∀ j : Nat, j ≠ k → l.getD j 0 = l'.getD j 0
theorem Dif.symm {l l' : List Int} {k : Nat} (h : Dif l l' k) : Dif l' l k := fun j hj => (h j hj).symm
theorem stp_same {a b : Int} {l l' : List Int} {k : Nat} (hs : SizeOk a b) (hd : Dif l l' k) {w : Wk} (hw : VW a b w) (hP : ¬ (w.1 + w.2.2.1 = ptX a k ∧ w.2.1 + w.2.2.2 = ptY a k)) : stp a b l w = stp a b l' w := by
  obtain ⟨x, y, dx, dy⟩ := w
  have hp := hw.2.2.2
  simp only at hP hp
  have hk : kd a b l (x + dx) (y + dy) = kd a b l' (x + dx) (y + dy) := by
    by_cases he : Edge a b (x + dx) (y + dy)
    · rw [kd_edge he, kd_edge he]
    · unfold kd
      rw [if_neg he, if_neg he]
      have hn := num_bd hs hp he
      have hpt := pt_num hs hp he
      refine hd _ (fun e => hP ?_)
      rw [← e, Int.toNat_of_nonneg hn.1]
      exact ⟨hpt.1.symm, hpt.2.symm⟩
  have hX : FlX a b l (x + dx) (y + dy) ↔ FlX a b l' (x + dx) (y + dy) := by unfold FlX; rw [hk]
  have hY : FlY a b l (x + dx) (y + dy) ↔ FlY a b l' (x + dx) (y + dy) := by unfold FlY; rw [hk]
  rw [stp_mk, stp_mk]
  simp only [hX, hY]
/-- the walkers out of a point -/
def outW (a : Int) (k : Nat) (d e : Int) : Wk := (ptX a k, ptY a k, d, e)
theorem outW_VW {a b : Int} {k : Nat} (hs : SizeOk a b) (hk : k < inn a b) {d e : Int} (hd : d = 1 ∨ d = -1) (he : e = 1 ∨ e = -1) : VW a b (outW a k d e) := by
  obtain ⟨h1, h2, _⟩ := pt_spec hs (show (0 : Int) ≤ k by omega) (by omega : (k : Int) < inn a b)
  unfold outW
  rw [VW_mk]
  unfold PtOk Edge at *
  omega
/-- an orbit that keeps away from a point -/
def Off (a b : Int) (l : List Int) (k : Nat) (w : Wk) : Prop := ∀ d e : Int, (d = 1 ∨ d = -1) → (e = 1 ∨ e = -1) → ¬ OnS a b l w (sg b (outW a k d e))
theorem Off.hit {a b : Int} {l : List Int} {k : Nat} (hs : SizeOk a b) {w : Wk} (hw : VW a b w) (h : Off a b l k w) (i : Nat) : ¬ ((itr (stp a b l) i w).1 + (itr (stp a b l) i w).2.2.1 = ptX a k ∧ (itr (stp a b l) i w).2.1 + (itr (stp a b l) i w).2.2.2 = ptY a k) := by
  intro hp
  have hv := VW_itr (l := l) hs.1 hs.2.2.1 hw (i + 1)
  have e : itr (stp a b l) (i + 1) w = outW a k (itr (stp a b l) (i + 1) w).2.2.1 (itr (stp a b l) (i + 1) w).2.2.2 := by
    show stp a b l (itr (stp a b l) i w) = _
    unfold outW
    rw [← hp.1, ← hp.2]
    rfl
  refine h _ _ hv.1 hv.2.1 ?_
  rw [← e]
  exact ⟨_, ⟨i + 1, rfl⟩, rfl⟩
theorem offItr {a b : Int} {l l' : List Int} {k : Nat} (hs : SizeOk a b) (hd : Dif l l' k) {w : Wk} (hw : VW a b w) (h : Off a b l k w) : ∀ i, itr (stp a b l') i w = itr (stp a b l) i w
  | 0 => rfl
  | i + 1 => by
    show stp a b l' (itr (stp a b l') i w) = stp a b l (itr (stp a b l) i w)
    rw [offItr hs hd hw h i]
    exact stp_same hs hd.symm (VW_itr hs.1 hs.2.2.1 hw i) (h.hit hs hw i)
theorem Off.onS {a b : Int} {l l' : List Int} {k : Nat} (hs : SizeOk a b) (hd : Dif l l' k) {w : Wk} (hw : VW a b w) (h : Off a b l k w) {s : Int} (h2 : OnS a b l' w s) : OnS a b l w s := by
  obtain ⟨v, ⟨i, rfl⟩, h3⟩ := h2
  exact ⟨_, ⟨i, offItr hs hd hw h i⟩, h3⟩
/-- at most two curves touch a point -/
theorem two_own {a b : Int} {l : List Int} {k : Nat} (hok : okP a b l = true) (hk : k < inn a b) : ∃ t1 t2 : Int, ∀ d e : Int, (d = 1 ∨ d = -1) → (e = 1 ∨ e = -1) → (ownL a b l).getD (sg b (outW a k d e)).toNat 0 = t1 ∨ (ownL a b l).getD (sg b (outW a k d e)).toNat 0 = t2 := by
  have hs := okP_size hok
  have hT := allTI (l := l) hs.1 hs.2.2.1
  obtain ⟨h1, h2, h3⟩ := pt_spec hs (show (0 : Int) ≤ k by omega) (by omega : (k : Int) < inn a b)
  have hkd := kd_bd hok h1 h2
  have hnX : ∀ {x : Int}, x = ptX a k → ¬ (x = 0 ∨ x = 2 * a) := fun e => by unfold Edge at h2; omega
  have hnY : ∀ {y : Int}, y = ptY a k → ¬ (y = 0 ∨ y = 2 * b) := fun e => by unfold Edge at h2; omega
  have key : ∀ d e : Int, (d = 1 ∨ d = -1) → (e = 1 ∨ e = -1) → (ownL a b l).getD (sg b (outW a k d e)).toNat 0 = (ownL a b l).getD (sg b (outW a k (if kd a b l (ptX a k) (ptY a k) = 1 then d else -d) (if kd a b l (ptX a k) (ptY a k) = 2 then e else -e))).toNat 0 := by
    intro d e hd he
    have hv := outW_VW hs hk hd he
    have hi := hT.inv (bk (outW a k d e)) (VW_bk hv)
    have hst : stp a b l (bk (outW a k d e)) = outW a k (if kd a b l (ptX a k) (ptY a k) = 1 then d else -d) (if kd a b l (ptX a k) (ptY a k) = 2 then e else -e) := by
      unfold outW
      rw [bk_mk, stp_mk, Int.add_neg_cancel_right, Int.add_neg_cancel_right, Int.neg_neg, Int.neg_neg]
      have e1 : FlX a b l (ptX a k) (ptY a k) ↔ kd a b l (ptX a k) (ptY a k) = 1 := by
        have := hnX rfl
        unfold FlX; omega
      have e2 : FlY a b l (ptX a k) (ptY a k) ↔ kd a b l (ptX a k) (ptY a k) = 2 := by
        have := hnY rfl
        unfold FlY; omega
      simp only [e1, e2]
    rw [hst, sg_bk] at hi
    exact hi.symm
  have hc : kd a b l (ptX a k) (ptY a k) = 0 ∨ kd a b l (ptX a k) (ptY a k) = 1 ∨ kd a b l (ptX a k) (ptY a k) = 2 := by omega
  rcases hc with hc | hc | hc
  · refine ⟨(ownL a b l).getD (sg b (outW a k 1 1)).toNat 0, (ownL a b l).getD (sg b (outW a k 1 (-1))).toNat 0, fun d e hd he => ?_⟩
    · have := key d e hd he
      rw [if_neg (by omega), if_neg (by omega)] at this
      rcases hd with rfl | rfl <;> rcases he with rfl | rfl
      · exact .inl rfl
      · exact .inr rfl
      · exact .inr this
      · exact .inl this
  · refine ⟨(ownL a b l).getD (sg b (outW a k 1 1)).toNat 0, (ownL a b l).getD (sg b (outW a k (-1) 1)).toNat 0, fun d e hd he => ?_⟩
    · have := key d e hd he
      rw [if_pos hc, if_neg (by omega)] at this
      rcases hd with rfl | rfl <;> rcases he with rfl | rfl
      · exact .inl rfl
      · exact .inl this
      · exact .inr rfl
      · exact .inr this
  · refine ⟨(ownL a b l).getD (sg b (outW a k 1 1)).toNat 0, (ownL a b l).getD (sg b (outW a k 1 (-1))).toNat 0, fun d e hd he => ?_⟩
    · have := key d e hd he
      rw [if_neg (by omega), if_pos hc] at this
      rcases hd with rfl | rfl <;> rcases he with rfl | rfl
      · exact .inl rfl
      · exact .inr rfl
      · exact .inl this
      · exact .inr this
/-- numbers but two of them -/
def skip2 (t1 t2 : Int) (i : Nat) : Nat := if (i : Int) < min t1 t2 then i else if (i : Int) + 1 < max t1 t2 then i + 1 else i + 2
theorem skip2_ne {t1 t2 : Int} (i : Nat) : (skip2 t1 t2 i : Int) ≠ t1 ∧ (skip2 t1 t2 i : Int) ≠ t2 ∧ skip2 t1 t2 i ≤ i + 2 := by
  unfold skip2
  split
  · omega
  · split <;> omega
theorem skip2_inj {t1 t2 : Int} {i j : Nat} (h : skip2 t1 t2 i = skip2 t1 t2 j) : i = j := by
  unfold skip2 at h
  split at h <;> split at h <;> (try split at h) <;> (try split at h) <;> omega
/-- one break makes one curve more or less, at most -/
theorem cnt_step {a b : Int} {l l' : List Int} {k : Nat} (hok : okP a b l = true) (hok' : okP a b l' = true) (hd : Dif l l' k) (hk : k < inn a b) : cnt a b l ≤ cnt a b l' + 1 := by
  have hs := okP_size hok
  have ha := hs.1
  have hb := hs.2.2.1
  have hT := allTI (l := l) ha hb
  have hT' := allTI (l := l') ha hb
  have hn := segN_pos ha hb
  have hc' := (cnt_le (l := l') hs).1
  obtain ⟨t1, t2, ht⟩ := two_own hok hk
  rcases Nat.lt_or_ge (cnt a b l' + 1) (cnt a b l) with hlt | hge
  case inr => exact hge
  exfalso
  have hv1 := outW_VW hs hk (d := 1) (e := 1) (.inl rfl) (.inl rfl)
  have hsv := sg_bd hv1
  have hr' := hT'.rng (sg b (outW a k 1 1)).toNat (by omega)
  have hd' := hT'.done (sg b (outW a k 1 1)).toNat (by omega)
  generalize hu : (ownL a b l').getD (sg b (outW a k 1 1)).toNat 0 = t at hr' hd'
  have head : ∀ c : Nat, ∃ s : Nat, c < cnt a b l → (s < segN a b ∧ (ownL a b l).getD s 0 = c) := fun c => by
    by_cases h : c < cnt a b l
    · obtain ⟨s, h1, _, h3, _⟩ := hT.head c h
      exact ⟨s, fun _ => ⟨h1, h3⟩⟩
    · exact ⟨0, fun hh => absurd hh h⟩
  let hd1 : Nat → Nat := fun c => Classical.choose (head c)
  have hd1s : ∀ c, c < cnt a b l → (hd1 c < segN a b ∧ (ownL a b l).getD (hd1 c) 0 = c) := fun c => Classical.choose_spec (head c)
  have hW : ∀ c, c < cnt a b l → VW a b (wkAt b (hd1 c)) ∧ sg b (wkAt b (hd1 c)) = hd1 c := fun c h => by
    have := (hd1s c h).1
    exact wkAt_spec (a := a) hb (by omega) (by omega)
  have hoff : ∀ c, c < cnt a b l → (c : Int) ≠ t1 → (c : Int) ≠ t2 → Off a b l k (wkAt b (hd1 c)) := by
    intro c hc n1 n2 d e hdd hee hon
    have h1 := onS_own hs (hW c hc).1 hon
    rw [(hW c hc).2, Int.toNat_natCast, (hd1s c hc).2] at h1
    rcases ht d e hdd hee with h2 | h2 <;> omega
  let g : Nat → Int := fun i => (ownL a b l').getD (hd1 (skip2 t1 t2 i)) 0
  have hlt2 : ∀ i, i < cnt a b l' → skip2 t1 t2 i < cnt a b l := fun i hi => by
    have := (skip2_ne (t1 := t1) (t2 := t2) i).2.2
    omega
  have hg : ∀ i, i < cnt a b l' → 0 ≤ g i ∧ g i < cnt a b l' ∧ g i ≠ t := by
    intro i hi
    have hc := hlt2 i hi
    have hne := skip2_ne (t1 := t1) (t2 := t2) i
    have h1 := hT'.rng (hd1 (skip2 t1 t2 i)) (hd1s _ hc).1
    have h2 := hT'.done (hd1 (skip2 t1 t2 i)) (hd1s _ hc).1
    refine ⟨h2, h1.2, fun he => ?_⟩
    have hf := hoff _ hc hne.1 hne.2.1
    have hw := hW _ hc
    have h3 : (ownL a b l').getD (sg b (outW a k 1 1)).toNat 0 = (ownL a b l').getD (sg b (wkAt b (hd1 (skip2 t1 t2 i)))).toNat 0 := by
      rw [hu, hw.2, Int.toNat_natCast]
      exact he.symm
    exact hf 1 1 (.inl rfl) (.inl rfl) (hf.onS hs hd hw.1 (own_on hs hw.1 hv1 h3))
  have hinj : ∀ i j, i < cnt a b l' → j < cnt a b l' → g i = g j → i = j := by
    intro i j hi hj he
    have hci := hlt2 i hi
    have hcj := hlt2 j hj
    have hne := skip2_ne (t1 := t1) (t2 := t2) i
    have hf := hoff _ hci hne.1 hne.2.1
    have hwi := hW _ hci
    have hwj := hW _ hcj
    have h3 : (ownL a b l').getD (sg b (wkAt b (hd1 (skip2 t1 t2 j)))).toNat 0 = (ownL a b l').getD (sg b (wkAt b (hd1 (skip2 t1 t2 i)))).toNat 0 := by
      rw [hwi.2, hwj.2, Int.toNat_natCast, Int.toNat_natCast]
      exact he.symm
    have h4 := onS_own hs hwi.1 (hf.onS hs hd hwi.1 (own_on hs hwi.1 hwj.1 h3))
    rw [hwi.2, hwj.2, Int.toNat_natCast, Int.toNat_natCast, (hd1s _ hci).2, (hd1s _ hcj).2] at h4
    exact skip2_inj (t1 := t1) (t2 := t2) (by omega)
  obtain ⟨i, j, h1, h2, h3⟩ := pigeon (cnt a b l' - 1) (fun i => if g i < t then (g i).toNat else (g i - 1).toNat) (by
    intro i hi
    obtain ⟨q1, q2, q3⟩ := hg i (by omega)
    have hr2 : t < cnt a b l' := hr'.2
    show (if g i < t then (g i).toNat else (g i - 1).toNat) < cnt a b l' - 1
    split <;> omega)
  have hi := hg i (by omega)
  have hj := hg j (by omega)
  have e : g i = g j := by
    change (if g i < t then (g i).toNat else (g i - 1).toNat) = (if g j < t then (g j).toNat else (g j - 1).toNat) at h3
    split at h3 <;> split at h3 <;> omega
  have := hinj i j (by omega) (by omega) e
  omega
theorem set_dif (l : List Int) (k : Nat) (y : Int) : Dif l (l.set k y) k := fun j hj => by simp [List.getD, List.getElem?_set_ne hj.symm]
theorem cnt_set {a b : Int} {l : List Int} {k : Nat} {y : Int} (hok : okP a b l = true) (hk : k < l.length) (h0 : 0 ≤ y) (h1 : y ≤ 2) : cnt a b (l.set k y) ≤ cnt a b l + 1 ∧ cnt a b l ≤ cnt a b (l.set k y) + 1 := by
  have hl := okP_inn hok
  have hok' := okP_set hok k h0 h1
  exact ⟨cnt_step hok' hok (set_dif l k y).symm (by omega), cnt_step hok hok' (set_dif l k y) (by omega)⟩

end Go.Proofs.Ytmfinopdokkjcaa
