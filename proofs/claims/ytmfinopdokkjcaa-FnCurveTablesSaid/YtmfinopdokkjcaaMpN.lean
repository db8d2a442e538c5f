/- Contracts of functions, printed by program from annotations. -/
import Derived.Test.YtmfinopdokkjcaaMpM
namespace Go.Proofs.Ytmfinopdokkjcaa
open Go Go.AW Go.RowKit
set_option linter.unusedVariables false
set_option linter.unusedSimpArgs false

/-- the sides exchanged -/
def swp (w : Wk) : Wk := (w.2.1, w.1, w.2.2.2, w.2.2.1)
theorem swp_swp (w : Wk) : swp (swp w) = w := rfl
theorem swp_bk (w : Wk) : swp (bk w) = bk (swp w) := rfl
theorem pt_swp {a b x y : Int} : PtOk b a y x ↔ PtOk a b x y := by unfold PtOk; constructor <;> (intro h; omega)
theorem edge_swp {a b x y : Int} : Edge b a y x ↔ Edge a b x y := by unfold Edge; constructor <;> (intro h; omega)
theorem VW_swp {a b : Int} {w : Wk} (h : VW a b w) : VW b a (swp w) := by
  obtain ⟨x, y, dx, dy⟩ := w
  obtain ⟨h1, h2, h3, h4⟩ := VW_mk.1 h
  exact VW_mk.2 ⟨h2, h1, pt_swp.2 h3, pt_swp.2 h4⟩
theorem kd_swp {a b x y : Int} {l : List Int} (hs : SizeOk a b) (hp : PtOk a b x y) : kd b a (mapL 4 a b l) y x = mk 4 (kd a b l x y) := by
  unfold kd
  by_cases he : Edge a b x y
  · rw [if_pos he, if_pos (edge_swp.2 he)]
    rfl
  · rw [if_neg he, if_neg (fun h => he (edge_swp.1 h))]
    have hn := num_bd hs hp he
    have h2 := pt_num hs hp he
    have h3 := mapL_get (show 4 < 8 by decide) hs l (k := (num a x y).toNat) (by omega)
    have e : (((num a x y).toNat : Nat) : Int) = num a x y := by omega
    have e2 : tgt 4 a b (num a x y).toNat = (num b y x).toNat := by
      unfold tgt
      rw [e, h2.1, h2.2]
      rfl
    rw [e2] at h3
    exact h3
theorem flX_swp {a b x y : Int} {l : List Int} (hk : okP a b l = true) (hp : PtOk a b x y) : FlX b a (mapL 4 a b l) y x ↔ FlY a b l x y := by
  unfold FlX FlY
  rw [kd_swp (okP_size hk) hp]
  have hb : kd a b l x y = 0 ∨ kd a b l x y = 1 ∨ kd a b l x y = 2 := by
    by_cases he : Edge a b x y
    · exact .inl (kd_edge he)
    · have := kd_bd hk hp he
      omega
  unfold mk
  rcases hb with h | h | h <;> rw [h] <;> simp
theorem flY_swp {a b x y : Int} {l : List Int} (hk : okP a b l = true) (hp : PtOk a b x y) : FlY b a (mapL 4 a b l) y x ↔ FlX a b l x y := by
  unfold FlX FlY
  rw [kd_swp (okP_size hk) hp]
  have hb : kd a b l x y = 0 ∨ kd a b l x y = 1 ∨ kd a b l x y = 2 := by
    by_cases he : Edge a b x y
    · exact .inl (kd_edge he)
    · have := kd_bd hk hp he
      omega
  unfold mk
  rcases hb with h | h | h <;> rw [h] <;> simp
theorem stp_swp {a b : Int} {l : List Int} {w : Wk} (hk : okP a b l = true) (h : VW a b w) : stp b a (mapL 4 a b l) (swp w) = swp (stp a b l w) := by
  obtain ⟨x, y, dx, dy⟩ := w
  obtain ⟨h1, h2, h3, h4⟩ := VW_mk.1 h
  show stp b a (mapL 4 a b l) (y, x, dy, dx) = swp (stp a b l (x, y, dx, dy))
  rw [stp_mk, stp_mk]
  unfold swp
  simp only [flX_swp hk h4, flY_swp hk h4]
theorem itr_swp {a b : Int} {l : List Int} {w : Wk} (hk : okP a b l = true) (h : VW a b w) : ∀ n, itr (stp b a (mapL 4 a b l)) n (swp w) = swp (itr (stp a b l) n w)
  | 0 => rfl
  | n + 1 => by
    have hs := okP_size hk
    show stp b a (mapL 4 a b l) (itr (stp b a (mapL 4 a b l)) n (swp w)) = _
    rw [itr_swp hk h n, stp_swp hk (VW_itr hs.1 hs.2.2.1 h n)]
    rfl
/-- whose a walker's segment is -/
def owN (a b : Int) (l : List Int) (w : Wk) : Int := (ownL a b l).getD (sg b w).toNat 0
theorem owN_rng {a b : Int} {l : List Int} (hs : SizeOk a b) {w : Wk} (h : VW a b w) : 0 ≤ owN a b l w ∧ owN a b l w < cnt a b l := by
  have hT := allTI (l := l) hs.1 hs.2.2.1
  have h1 := sg_bd h
  have h2 := segN_pos hs.1 hs.2.2.1
  have h3 := hT.rng (sg b w).toNat (by omega)
  have h4 := hT.done (sg b w).toNat (by omega)
  exact ⟨h4, h3.2⟩
theorem owN_itr {a b : Int} {l : List Int} (hs : SizeOk a b) {w : Wk} (h : VW a b w) (n : Nat) : owN a b l (itr (stp a b l) n w) = owN a b l w := (allTI (l := l) hs.1 hs.2.2.1).along hs.1 hs.2.2.1 h n
theorem owN_bk (a b : Int) (l : List Int) (w : Wk) : owN a b l (bk w) = owN a b l w := by unfold owN; rw [sg_bk]
theorem owN_head {a b : Int} {l : List Int} (hs : SizeOk a b) {c : Nat} (hc : c < cnt a b l) : ∃ w, VW a b w ∧ owN a b l w = c ∧ (curL a b l).getD c [] = orb a b l w := by
  have hT := allTI (l := l) hs.1 hs.2.2.1
  have hn := segN_pos hs.1 hs.2.2.1
  obtain ⟨k, h1, h2, h3, _⟩ := hT.head c hc
  obtain ⟨hw, hg⟩ := wkAt_spec (a := a) hs.2.2.1 (show (0 : Int) ≤ k by omega) (by omega)
  refine ⟨wkAt b k, hw, ?_, h2⟩
  unfold owN
  rw [hg, Int.toNat_natCast]
  exact h3
/-- a walker lies on the orbit of its curve's head, this way or that -/
theorem on_head {a b : Int} {l : List Int} (hs : SizeOk a b) {w : Wk} (h : VW a b w) : ∃ u i, VW a b u ∧ owN a b l u = owN a b l w ∧ (curL a b l).getD (owN a b l w).toNat [] = orb a b l u ∧ (w = itr (stp a b l) i u ∨ w = bk (itr (stp a b l) i u)) := by
  have hT := allTI (l := l) hs.1 hs.2.2.1
  have h1 := sg_bd h
  have h2 := segN_pos hs.1 hs.2.2.1
  obtain ⟨c, v, h3, h4, h5⟩ := tr_on (l := l) hs.1 hs.2.2.1 (segN a b) (Nat.le_refl _) w h (hT.done _ (by omega))
  obtain ⟨u, g1, g2, g3⟩ := owN_head (l := l) hs (c := c) h3
  rw [show (tr a b l (segN a b)).2.getD c [] = orb a b l u from g3] at h4
  unfold orb at h4
  obtain ⟨i, -, rfl⟩ := List.mem_map.1 h4
  have e : owN a b l w = c := by
    unfold owN
    rw [← h5]
    exact (owN_itr hs g1 i).trans g2
  refine ⟨u, i, g1, g2.trans e.symm, by rw [e, Int.toNat_natCast]; exact g3, ?_⟩
  rcases sg_eq h (VW_itr hs.1 hs.2.2.1 g1 i) h5.symm with hh | hh
  · exact .inl hh
  · exact .inr hh
theorem own_swp {a b : Int} {l : List Int} (hk : okP a b l = true) {w v : Wk} (hw : VW a b w) (hv : VW a b v) (h : owN b a (mapL 4 a b l) (swp w) = owN b a (mapL 4 a b l) (swp v)) : owN a b l w = owN a b l v := by
  have hs := okP_size hk
  have hk2 : okP b a (mapL 4 a b l) = true := mapL_ok (s := 4) (by decide) hk
  have hs2 := okP_size hk2
  have hback : mapL 4 b a (mapL 4 a b l) = l := (mapL_comp (s := 4) (t := 4) (by decide) (by decide) hk).trans (mapL_zero hk)
  have key : ∀ {x : Wk}, VW a b x → ∀ {u : Wk} {i : Nat}, VW b a u → (swp x = itr (stp b a (mapL 4 a b l)) i u ∨ swp x = bk (itr (stp b a (mapL 4 a b l)) i u)) → owN a b l x = owN a b l (swp u) := fun {x} hx {u} {i} hu hor => by
    have h1 := itr_swp hk2 hu i
    rw [hback] at h1
    rcases hor with e | e
    · have e2 : x = itr (stp a b l) i (swp u) := by rw [h1, ← e, swp_swp]
      rw [e2, owN_itr hs (VW_swp hu)]
    · have e2 : x = bk (itr (stp a b l) i (swp u)) := by rw [h1, ← swp_bk, ← e, swp_swp]
      rw [e2, owN_bk, owN_itr hs (VW_swp hu)]
  obtain ⟨u1, i1, a1, a2, a3, a4⟩ := on_head (l := mapL 4 a b l) hs2 (VW_swp hw)
  obtain ⟨u2, i2, b1, b2, b3, b4⟩ := on_head (l := mapL 4 a b l) hs2 (VW_swp hv)
  have hu : u1 = u2 := by
    rw [h] at a3
    rw [a3] at b3
    have p1 := per_spec (l := mapL 4 a b l) hs2.1 hs2.2.2.1 a1
    have p2 := per_spec (l := mapL 4 a b l) hs2.1 hs2.2.2.1 b1
    have g1 := orb_getD (a := b) (b := a) (l := mapL 4 a b l) (w := u1) (i := 0) u1 (by omega)
    have g2 := orb_getD (a := b) (b := a) (l := mapL 4 a b l) (w := u2) (i := 0) u1 (by omega)
    rw [b3, g2] at g1
    exact g1.symm
  rw [key hw a1 a4, key hv b1 b4, hu]
theorem nodup_len : ∀ {L M : List Int}, L.Nodup → (∀ x ∈ L, x ∈ M) → L.length ≤ M.length
  | [], _, _, _ => Nat.zero_le _
  | x :: L, M, h, hs => by
    rw [List.nodup_cons] at h
    have hx := hs x (List.mem_cons_self ..)
    have hp := List.perm_cons_erase hx
    have ih := nodup_len (L := L) (M := M.erase x) h.2 (fun y hy => by
      have hy2 := hs y (List.mem_cons_of_mem _ hy)
      rw [List.mem_erase_of_ne (by rintro rfl; exact h.1 hy)]
      exact hy2)
    have e := hp.length_eq
    simp only [List.length_cons] at *
    omega
theorem cnt_le_swp {a b : Int} {l : List Int} (hk : okP a b l = true) : cnt a b l ≤ cnt b a (mapL 4 a b l) := by
  have hs := okP_size hk
  have hk2 : okP b a (mapL 4 a b l) = true := mapL_ok (s := 4) (by decide) hk
  have hs2 := okP_size hk2
  have hf : ∀ c : Nat, ∃ w, c < cnt a b l → VW a b w ∧ owN a b l w = c := fun c => by
    by_cases hc : c < cnt a b l
    · obtain ⟨w, h1, h2, _⟩ := owN_head hs hc
      exact ⟨w, fun _ => ⟨h1, h2⟩⟩
    · exact ⟨(0, 0, 0, 0), fun h => absurd h hc⟩
  let f : Nat → Wk := fun c => Classical.choose (hf c)
  have hfs : ∀ c : Nat, c < cnt a b l → VW a b (f c) ∧ owN a b l (f c) = c := fun c hc => Classical.choose_spec (hf c) hc
  have hn : ((List.range (cnt a b l)).map fun c => owN b a (mapL 4 a b l) (swp (f c))).Nodup := by
    unfold List.Nodup
    rw [List.pairwise_map]
    refine List.Pairwise.imp_of_mem ?_ List.nodup_range
    intro c d hc hd hne he
    have h1 := hfs c (List.mem_range.1 hc)
    have h2 := hfs d (List.mem_range.1 hd)
    have h3 := own_swp hk h1.1 h2.1 he
    rw [h1.2, h2.2] at h3
    exact hne (by omega)
  have h4 := nodup_len hn (M := (List.range (cnt b a (mapL 4 a b l))).map (fun (k : Nat) => (k : Int))) (fun x hx => by
    obtain ⟨c, hc, rfl⟩ := List.mem_map.1 hx
    have h1 := hfs c (List.mem_range.1 hc)
    have h5 := owN_rng (l := mapL 4 a b l) hs2 (VW_swp h1.1)
    exact List.mem_map.2 ⟨(owN b a (mapL 4 a b l) (swp (f c))).toNat, List.mem_range.2 (by omega), by omega⟩)
  rw [List.length_map, List.length_map, List.length_range, List.length_range] at h4
  exact h4
/-- a panel with its sides exchanged has as many curves -/
theorem cnt_swp {a b : Int} {l : List Int} (hk : okP a b l = true) : cnt b a (mapL 4 a b l) = cnt a b l := by
  have hk2 : okP b a (mapL 4 a b l) = true := mapL_ok (s := 4) (by decide) hk
  have hback : mapL 4 b a (mapL 4 a b l) = l := (mapL_comp (s := 4) (t := 4) (by decide) (by decide) hk).trans (mapL_zero hk)
  have h1 := cnt_le_swp hk
  have h2 := cnt_le_swp hk2
  rw [hback] at h2
  omega

end Go.Proofs.Ytmfinopdokkjcaa
