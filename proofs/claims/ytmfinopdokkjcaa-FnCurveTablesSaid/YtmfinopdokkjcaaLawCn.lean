/- Contracts of functions, printed by program from annotations. -/
import Derived.Test.YtmfinopdokkjcaaMpE
import Derived.Test.YtmfinopdokkjcaaRead
namespace Go.Proofs.Ytmfinopdokkjcaa
open Go Go.AW Go.RowKit
set_option linter.unusedVariables false
set_option linter.unusedSimpArgs false

theorem bAt_aL {a b : ByteArray} {i : Nat} (h : i < a.size) : bAt (a ++ b) i = bAt a i := by
  have h2 : i < a.data.toList.length := by simpa using h
  unfold bAt
  rw [ByteArray.data_append, Array.toList_append, List.getD, List.getElem?_append_left h2]
  rfl
theorem bAt_aR (a b : ByteArray) (i : Nat) : bAt (a ++ b) (a.size + i) = bAt b i := by
  have h2 : a.size = a.data.toList.length := Array.length_toList.symm
  unfold bAt
  rw [ByteArray.data_append, Array.toList_append, h2, List.getD, List.getElem?_append_right (Nat.le_add_right _ _), Nat.add_sub_cancel_left]
  rfl
theorem bAt_s1 {c : Int} (h0 : 0 ≤ c) (h1 : c ≤ 255) : bAt (strOf [c]) 0 = c := by
  unfold bAt strOf
  simp only [List.map_cons, List.map_nil, List.getD_cons_zero]
  rw [UInt8.toNat_ofNat']
  omega
theorem decB_one {a : Int} (h0 : 1 ≤ a) (h1 : a ≤ 9) : decB a = strOf [48 + a] := by
  rw [decB_pos (by omega), digs_pos (by omega), show a.natAbs / 10 = 0 by omega, digs_zero, List.nil_append]
  congr 2
  omega
theorem ptB_form {a b : Int} (ha : 1 ≤ a ∧ a ≤ 8) (hb : 1 ≤ b ∧ b ≤ 8) : (ptB a b).size = 4 ∧ bAt (ptB a b) 0 = 48 + a ∧ bAt (ptB a b) 2 = 48 + b := by
  have z : ∀ c : Int, (strOf [c]).size = 1 := fun c => size_strOf [c]
  have z2 : (strOf [48 + a] ++ strOf [120]).size = 2 := by rw [ByteArray.size_append, z, z]
  have z3 : ((strOf [48 + a] ++ strOf [120]) ++ strOf [48 + b]).size = 3 := by rw [ByteArray.size_append, z2, z]
  unfold ptB
  rw [decB_one ha.1 (by omega), decB_one hb.1 (by omega)]
  refine ⟨by rw [ByteArray.size_append, z3, z], ?_, ?_⟩
  · rw [bAt_aL (by omega), bAt_aL (by omega), bAt_aL (by rw [z]; decide), bAt_s1 (by omega) (by omega)]
  · have h := bAt_aR (strOf [48 + a] ++ strOf [120]) (strOf [48 + b]) 0
    rw [z2] at h
    rw [bAt_aL (by omega), h, bAt_s1 (by omega) (by omega)]
def chB (k : Int) : Int := if k = 0 then 43 else if k = 1 then 124 else 45
theorem chS_at {k : Int} (h0 : 0 ≤ k) (h1 : k ≤ 2) : bAt (chS k) 0 = chB k := by
  have : k = 0 ∨ k = 1 ∨ k = 2 := by omega
  rcases this with rfl | rfl | rfl <;> rfl
theorem chB_inj {x y : Int} (hx : 0 ≤ x ∧ x ≤ 2) (hy : 0 ≤ y ∧ y ≤ 2) (h : chB x = chB y) : x = y := by
  unfold chB at h
  split at h <;> split at h <;> (try split at h) <;> (try split at h) <;> omega
theorem ptTo_base {base : ByteArray} {l : List Int} (hl : ∀ x ∈ l, 0 ≤ x ∧ x ≤ 2) {i : Nat} (hi : i < base.size) : ∀ k, k ≤ l.length → bAt (ptTo base l k) i = bAt base i
  | 0, _ => rfl
  | k + 1, h => by
    have hz := ptTo_size (base := base) hl k (by omega)
    show bAt (ptTo base l k ++ chS (l.getD k 0)) i = _
    rw [bAt_aL (by omega), ptTo_base hl hi k (by omega)]
theorem ptTo_at {base : ByteArray} {l : List Int} (hl : ∀ x ∈ l, 0 ≤ x ∧ x ≤ 2) {j : Nat} : ∀ k, k ≤ l.length → j < k → bAt (ptTo base l k) (base.size + j) = chB (l.getD j 0)
  | 0, _, h => absurd h (Nat.not_lt_zero _)
  | k + 1, h, hj => by
    have hz := ptTo_size (base := base) hl k (by omega)
    show bAt (ptTo base l k ++ chS (l.getD k 0)) (base.size + j) = _
    rcases Nat.lt_or_ge j k with h1 | h1
    · rw [bAt_aL (by omega), ptTo_at hl k (by omega) h1]
    · have e : j = k := by omega
      subst e
      have hm := hl _ (mem_getD 0 (show j < l.length by omega))
      have h2 := bAt_aR (ptTo base l j) (chS (l.getD j 0)) 0
      rw [hz, Nat.add_zero] at h2
      rw [h2, chS_at hm.1 hm.2]
theorem ptT_inj {p q : Int × Int × List Int} (hp : okP p.1 p.2.1 p.2.2 = true) (hq : okP q.1 q.2.1 q.2.2 = true) (hl : p.2.2.length = q.2.2.length) (h : ptT p = ptT q) : p = q := by
  obtain ⟨a, b, l⟩ := p
  obtain ⟨a', b', m⟩ := q
  obtain ⟨s1, -, x1⟩ := okP_spec hp
  obtain ⟨s2, -, x2⟩ := okP_spec hq
  unfold SizeOk at s1 s2
  simp only at s1 s2 x1 x2 hl
  obtain ⟨f1, f2, f3⟩ := ptB_form (a := a) (b := b) (by omega) (by omega)
  obtain ⟨g1, g2, g3⟩ := ptB_form (a := a') (b := b') (by omega) (by omega)
  have e0 := congrArg (fun t => bAt t 0) h
  have e2 := congrArg (fun t => bAt t 2) h
  unfold ptT at e0 e2
  simp only at e0 e2
  rw [ptTo_base x1 (by omega) _ (Nat.le_refl _), ptTo_base x2 (by omega) _ (Nat.le_refl _), f2, g2] at e0
  rw [ptTo_base x1 (by omega) _ (Nat.le_refl _), ptTo_base x2 (by omega) _ (Nat.le_refl _), f3, g3] at e2
  have ha : a = a' := by omega
  have hb : b = b' := by omega
  have hlm : l = m := ext_getD 0 hl (fun j hj => by
    have e4 := congrArg (fun t => bAt t (4 + j)) h
    unfold ptT at e4
    simp only at e4
    have t1 := ptTo_at (base := ptB a b) x1 (j := j) l.length (Nat.le_refl _) hj
    have t2 := ptTo_at (base := ptB a' b') x2 (j := j) m.length (Nat.le_refl _) (by omega)
    rw [f1] at t1
    rw [g1] at t2
    rw [t1, t2] at e4
    exact chB_inj (x1 _ (mem_getD 0 hj)) (x2 _ (mem_getD 0 (by omega))) e4)
  rw [ha, hb, hlm]
theorem addK_yes {α : Type} [DecidableEq α] {l : List α} {x : α} (h : x ∈ l) : addK l x = l := by unfold addK; rw [if_pos h]
theorem addK_no {α : Type} [DecidableEq α] {l : List α} {x : α} (h : x ∉ l) : addK l x = l ++ [x] := by unfold addK; rw [if_neg h]
theorem mem_keyA {a b : Int} {x : ByteArray} : ∀ {n : Nat}, x ∈ keyA a b n ↔ ∃ i, i < n ∧ x = ptT (caP a b i)
  | 0 => by
    constructor
    · intro h
      exact absurd (show x ∈ ([] : List ByteArray) from h) List.not_mem_nil
    · rintro ⟨i, h, _⟩
      exact absurd h (Nat.not_lt_zero _)
  | n + 1 => by
    show x ∈ addK (keyA a b n) (ptT (caP a b n)) ↔ _
    rw [mem_addK, mem_keyA]
    constructor
    · rintro (⟨i, h1, h2⟩ | h)
      · exact ⟨i, by omega, h2⟩
      · exact ⟨n, by omega, h⟩
    · rintro ⟨i, h1, h2⟩
      rcases Nat.lt_or_ge i n with h3 | h3
      · exact .inl ⟨i, h3, h2⟩
      · rw [show i = n by omega] at h2
        exact .inr h2
theorem key_mem {a b : Int} (hs : SizeOk a b) (n : Nat) : ptT (caP a b n) ∈ keyA a b n ↔ ∃ i, i < n ∧ isIm a b i n := by
  rw [mem_keyA]
  constructor
  · rintro ⟨i, h1, h2⟩
    refine ⟨i, h1, (ca_iff hs i n).1 ?_⟩
    have o1 := caP_ok hs n
    have o2 := caP_ok hs i
    exact (ptT_inj o1.1 o2.1 (o1.2.trans o2.2.symm) h2).symm
  · rintro ⟨i, h1, h2⟩
    exact ⟨i, h1, by rw [(ca_iff hs i n).2 h2]⟩
theorem im_num {a b : Int} (hs : SizeOk a b) (hm : many a b ≤ 2500) {n j : Nat} (hj : j < many a b) : isIm a b n j ↔ ∃ s, s < 8 ∧ (mpA s a b = a ∧ mpB s a b = b) ∧ (numTo (mapL s a b (pdig n (inn a b))) (inn a b)).toNat = j := by
  constructor
  · rintro ⟨s, h1, h2, h3, h4⟩
    refine ⟨s, h1, ⟨h2, h3⟩, ?_⟩
    rw [h4, numTo_pdig, many_p3 hm, Nat.mod_eq_of_lt hj, Int.toNat_natCast]
  · rintro ⟨s, h1, ⟨h2, h3⟩, h4⟩
    refine ⟨s, h1, h2, h3, ?_⟩
    obtain ⟨-, -, hx⟩ := okP_spec (mapL_ok h1 (okP_pdig hs n))
    have h5 := (pdig_num _ hx).2.2
    rw [length_mapL, h4] at h5
    exact h5.symm
theorem mkS_iff {a b : Int} (hs : SizeOk a b) (hm : many a b ≤ 2500) {n j : Nat} {seen : List Bool} (hl : seen.length = many a b) (hj : j < many a b) : ∀ {s : Nat}, s ≤ 8 → ((mkS a b n seen s).getD j false = true ↔ seen.getD j false = true ∨ ∃ t, t < s ∧ (mpA t a b = a ∧ mpB t a b = b) ∧ (numTo (mapL t a b (pdig n (inn a b))) (inn a b)).toNat = j)
  | 0, _ => ⟨.inl, fun h => h.elim id (fun ⟨t, h, _⟩ => absurd h (Nat.not_lt_zero _))⟩
  | s + 1, h8 => by
    have ih := mkS_iff hs hm (n := n) hl hj (s := s) (by omega)
    by_cases h : mpA s a b = a ∧ mpB s a b = b
    · rw [mkS_yes h]
      by_cases e : (numTo (mapL s a b (pdig n (inn a b))) (inn a b)).toNat = j
      · rw [e, getD_set_eq (by rw [length_mkS, hl]; exact hj)]
        exact ⟨fun _ => .inr ⟨s, by omega, h, e⟩, fun _ => rfl⟩
      · rw [getD_set_ne e, ih]
        constructor
        · rintro (h1 | ⟨t, h1, h2⟩)
          · exact .inl h1
          · exact .inr ⟨t, by omega, h2⟩
        · rintro (h1 | ⟨t, h1, h2⟩)
          · exact .inl h1
          · rcases Nat.lt_or_ge t s with h3 | h3
            · exact .inr ⟨t, h3, h2⟩
            · rw [show t = s by omega] at h2
              exact absurd h2.2 e
    · rw [mkS_no h, ih]
      constructor
      · rintro (h1 | ⟨t, h1, h2⟩)
        · exact .inl h1
        · exact .inr ⟨t, by omega, h2⟩
      · rintro (h1 | ⟨t, h1, h2⟩)
        · exact .inl h1
        · rcases Nat.lt_or_ge t s with h3 | h3
          · exact .inr ⟨t, h3, h2⟩
          · rw [show t = s by omega] at h2
            exact absurd h2.1 h
theorem seen_iff {a b : Int} (hs : SizeOk a b) (hm : many a b ≤ 2500) {j : Nat} (hj : j < many a b) : ∀ {n : Nat}, (spS a b n).1.getD j false = true ↔ ∃ i, i < n ∧ isIm a b i j
  | 0 => by
    constructor
    · intro h
      simp [spS, List.getD, hj] at h
    · rintro ⟨i, h, _⟩
      exact absurd h (Nat.not_lt_zero _)
  | n + 1 => by
    have ih := seen_iff hs hm hj (n := n)
    have hup : (∃ i, i < n + 1 ∧ isIm a b i j) ↔ (∃ i, i < n ∧ isIm a b i j) ∨ isIm a b n j := by
      constructor
      · rintro ⟨i, h1, h2⟩
        rcases Nat.lt_or_ge i n with h3 | h3
        · exact .inl ⟨i, h3, h2⟩
        · rw [show i = n by omega] at h2
          exact .inr h2
      · rintro (⟨i, h1, h2⟩ | h)
        · exact ⟨i, by omega, h2⟩
        · exact ⟨n, by omega, h⟩
    cases hc : (spS a b n).1.getD n false with
    | true =>
      rw [spS_yes hc, ih, hup]
      constructor
      · exact .inl
      · rintro (h | h)
        · exact h
        · have hn : n < many a b := by
            have := (spS_len a b n).1
            rcases Nat.lt_or_ge n (many a b) with h1 | h1
            · exact h1
            · rw [List.getD, List.getElem?_eq_none (by omega)] at hc; cases hc
          obtain ⟨i, h1, h2⟩ := (seen_iff hs hm hn (n := n)).1 hc
          exact ⟨i, h1, (ca_iff hs i j).1 (((ca_iff hs i n).2 h2).trans ((ca_iff hs n j).2 h))⟩
    | false =>
      rw [spS_no hc, hup, ← ih, im_num hs hm hj]
      exact mkS_iff hs hm (spS_len a b n).1 hj (Nat.le_refl 8)
theorem cn_count {a b : Int} (hs : SizeOk a b) (hm : many a b ≤ 2500) : ∀ n, n ≤ many a b → (spS a b n).2 = (keyA a b n).length
  | 0, _ => rfl
  | n + 1, h => by
    have ih := cn_count hs hm n (by omega)
    have h1 := seen_iff hs hm (show n < many a b by omega) (n := n)
    rw [← key_mem hs n] at h1
    cases hc : (spS a b n).1.getD n false with
    | true =>
      rw [spS_yes hc, show keyA a b (n + 1) = keyA a b n from addK_yes (h1.1 hc)]
      exact ih
    | false =>
      rw [spS_no hc, show keyA a b (n + 1) = keyA a b n ++ [ptT (caP a b n)] from addK_no (fun hh => by rw [h1.2 hh] at hc; cases hc), List.length_append, ← ih]
      rfl
theorem cn_eq (a b : Int) : cnS a b = cnN a b := by
  by_cases h : pcE a b = 0
  · obtain ⟨hs, hm, -⟩ := pc_zero h
    rw [cnS_ok h, cnN_ok h, cn_count hs hm _ (Nat.le_refl _)]
  · rw [cnS_bad h, cnN_bad h]

set_option maxRecDepth 4000 in
/-- laws.FnExactCanonicalCount -/
theorem f_l_FnExactCanonicalCount (w : World) (a : Int) (b : Int) (haa : -9223372036854775808 ≤ a) (hba : a ≤ 9223372036854775807) (hab : -9223372036854775808 ≤ b) (hbb : b ≤ 9223372036854775807) : RetV Try.prog 5 [.int .i64 a, .int .i64 b] w (.bool true) := by
  refine Ret.enter Try.func5 rfl Try.ntmps5 rfl ?_
  refine Run.seq ?_
  refine Run.region ?_
  refine Ops.pure rfl (Pure.assign rfl) ?_
  refine Ops.nil ?_
  refine Run.seq ?_
  refine Run.region ?_
  refine Ops.pure rfl (Pure.move rfl) ?_
  refine Ops.pure rfl (Pure.move rfl) ?_
  refine Ops.q rfl (QOp.call fn29 rfl (fun w hw => (f_s_CanonicalCount w a b (by omega) (by omega) (by omega) (by omega)).cong (by rw [cn_eq]))) ?_
  refine Ops.pure rfl (Pure.move rfl) ?_
  refine Ops.pure rfl (Pure.extract rfl rfl) ?_
  refine Ops.pure rfl (Pure.extract rfl rfl) ?_
  refine Ops.pure rfl (Pure.assign rfl) ?_
  refine Ops.pure rfl (Pure.assign rfl) ?_
  refine Ops.nil ?_
  refine Run.seq ?_
  refine Run.region ?_
  refine Ops.pure rfl (Pure.move rfl) ?_
  refine Ops.pure rfl (Pure.move rfl) ?_
  refine Ops.q rfl (QOp.call fn30 rfl (fun w hw => f_i_CanonicalCount w _ _ (by assumption) (by assumption) (by assumption) (by assumption))) ?_
  refine Ops.pure rfl (Pure.move rfl) ?_
  refine Ops.pure rfl (Pure.extract rfl rfl) ?_
  refine Ops.pure rfl (Pure.extract rfl rfl) ?_
  refine Ops.pure rfl (Pure.assign rfl) ?_
  refine Ops.pure rfl (Pure.assign rfl) ?_
  refine Ops.nil ?_
  refine Run.seq ?_
  refine Run.seq ?_
  refine Run.region ?_
  refine Ops.pure rfl (Pure.move rfl) ?_
  refine Ops.pure rfl (Pure.move rfl) ?_
  refine Ops.pure rfl (Pure.neq rfl rfl) ?_
  refine Ops.pure rfl (Pure.move rfl) ?_
  refine Ops.guardY rfl rfl rfl (by simp) ?_
  refine Ops.pure rfl (Pure.move rfl) ?_
  refine Ops.guardY rfl rfl rfl (by simp) ?_
  refine Ops.pure rfl (Pure.move rfl) ?_
  refine Ops.guardY rfl rfl rfl (by simp) ?_
  refine Ops.pure rfl (Pure.neq rfl rfl) ?_
  refine Ops.pure rfl (Pure.pickF rfl (by simp) rfl) ?_
  refine Ops.nil ?_
  refine Run.condEF rfl (by simp) ?_
  refine Run.skip ?_
  refine Run.seq ?_
  refine Run.region ?_
  refine Ops.pure rfl (Pure.assign rfl) ?_
  refine Ops.nil ?_
  refine Run.ret1 rfl rfl ?_
  rfl

end Go.Proofs.Ytmfinopdokkjcaa
