/- Contracts of functions, printed by program from annotations. -/
import Derived.Test.YtmfinopdokkjcaaMeet2
namespace Go.Proofs.Ytmfinopdokkjcaa
open Go Go.AW Go.RowKit
set_option linter.unusedVariables false
set_option linter.unusedSimpArgs false

set_option maxRecDepth 4000 in
set_option maxHeartbeats 800000 in
/-- spec.DrawDistanceOf -/
theorem f_s_DrawDistanceOf (w : World) (vc : Value) (co : List Int) (hc : Rd w vc 1 co.length (AW.bytes co)) (hb : ∀ x ∈ co, 0 ≤ x ∧ x ≤ 255) (hcl : co.length ≤ 1000000000) : Ret Try.prog 63 [vc] w (fun u L => ∃ (a c : Int) (l : List Int) (v : Value) (e f : Int) (m : List Int) (x : Value), -9223372036854775808 ≤ a ∧ a ≤ 9 ∧ 1 ≤ c ∧ c ≤ 9 ∧ l.length ≤ 120 ∧ v.oneCell' = true ∧ -9223372036854775808 ≤ e ∧ e ≤ 9 ∧ 1 ≤ f ∧ f ≤ 9 ∧ m.length ≤ 120 ∧ x.oneCell' = true ∧ u = .tuple #[.agg #[.int .i64 a, .int .i64 c, v], .agg #[.int .i64 e, .int .i64 f, x]] ∧ L = [.row 2 1 v l.length (ints l), .row 2 1 x m.length (ints m)]) := by
  have hv1 := hc.one
  refine Ret.enter Try.func63 rfl Try.ntmps63 rfl ?_
  refine Run.seq ?_
  refine Run.region ?_
  refine Ops.go rfl (Loud.alloc zero35 rfl) ?_
  rintro _ _ ⟨b2, rfl, rfl⟩
  refine Ops.go rfl (Loud.alloc zero35 rfl) ?_
  rintro _ _ ⟨b3, rfl, rfl⟩
  refine Ops.nil ?_
  refine Run.seq ?_
  refine Run.region ?_
  refine Ops.pure rfl (Pure.move rfl) ?_
  refine Ops.go rfl (Loud.callR fn87 rfl (fun w hw => f_s_l00From w vc co hv1)) ?_
  rintro v9 _ ⟨L9, hQ9, rfl⟩
  obtain ⟨b9, rfl, rfl⟩ := hQ9
  refine Ops.pure rfl (Pure.assign rfl) ?_
  refine Ops.nil ?_
  refine Run.seq ?_
  refine Run.region ?_
  refine Ops.pure rfl (Pure.move rfl) ?_
  refine Ops.go rfl (Loud.callO fn120 rfl (fun w hw => f_s_l02Bent _ w _ vc co _ _ _ (Sat.front 0 rfl hw) hc hb hcl (by omega))) ?_
  rintro v11 L11 hQ11
  obtain ⟨a11, c11, l11, x11, q11, sd11, ha11, hA11, hc11, hC11, hn11, h11, hq11, rfl, rfl⟩ := hQ11
  refine Ops.go rfl (Loud.alloc zero35 rfl) ?_
  rintro _ _ ⟨b5, rfl, rfl⟩
  refine Ops.store (Stores.box 0 rfl rfl rfl size35 (one3 h11) rfl rfl) ?_
  refine Ops.nil ?_
  refine Run.seq ?_
  refine Run.region ?_
  refine Ops.go rfl (Loud.callR fn136 rfl (fun w hw => f_s_l02Own w _ a11 c11 x11 l11 (RdL.boxM 0 rfl rfl w hw) (RdL.own 1 rfl w hw) (by omega))) ?_
  rintro v12 _ ⟨L12, hQ12, rfl⟩
  obtain ⟨x12, h12, rfl, rfl⟩ := hQ12
  refine Ops.go rfl (Loud.alloc zero35 rfl) ?_
  rintro _ _ ⟨b6, rfl, rfl⟩
  refine Ops.store (Stores.box 0 rfl rfl rfl size35 (one3 h12) rfl rfl) ?_
  refine Ops.nil ?_
  refine Run.seq ?_
  refine Run.seq ?_
  refine Run.region ?_
  refine Ops.pure rfl (Pure.assign rfl) ?_
  refine Ops.nil ?_
  refine Run.block ?_
  refine Run.loop4 (X := Nat) (Y := List Int) (Z := Nat) (V := Int) (fun i m q' sd' => [(2, .pointer (some ⟨b2, 0, none⟩)), (3, .pointer (some ⟨b3, 0, none⟩)), (4, .pointer (some ⟨b9, 0, none⟩)), (5, .pointer (some ⟨b5, 0, none⟩)), (6, .pointer (some ⟨b6, 0, none⟩)), (7, .int .i64 i)]) (fun i m q' sd' => [.box b6 35 [.int .i64 a11, .int .i64 c11, x12], .row 2 1 x12 l11.length (ints m), .box b5 35 [.int .i64 a11, .int .i64 c11, x11], .row 2 1 x11 l11.length (ints l11), srcE b9 vc q' sd', .box b3 35 [.int .i64 0, .int .i64 0, .slice none 0 0], .box b2 35 [.int .i64 0, .int .i64 0, .slice none 0 0]]) (fun i m q' sd' => m.length = l11.length ∧ i ≤ l11.length ∧ q' ≤ 3000 + 4 * i) (fun i m q' sd' => l11.length - i) 0 l11 q11 sd11 ?_ ?_ ?_ ?_
  · exact ⟨rfl, Nat.zero_le _, by omega⟩
  · exact ⟨rfl, rfl, rfl, rfl, rfl, rfl, trivial⟩
  · exact Ext.refl _
  · intro i m q' sd' hinv0
    obtain ⟨hml, hil, hql⟩ := id hinv0
    have hmi : (ints m).length = l11.length := by rw [ints, List.length_map]; exact hml
    refine Run.seq ?_
    refine Run.seq ?_
    refine Run.region ?_
    refine Ops.pure rfl (Pure.move rfl) ?_
    refine Ops.pure rfl (Pure.fieldAddrB fld35_2 rfl) ?_
    refine Ops.pure rfl (Pure.ldB 0 rfl cell32 rfl rfl) ?_
    refine Ops.pure rfl (Pure.len sl32 (RdL.own 1 rfl) rfl) ?_
    refine Ops.pure rfl (Pure.lss rfl rfl) ?_
    refine Ops.nil ?_
    refine Run.cond rfl (fun c17 => ?_) (fun c17 => ?_)
    · skip
      replace c17 := dT c17
      refine Run.skip ?_
      refine Run.seq ?_
      refine Run.block ?_
      refine Run.seq ?_
      refine Run.region ?_
      refine Ops.pure rfl (Pure.move rfl) ?_
      refine Ops.go rfl (Loud.callO fn116 rfl (fun w hw => f_s_l00Src_one _ w _ vc co _ _ _ 4 (Sat.front 4 rfl hw) hc hb hcl (by omega) (by omega))) ?_
      rintro v21 L21 hQ21
      obtain ⟨x21, q21, sd21, hq21, rfl, rfl⟩ := hQ21
      refine Ops.nil ?_
      refine Run.cond rfl (fun c21 => ?_) (fun c21 => ?_)
      · skip
        skip
        refine AnyK.start ([.box b6 35 [.int .i64 a11, .int .i64 c11, x12]]) follows (Ext.take 1 rfl (Ext.nil _)) ?_
        refine AnyK.take 0 rfl (by kernel_rfl) rfl (QOp.pure (Pure.fieldAddrB fld35_2 rfl)) ?_
        refine AnyK.take 1 rfl (by kernel_rfl) rfl (QOp.pure (Pure.ldB 0 rfl cell32 rfl rfl)) ?_
        refine AnyK.take 2 rfl (by kernel_rfl) rfl (QOp.pure (Pure.move rfl)) ?_
        refine AnyK.take 3 rfl (by kernel_rfl) rfl (QOp.pure (Pure.move rfl)) ?_
        refine AnyK.one 4 (by kernel_rfl) ?_
        refine OneK.loud rfl rfl (Loud.callO fn118 rfl (fun w hw => f_s_l00Src_pick _ w _ vc co _ _ _ 3 (Sat.front 0 rfl hw) hc hb hcl (by omega) (by omega))) ?_
        rintro v26 L26 hQ26
        obtain ⟨x26, q26, sd26, hx26, hy26, hq26, rfl, rfl⟩ := hQ26
        refine ⟨(by first | exact Ext.take 1 rfl (Ext.nil _) | exact Ext.take 0 rfl (Ext.nil _)), ?_⟩
        refine AnyK.one 5 (by kernel_rfl) ?_
        refine OneK.q rfl rfl (QOp.pure (Pure.idx1N sl32 (RdL.own 2 rfl) rfl rfl (by first | assumption | omega | (simp; omega)))) ?_
        refine AnyK.one 6 (by kernel_rfl) ?_
        refine OneK.store rfl (Stores.row1 2 rfl size2 rfl rfl rfl (by first | assumption | omega | (simp; omega))) (by first | exact Ext.take 1 rfl (Ext.nil _) | exact Ext.take 0 rfl (Ext.nil _)) ?_
        refine AnyK.done (by kernel_rfl) ?_
        refine Run.blk ?_
        refine Run.region ?_
        refine Ops.pure rfl (Pure.move rfl) ?_
        refine Ops.pure rfl (Pure.add rfl rfl (by omega) (by omega)) ?_
        refine Ops.pure rfl (Pure.assign rfl) ?_
        refine Ops.nil ?_
        refine Run.asrt ?_
        first
          | (refine ⟨i + 1, m.set i x26, q26, sd26, ⟨⟨by rw [List.length_set]; exact hml, by omega, by omega⟩, by omega⟩, ⟨rfl, rfl, rfl, rfl, rfl, rfl, trivial⟩, ?_⟩
             rw [ints, List.map_set]
             exact Ext.take 1 rfl (Ext.take 1 rfl (Ext.take 1 rfl (Ext.take 1 rfl (Ext.refl _)))))
          | (refine ⟨i + 1, m, q21, sd21, ⟨⟨hml, by omega, by omega⟩, by omega⟩, ⟨rfl, rfl, rfl, rfl, rfl, rfl, trivial⟩, ?_⟩
             exact Ext.take 1 rfl (Ext.take 1 rfl (Ext.take 1 rfl (Ext.take 1 rfl (Ext.refl _)))))
      · skip
        skip
        refine Run.skip ?_
        refine Run.blk ?_
        refine Run.region ?_
        refine Ops.pure rfl (Pure.move rfl) ?_
        refine Ops.pure rfl (Pure.add rfl rfl (by omega) (by omega)) ?_
        refine Ops.pure rfl (Pure.assign rfl) ?_
        refine Ops.nil ?_
        refine Run.asrt ?_
        first
          | (refine ⟨i + 1, m.set i x26, q26, sd26, ⟨⟨by rw [List.length_set]; exact hml, by omega, by omega⟩, by omega⟩, ⟨rfl, rfl, rfl, rfl, rfl, rfl, trivial⟩, ?_⟩
             rw [ints, List.map_set]
             exact Ext.take 1 rfl (Ext.take 1 rfl (Ext.take 1 rfl (Ext.take 1 rfl (Ext.refl _)))))
          | (refine ⟨i + 1, m, q21, sd21, ⟨⟨hml, by omega, by omega⟩, by omega⟩, ⟨rfl, rfl, rfl, rfl, rfl, rfl, trivial⟩, ?_⟩
             exact Ext.take 1 rfl (Ext.take 1 rfl (Ext.take 1 rfl (Ext.take 1 rfl (Ext.refl _)))))
    · skip
      replace c17 := dF c17
      refine Run.exit rfl ?_
      refine Run.seq ?_
      refine Run.seq ?_
      refine Run.region ?_
      refine Ops.pure rfl (Pure.move rfl) ?_
      refine Ops.go rfl (Loud.callO fn116 rfl (fun w hw => f_s_l00Src_one _ w _ vc co _ _ _ 6 (Sat.front 4 rfl hw) hc hb hcl (by omega) (by omega))) ?_
      rintro v29 L29 hQ29
      obtain ⟨x29, q29, sd29, hq29, rfl, rfl⟩ := hQ29
      refine Ops.nil ?_
      refine Run.cond rfl (fun c29 => ?_) (fun c29 => ?_)
      · skip
        skip
        refine Run.region ?_
        refine Ops.pure rfl (Pure.move rfl) ?_
        refine Ops.go rfl (Loud.callO fn120 rfl (fun w hw => f_s_l02Bent _ w _ vc co _ _ _ (Sat.front 0 rfl hw) hc hb hcl (by omega))) ?_
        rintro v31 L31 hQ31
        obtain ⟨a31, c31, l31, x31, q31, sd31, ha31, hA31, hc31, hC31, hn31, h31, hq31, rfl, rfl⟩ := hQ31
        refine Ops.store (Stores.box 2 rfl rfl rfl size35 (one3 h31) rfl rfl) ?_
        refine Ops.nil ?_
        refine Run.seq ?_
        refine Any.start follows ?_
        refine Any.take 0 rfl (by kernel_rfl) rfl (QOp.pure (Pure.ldBA 4 rfl cell35 rfl rfl rfl)) ?_
        refine Any.two 1 2 (by kernel_rfl) ?_ ?_
        · skip
          refine OneL.q rfl rfl (QOp.pure (Pure.ldBA 2 rfl cell35 rfl rfl rfl)) ?_
          refine Any.one 2 (by kernel_rfl) ?_
          first
            | refine OneL.store rfl (Stores.box 6 rfl rfl rfl size35 (one3 h11) rfl rfl) (by kernel_rfl) ?_
            | refine OneL.store rfl (Stores.box 7 rfl rfl rfl size35 (one3 h11) rfl rfl) (by kernel_rfl) ?_
          refine Any.one 3 (by kernel_rfl) ?_
          first
            | refine OneL.store rfl (Stores.box 5 rfl rfl rfl size35 (one3 h12) rfl rfl) (by kernel_rfl) ?_
            | refine OneL.store rfl (Stores.box 6 rfl rfl rfl size35 (one3 h31) rfl rfl) (by kernel_rfl) ?_
          refine Any.done (by kernel_rfl) ?_
          first
            | refine Run.retCC 6 5 rfl rfl rfl rfl cell35 rfl rfl cell35 rfl (Ext.take 4 rfl (Ext.take 2 rfl (Ext.nil _))) ?_
            | refine Run.retCC 7 6 rfl rfl rfl rfl cell35 rfl rfl cell35 rfl (Ext.take 5 rfl (Ext.take 0 rfl (Ext.nil _))) ?_
          first
            | exact ⟨a11, c11, l11, x11, a11, c11, m, x12, by omega, by omega, by omega, by omega, by omega, h11, by omega, by omega, by omega, by omega, by omega, h12, rfl, by rw [hml]⟩
            | exact ⟨a11, c11, l11, x11, a31, c31, l31, x31, by omega, by omega, by omega, by omega, by omega, h11, by omega, by omega, by omega, by omega, by omega, h31, rfl, rfl⟩
        · skip
          first
            | refine OneL.store rfl (Stores.box 6 rfl rfl rfl size35 (one3 h11) rfl rfl) (by kernel_rfl) ?_
            | refine OneL.store rfl (Stores.box 7 rfl rfl rfl size35 (one3 h11) rfl rfl) (by kernel_rfl) ?_
          refine Any.take 1 rfl (by kernel_rfl) rfl (QOp.pure (Pure.ldBA 2 rfl cell35 rfl rfl rfl)) ?_
          refine Any.one 3 (by kernel_rfl) ?_
          first
            | refine OneL.store rfl (Stores.box 5 rfl rfl rfl size35 (one3 h12) rfl rfl) (by kernel_rfl) ?_
            | refine OneL.store rfl (Stores.box 6 rfl rfl rfl size35 (one3 h31) rfl rfl) (by kernel_rfl) ?_
          refine Any.done (by kernel_rfl) ?_
          first
            | refine Run.retCC 6 5 rfl rfl rfl rfl cell35 rfl rfl cell35 rfl (Ext.take 4 rfl (Ext.take 2 rfl (Ext.nil _))) ?_
            | refine Run.retCC 7 6 rfl rfl rfl rfl cell35 rfl rfl cell35 rfl (Ext.take 5 rfl (Ext.take 0 rfl (Ext.nil _))) ?_
          first
            | exact ⟨a11, c11, l11, x11, a11, c11, m, x12, by omega, by omega, by omega, by omega, by omega, h11, by omega, by omega, by omega, by omega, by omega, h12, rfl, by rw [hml]⟩
            | exact ⟨a11, c11, l11, x11, a31, c31, l31, x31, by omega, by omega, by omega, by omega, by omega, h11, by omega, by omega, by omega, by omega, by omega, h31, rfl, rfl⟩
      · skip
        skip
        refine Run.skip ?_
        refine Run.seq ?_
        refine Any.start follows ?_
        refine Any.take 0 rfl (by kernel_rfl) rfl (QOp.pure (Pure.ldBA 3 rfl cell35 rfl rfl rfl)) ?_
        refine Any.two 1 2 (by kernel_rfl) ?_ ?_
        · skip
          refine OneL.q rfl rfl (QOp.pure (Pure.ldBA 1 rfl cell35 rfl rfl rfl)) ?_
          refine Any.one 2 (by kernel_rfl) ?_
          first
            | refine OneL.store rfl (Stores.box 6 rfl rfl rfl size35 (one3 h11) rfl rfl) (by kernel_rfl) ?_
            | refine OneL.store rfl (Stores.box 7 rfl rfl rfl size35 (one3 h11) rfl rfl) (by kernel_rfl) ?_
          refine Any.one 3 (by kernel_rfl) ?_
          first
            | refine OneL.store rfl (Stores.box 5 rfl rfl rfl size35 (one3 h12) rfl rfl) (by kernel_rfl) ?_
            | refine OneL.store rfl (Stores.box 6 rfl rfl rfl size35 (one3 h31) rfl rfl) (by kernel_rfl) ?_
          refine Any.done (by kernel_rfl) ?_
          first
            | refine Run.retCC 6 5 rfl rfl rfl rfl cell35 rfl rfl cell35 rfl (Ext.take 4 rfl (Ext.take 2 rfl (Ext.nil _))) ?_
            | refine Run.retCC 7 6 rfl rfl rfl rfl cell35 rfl rfl cell35 rfl (Ext.take 5 rfl (Ext.take 0 rfl (Ext.nil _))) ?_
          first
            | exact ⟨a11, c11, l11, x11, a11, c11, m, x12, by omega, by omega, by omega, by omega, by omega, h11, by omega, by omega, by omega, by omega, by omega, h12, rfl, by rw [hml]⟩
            | exact ⟨a11, c11, l11, x11, a31, c31, l31, x31, by omega, by omega, by omega, by omega, by omega, h11, by omega, by omega, by omega, by omega, by omega, h31, rfl, rfl⟩
        · skip
          first
            | refine OneL.store rfl (Stores.box 6 rfl rfl rfl size35 (one3 h11) rfl rfl) (by kernel_rfl) ?_
            | refine OneL.store rfl (Stores.box 7 rfl rfl rfl size35 (one3 h11) rfl rfl) (by kernel_rfl) ?_
          refine Any.take 1 rfl (by kernel_rfl) rfl (QOp.pure (Pure.ldBA 1 rfl cell35 rfl rfl rfl)) ?_
          refine Any.one 3 (by kernel_rfl) ?_
          first
            | refine OneL.store rfl (Stores.box 5 rfl rfl rfl size35 (one3 h12) rfl rfl) (by kernel_rfl) ?_
            | refine OneL.store rfl (Stores.box 6 rfl rfl rfl size35 (one3 h31) rfl rfl) (by kernel_rfl) ?_
          refine Any.done (by kernel_rfl) ?_
          first
            | refine Run.retCC 6 5 rfl rfl rfl rfl cell35 rfl rfl cell35 rfl (Ext.take 4 rfl (Ext.take 2 rfl (Ext.nil _))) ?_
            | refine Run.retCC 7 6 rfl rfl rfl rfl cell35 rfl rfl cell35 rfl (Ext.take 5 rfl (Ext.take 0 rfl (Ext.nil _))) ?_
          first
            | exact ⟨a11, c11, l11, x11, a11, c11, m, x12, by omega, by omega, by omega, by omega, by omega, h11, by omega, by omega, by omega, by omega, by omega, h12, rfl, by rw [hml]⟩
            | exact ⟨a11, c11, l11, x11, a31, c31, l31, x31, by omega, by omega, by omega, by omega, by omega, h11, by omega, by omega, by omega, by omega, by omega, h31, rfl, rfl⟩

theorem difN_same0 {l m : List Int} : ∀ {k : Nat}, difN l m k = 0 → ∀ j, j < k → l.getD j 0 = m.getD j 0
  | 0, _, j, hj => absurd hj (Nat.not_lt_zero _)
  | k + 1, h, j, hj => by
    by_cases e : l.getD k 0 = m.getD k 0
    · rw [difN_same e] at h
      rcases Nat.lt_or_ge j k with h1 | h1
      · exact difN_same0 h j h1
      · rw [show j = k by omega]; exact e
    · rw [difN_diff e] at h; omega
theorem ds_same {a b a' b' : Int} {l l' : List Int} (h : dsE a b l a' b' l' = 0) : decide (dsN a b l a' b' l' = 0) = decide (a = a' ∧ b = b' ∧ l = l') := by
  have hok : okP a b l = true ∧ okP a' b' l' = true := by
    unfold dsE at h
    split at h
    · assumption
    · omega
  have hs : a = a' ∧ b = b' := by
    unfold dsE at h
    rw [if_pos hok] at h
    split at h
    · assumption
    · omega
  rw [(ds_ok hok hs).2, decide_eq_decide]
  obtain ⟨rfl, rfl⟩ := hs
  have h1 := okP_inn hok.1
  have h2 := okP_inn hok.2
  constructor
  · intro hz
    exact ⟨rfl, rfl, ext_getD 0 (by omega) (fun j hj => difN_same0 (show difN l l' l.length = 0 by omega) j hj)⟩
  · rintro ⟨_, _, rfl⟩
    rw [difN_self]
    rfl
theorem cpL_len (a b : Int) (l : List Int) (c : Int) : (cpL a b l c).length ≤ 112 := by
  by_cases h : cvE a b l [c] = 0
  · rw [cp_yes h]
    have h1 := length_msL a b l [c] (inn a b)
    have h2 := inn_eq (okP_size (cvE_in h))
    omega
  · rw [cp_no h]; exact Nat.zero_le _
theorem shL_len (a b : Int) (l : List Int) (c d : Int) : (shL a b l c d).length ≤ 112 := by
  by_cases h : cvE a b l [c, d] = 0
  · by_cases he : c = d
    · rw [(sh_same h he).2]; exact Nat.zero_le _
    · rw [(sh_ok h he).2]
      have h1 := length_msL a b l [c, d] (inn a b)
      have h2 := inn_eq (okP_size (cvE_in h))
      omega
  · rw [(sh_bad h).2]; exact Nat.zero_le _
theorem sh_zero {a b c d : Int} {l : List Int} (h : shE a b l c d = 0) : cvE a b l [c] = 0 ∧ cvE a b l [d] = 0 ∧ shL a b l c d = msL a b l [c, d] (inn a b) := by
  by_cases h2 : cvE a b l [c, d] = 0
  · by_cases he : c = d
    · rw [(sh_same h2 he).1] at h; omega
    · have h3 := h2
      rw [cvE_two] at h3
      by_cases hc : cvE a b l [c] = 0
      · rw [if_pos hc] at h3
        exact ⟨hc, h3, (sh_ok h2 he).2⟩
      · rw [if_neg hc] at h3; exact absurd h3 hc
  · rw [(sh_bad h2).1] at h; exact absurd h h2
theorem mem_msL {a b : Int} {l cs : List Int} {n k : Nat} (hk : k < n) : (k : Int) ∈ msL a b l cs n ↔ allM a b l cs k = true := by
  unfold msL
  rw [List.mem_map]
  constructor
  · rintro ⟨j, hj, e⟩
    have : j = k := by omega
    subst this
    exact (List.mem_filter.1 hj).2
  · intro h
    exact ⟨k, List.mem_filter.2 ⟨List.mem_range.2 hk, h⟩, rfl⟩
theorem msL_filter (a b : Int) (l : List Int) (c d : Int) (n : Nat) : (msL a b l [c] n).filter (fun x => decide (x ∈ msL a b l [d] n)) = msL a b l [c, d] n := by
  have h : ∀ k ∈ List.range n, (decide ((k : Int) ∈ msL a b l [d] n) && allM a b l [c] k) = allM a b l [c, d] k := fun k hk => by
    have h1 : decide ((k : Int) ∈ msL a b l [d] n) = allM a b l [d] k := by
      rw [Bool.eq_iff_iff, decide_eq_true_iff]
      exact mem_msL (List.mem_range.1 hk)
    rw [h1]
    unfold allM
    simp only [List.all_cons, List.all_nil, Bool.and_true]
    exact Bool.and_comm _ _
  conv => lhs; unfold msL
  rw [List.filter_map, List.filter_filter]
  show List.map _ (List.filter (fun (k : Nat) => (decide ((k : Int) ∈ msL a b l [d] n) && allM a b l [c] k)) (List.range n)) = _
  rw [List.filter_congr h]
  rfl
theorem msL_nodup (a b : Int) (l cs : List Int) (n : Nat) : (msL a b l cs n).Nodup := by
  unfold msL List.Nodup
  rw [List.pairwise_map]
  refine List.Pairwise.filter _ (List.Pairwise.imp ?_ List.nodup_range)
  intro x y h e
  exact h (by omega)
/-- the common numbers of two lists, as far as the loops are -/
def inL (F G : List Int) (i : Nat) : List Int := (F.take i).filter (fun x => decide (x ∈ G))
def inK (F G : List Int) (i k : Nat) : List Int := inL F G i ++ (if F.getD i 0 ∈ G.take k then [F.getD i 0] else [])
theorem inK_zero (F G : List Int) (i : Nat) : inK F G i 0 = inL F G i := by unfold inK; rw [List.take_zero, if_neg (by simp), List.append_nil]
theorem inK_hit {F G : List Int} (hn : G.Nodup) {i k : Nat} (hk : k < G.length) (h : F.getD i 0 = G.getD k 0) : inK F G i (k + 1) = inK F G i k ++ [F.getD i 0] := by
  have h1 : F.getD i 0 ∈ G.take (k + 1) := by
    rw [take_snoc 0 hk, h]
    simp
  have h2 : F.getD i 0 ∉ G.take k := fun hm => by
    have h3 : (G.take k ++ [G.getD k 0]).Nodup := by
      rw [← take_snoc 0 hk]
      exact hn.sublist (List.take_sublist _ _)
    rw [List.nodup_append] at h3
    exact h3.2.2 _ hm _ (List.mem_singleton.2 rfl) h
  unfold inK
  rw [if_pos h1, if_neg h2, List.append_nil]
theorem inK_miss {F G : List Int} {i k : Nat} (hk : k < G.length) (h : ¬ F.getD i 0 = G.getD k 0) : inK F G i (k + 1) = inK F G i k := by
  unfold inK
  rw [take_snoc 0 hk]
  congr 1
  have e : F.getD i 0 ∈ G.take k ++ [G.getD k 0] ↔ F.getD i 0 ∈ G.take k := by
    rw [List.mem_append, List.mem_singleton]
    exact ⟨fun hh => hh.elim id (fun e => absurd e h), .inl⟩
  simp only [e]
theorem inK_full {F G : List Int} {i k : Nat} (hi : i < F.length) (hk : ¬ k < G.length) : inK F G i k = inL F G (i + 1) := by
  have hG : G.take k = G := List.take_of_length_le (by omega)
  unfold inK inL
  rw [hG, take_snoc 0 hi, List.filter_append]
  congr 1
  by_cases h : F.getD i 0 ∈ G
  · rw [if_pos h, List.filter_cons_of_pos (by exact decide_eq_true h), List.filter_nil]
  · rw [if_neg h, List.filter_cons_of_neg (by simpa using h), List.filter_nil]
theorem inL_len (F G : List Int) (i : Nat) : (inL F G i).length ≤ i := by
  unfold inL
  exact Nat.le_trans (List.length_filter_le _ _) (by rw [List.length_take]; exact Nat.min_le_left _ _)
theorem inK_len (F G : List Int) (i k : Nat) : (inK F G i k).length ≤ i + 1 := by
  have h1 := inL_len F G i
  unfold inK
  rw [List.length_append]
  split
  · simp; omega
  · simp; omega

set_option maxRecDepth 4000 in
set_option maxHeartbeats 1000000 in
/-- laws.FnSharedPoints -/
theorem f_l_FnSharedPoints (w : World) (vc : Value) (co : List Int) (hc : Rd w vc 1 co.length (AW.bytes co)) (hcl : co.length ≤ 9223372036854775807) (hb : ∀ x ∈ co, 0 ≤ x ∧ x ≤ 255) : RetV Try.prog 8 [vc] w (.bool true) := by
  refine Ret.enter Try.func8 rfl Try.ntmps8 rfl ?_
  refine Run.seq ?_
  refine Run.region ?_
  refine Ops.pure rfl (Pure.assign rfl) ?_
  refine Ops.nil ?_
  refine Run.seq ?_
  refine Run.seq ?_
  refine Run.region ?_
  refine Ops.pure rfl (Pure.move rfl) ?_
  refine Ops.q rfl (QOp.call fn31 rfl (fun w hw => f_l_f6big w vc _ _ (RdL.old hc w hw))) ?_
  refine Ops.nil ?_
  refine Run.cond rfl (fun c30 => ?_) (fun c30 => ?_)
  · skip
    replace c30 := dT c30
    refine Run.seq ?_
    refine Run.region ?_
    refine Ops.pure rfl (Pure.assign rfl) ?_
    refine Ops.nil ?_
    refine Run.ret1 rfl rfl ?_
    rfl
  · skip
    replace c30 := dF c30
    have hcl2 : co.length ≤ 1000000000 := by omega
    refine Run.skip ?_
    refine Run.seq ?_
    refine Run.region ?_
    refine Ops.pure rfl (Pure.move rfl) ?_
    refine Ops.go rfl (Loud.callR fn57 rfl (fun w hw => f_s_DrawSharedPoints w vc co (RdL.old hc w hw) hb hcl2)) ?_
    rintro v33 _ ⟨L33, hQ33, rfl⟩
    obtain ⟨a33, c33, l33, v33, x33, y33, ha33, hA33, hc33, hC33, hn33, h33, hx33, hX33, hy33, hY33, rfl, rfl⟩ := hQ33
    refine Ops.pure rfl (Pure.move rfl) ?_
    refine Ops.pure rfl (Pure.extract rfl rfl) ?_
    refine Ops.pure rfl (Pure.extract rfl rfl) ?_
    refine Ops.pure rfl (Pure.extract rfl rfl) ?_
    refine Ops.go rfl (Loud.alloc zero35 rfl) ?_
    rintro _ _ ⟨b3, rfl, rfl⟩
    refine Ops.store (Stores.box 0 rfl rfl rfl size35 (one3 h33) rfl rfl) ?_
    refine Ops.pure rfl (Pure.assign rfl) ?_
    refine Ops.pure rfl (Pure.assign rfl) ?_
    refine Ops.nil ?_
    refine Run.seq ?_
    have hz1 := shL_len a33 c33 l33 x33 y33
    have hz2 := cpL_len a33 c33 l33 x33
    have hz3 := cpL_len a33 c33 l33 y33
    refine Run.region ?_
    refine Ops.pure rfl (Pure.ldBA 0 rfl cell35 rfl rfl rfl) ?_
    refine Ops.pure rfl (Pure.move rfl) ?_
    refine Ops.pure rfl (Pure.move rfl) ?_
    refine Ops.go rfl (Loud.callR fn58 rfl (fun w hw => f_i_SharedPoints w a33 c33 v33 l33 x33 y33 (RdL.own 1 rfl w hw) (by omega) (by omega) (by omega) (by omega) (by omega) (by omega) (by omega) (by omega) (by omega))) ?_
    rintro v41 _ ⟨L41, hQ41, rfl⟩
    obtain ⟨x41, rfl, rfl⟩ := hQ41
    refine Ops.pure rfl (Pure.move rfl) ?_
    refine Ops.pure rfl (Pure.extract rfl rfl) ?_
    refine Ops.pure rfl (Pure.extract rfl rfl) ?_
    refine Ops.pure rfl (Pure.assign rfl) ?_
    refine Ops.pure rfl (Pure.assign rfl) ?_
    refine Ops.nil ?_
    refine Run.seq ?_
    refine Run.region ?_
    refine Ops.pure rfl (Pure.ldBA 1 rfl cell35 rfl rfl rfl) ?_
    refine Ops.pure rfl (Pure.move rfl) ?_
    refine Ops.pure rfl (Pure.move rfl) ?_
    refine Ops.go rfl (Loud.callR fn59 rfl (fun w hw => f_s_SharedPoints w a33 c33 v33 l33 x33 y33 (RdL.own 2 rfl w hw) (by omega) (by omega) (by omega) (by omega) (by omega) (by omega) (by omega) (by omega) (by omega))) ?_
    rintro v48 _ ⟨L48, hQ48, rfl⟩
    obtain ⟨x48, rfl, rfl⟩ := hQ48
    refine Ops.pure rfl (Pure.move rfl) ?_
    refine Ops.pure rfl (Pure.extract rfl rfl) ?_
    refine Ops.pure rfl (Pure.extract rfl rfl) ?_
    refine Ops.pure rfl (Pure.assign rfl) ?_
    refine Ops.pure rfl (Pure.assign rfl) ?_
    refine Ops.nil ?_
    refine Run.seq ?_
    refine Run.region ?_
    refine Ops.pure rfl (Pure.move rfl) ?_
    refine Ops.go rfl (Loud.callR fn60 rfl (fun w hw => f_s_DrawCurvePoints w vc co (RdL.old hc w hw) hb hcl2)) ?_
    rintro v53 _ ⟨L53, hQ53, rfl⟩
    obtain ⟨a53, c53, l53, v53, x53, ha53, hA53, hc53, hC53, hn53, h53, hx53, hX53, rfl, rfl⟩ := hQ53
    refine Ops.pure rfl (Pure.move rfl) ?_
    refine Ops.pure rfl (Pure.extract rfl rfl) ?_
    refine Ops.pure rfl (Pure.extract rfl rfl) ?_
    refine Ops.go rfl (Loud.alloc zero35 rfl) ?_
    rintro _ _ ⟨b10, rfl, rfl⟩
    refine Ops.store (Stores.box 0 rfl rfl rfl size35 (one3 h53) rfl rfl) ?_
    refine Ops.pure rfl (Pure.assign rfl) ?_
    refine Ops.nil ?_
    refine Run.seq ?_
    have hz4 := cpL_len a53 c53 l53 x53
    refine Run.region ?_
    refine Ops.pure rfl (Pure.ldBA 0 rfl cell35 rfl rfl rfl) ?_
    refine Ops.pure rfl (Pure.move rfl) ?_
    refine Ops.go rfl (Loud.callR fn61 rfl (fun w hw => f_i_CurvePoints w a53 c53 v53 l53 x53 (RdL.own 1 rfl w hw) (by omega) (by omega) (by omega) (by omega) (by omega) (by omega) (by omega))) ?_
    rintro v59 _ ⟨L59, hQ59, rfl⟩
    obtain ⟨x59, rfl, rfl⟩ := hQ59
    refine Ops.pure rfl (Pure.move rfl) ?_
    refine Ops.pure rfl (Pure.extract rfl rfl) ?_
    refine Ops.pure rfl (Pure.extract rfl rfl) ?_
    refine Ops.pure rfl (Pure.assign rfl) ?_
    refine Ops.pure rfl (Pure.assign rfl) ?_
    refine Ops.nil ?_
    refine Run.seq ?_
    refine Run.region ?_
    refine Ops.pure rfl (Pure.ldBA 1 rfl cell35 rfl rfl rfl) ?_
    refine Ops.pure rfl (Pure.move rfl) ?_
    refine Ops.go rfl (Loud.callR fn62 rfl (fun w hw => f_s_CurvePoints w a53 c53 v53 l53 x53 (RdL.own 2 rfl w hw) (by omega) (by omega) (by omega) (by omega) (by omega) (by omega) (by omega))) ?_
    rintro v65 _ ⟨L65, hQ65, rfl⟩
    obtain ⟨x65, rfl, rfl⟩ := hQ65
    refine Ops.pure rfl (Pure.move rfl) ?_
    refine Ops.pure rfl (Pure.extract rfl rfl) ?_
    refine Ops.pure rfl (Pure.extract rfl rfl) ?_
    refine Ops.pure rfl (Pure.assign rfl) ?_
    refine Ops.pure rfl (Pure.assign rfl) ?_
    refine Ops.nil ?_
    refine Run.seq ?_
    refine Run.region ?_
    refine Ops.pure rfl (Pure.move rfl) ?_
    refine Ops.go rfl (Loud.callR fn63 rfl (fun w hw => f_s_DrawDistanceOf w vc co (RdL.old hc w hw) hb hcl2)) ?_
    rintro v70 _ ⟨L70, hQ70, rfl⟩
    obtain ⟨a70, c70, l70, v70, e70, f70, m70, x70, ha70, hA70, hc70, hC70, hn70, h70, he70, hE70, hf70, hF70, hm70, hx70, rfl, rfl⟩ := hQ70
    refine Ops.pure rfl (Pure.move rfl) ?_
    refine Ops.pure rfl (Pure.extract rfl rfl) ?_
    refine Ops.pure rfl (Pure.extract rfl rfl) ?_
    refine Ops.go rfl (Loud.alloc zero35 rfl) ?_
    rintro _ _ ⟨b16, rfl, rfl⟩
    refine Ops.go rfl (Loud.alloc zero35 rfl) ?_
    rintro _ _ ⟨b17, rfl, rfl⟩
    refine Ops.store (Stores.box 1 rfl rfl rfl size35 (one3 h70) rfl rfl) ?_
    refine Ops.store (Stores.box 0 rfl rfl rfl size35 (one3 hx70) rfl rfl) ?_
    refine Ops.nil ?_
    refine Run.seq ?_
    refine Run.region ?_
    refine Ops.pure rfl (Pure.ldBA 1 rfl cell35 rfl rfl rfl) ?_
    refine Ops.pure rfl (Pure.ldBA 0 rfl cell35 rfl rfl rfl) ?_
    refine Ops.q rfl (QOp.call fn64 rfl (fun w hw => f_i_DistG w a70 c70 v70 l70 e70 f70 x70 m70 (RdL.own 2 rfl w hw) (by omega) (by omega) (by omega) (by omega) (by omega) (RdL.own 3 rfl w hw) (by omega) (by omega) (by omega) (by omega) (by omega))) ?_
    refine Ops.pure rfl (Pure.move rfl) ?_
    refine Ops.pure rfl (Pure.extract rfl rfl) ?_
    refine Ops.pure rfl (Pure.extract rfl rfl) ?_
    refine Ops.pure rfl (Pure.assign rfl) ?_
    refine Ops.pure rfl (Pure.assign rfl) ?_
    refine Ops.nil ?_
    refine Run.seq ?_
    refine Run.region ?_
    refine Ops.pure rfl (Pure.ldBA 1 rfl cell35 rfl rfl rfl) ?_
    refine Ops.pure rfl (Pure.ldBA 0 rfl cell35 rfl rfl rfl) ?_
    refine Ops.q rfl (QOp.call fn65 rfl (fun w hw => f_s_DistG w a70 c70 v70 l70 e70 f70 x70 m70 (RdL.own 2 rfl w hw) (by omega) (by omega) (by omega) (by omega) (by omega) (RdL.own 3 rfl w hw) (by omega) (by omega) (by omega) (by omega) (by omega))) ?_
    refine Ops.pure rfl (Pure.move rfl) ?_
    refine Ops.pure rfl (Pure.extract rfl rfl) ?_
    refine Ops.pure rfl (Pure.extract rfl rfl) ?_
    refine Ops.pure rfl (Pure.assign rfl) ?_
    refine Ops.pure rfl (Pure.assign rfl) ?_
    refine Ops.nil ?_
    refine Run.seq ?_
    refine Run.seq ?_
    refine Run.region ?_
    refine Ops.pure rfl (Pure.move rfl) ?_
    refine Ops.pure rfl (Pure.move rfl) ?_
    refine Ops.pure rfl (Pure.neq rfl rfl) ?_
    refine Ops.pure rfl (Pure.move rfl) ?_
    refine Ops.guardY rfl rfl rfl (by simp) ?_
    refine Ops.pure rfl (Pure.move rfl) ?_
    refine Ops.guardY rfl rfl rfl (by simp) ?_
    refine Ops.pure rfl (Pure.move rfl) ?_
    refine Ops.guardY rfl rfl rfl (by simp) ?_
    refine Ops.q rfl (QOp.call fn55 rfl (fun w hw => (f_l_f6ints w x41 x48 (shL a33 c33 l33 x33 y33) (shL a33 c33 l33 x33 y33) (RdL.own 9 rfl w hw) (RdL.own 8 rfl w hw) (by omega) (by omega)).cong (show _ = Value.bool true by simp))) ?_
    refine Ops.guardY rfl rfl rfl (by simp) ?_
    refine Ops.pure rfl (Pure.not rfl) ?_
    refine Ops.pure rfl (Pure.pickF rfl (by simp) rfl) ?_
    refine Ops.pure rfl (Pure.move rfl) ?_
    refine Ops.guardY rfl rfl rfl rfl ?_
    refine Ops.pure rfl (Pure.move rfl) ?_
    refine Ops.guardY rfl rfl rfl rfl ?_
    refine Ops.pure rfl (Pure.move rfl) ?_
    refine Ops.guardY rfl rfl rfl rfl ?_
    refine Ops.pure rfl (Pure.neq rfl rfl) ?_
    refine Ops.pure rfl (Pure.pickF rfl rfl rfl) ?_
    refine Ops.pure rfl (Pure.move rfl) ?_
    refine Ops.guardY rfl rfl rfl (by simp) ?_
    refine Ops.pure rfl (Pure.move rfl) ?_
    refine Ops.guardY rfl rfl rfl (by simp) ?_
    refine Ops.pure rfl (Pure.move rfl) ?_
    refine Ops.guardY rfl rfl rfl (by simp) ?_
    refine Ops.q rfl (QOp.call fn55 rfl (fun w hw => (f_l_f6ints w x59 x65 (cpL a53 c53 l53 x53) (cpL a53 c53 l53 x53) (RdL.own 5 rfl w hw) (RdL.own 4 rfl w hw) (by omega) (by omega)).cong (show _ = Value.bool true by simp))) ?_
    refine Ops.guardY rfl rfl rfl (by simp) ?_
    refine Ops.pure rfl (Pure.not rfl) ?_
    refine Ops.pure rfl (Pure.pickF rfl (by simp) rfl) ?_
    refine Ops.pure rfl (Pure.move rfl) ?_
    refine Ops.guardY rfl rfl rfl rfl ?_
    refine Ops.pure rfl (Pure.move rfl) ?_
    refine Ops.guardY rfl rfl rfl rfl ?_
    refine Ops.pure rfl (Pure.move rfl) ?_
    refine Ops.guardY rfl rfl rfl rfl ?_
    refine Ops.pure rfl (Pure.neq rfl rfl) ?_
    refine Ops.pure rfl (Pure.pickF rfl rfl rfl) ?_
    refine Ops.pure rfl (Pure.move rfl) ?_
    refine Ops.guardY rfl rfl rfl (by simp) ?_
    refine Ops.pure rfl (Pure.move rfl) ?_
    refine Ops.guardY rfl rfl rfl (by simp) ?_
    refine Ops.pure rfl (Pure.move rfl) ?_
    refine Ops.guardY rfl rfl rfl (by simp) ?_
    refine Ops.pure rfl (Pure.neq rfl rfl) ?_
    refine Ops.pure rfl (Pure.pickF rfl (by simp) rfl) ?_
    refine Ops.nil ?_
    refine Run.condEF rfl (by simp) ?_
    refine Run.skip ?_
    refine Run.seq ?_
    refine Run.seq ?_
    refine Run.region ?_
    refine Ops.pure rfl (Pure.move rfl) ?_
    refine Ops.pure rfl (Pure.eql rfl rfl) ?_
    refine Ops.pure rfl (Pure.move rfl) ?_
    refine Ops.guard rfl rfl rfl rfl (fun c117 => ?_) (fun c117 => ?_)
    · skip
      have c117' := dT c117
      refine Ops.pure rfl (Pure.move rfl) ?_
      refine Ops.guardY rfl rfl rfl c117 ?_
      refine Ops.pure rfl (Pure.eql rfl rfl) ?_
      refine Ops.guardY rfl rfl rfl c117 ?_
      refine Ops.pure rfl (Pure.ldBA 1 rfl cell35 rfl rfl rfl) ?_
      refine Ops.guardY rfl rfl rfl c117 ?_
      refine Ops.pure rfl (Pure.ldBA 0 rfl cell35 rfl rfl rfl) ?_
      refine Ops.guardY rfl rfl rfl c117 ?_
      refine Ops.q rfl (QOp.call fn44 rfl (fun w hw => f_s_SamePanel w a70 c70 v70 l70 e70 f70 x70 m70 (RdL.own 2 rfl w hw) (RdL.own 3 rfl w hw) (by omega) (by omega))) ?_
      refine Ops.guardY rfl rfl rfl c117 ?_
      refine Ops.pure rfl (Pure.neqB und4 rfl rfl) ?_
      refine Ops.pure rfl (Pure.pickT rfl c117 rfl) ?_
      refine Ops.nil ?_
      refine Run.condEF rfl (by rw [ds_same (by assumption)]; simp) ?_
      refine Run.skip ?_
      refine Run.seq ?_
      refine Run.seq ?_
      refine Run.region ?_
      refine Ops.pure rfl (Pure.move rfl) ?_
      refine Ops.pure rfl (Pure.neq rfl rfl) ?_
      refine Ops.nil ?_
      refine Run.cond rfl (fun c126 => ?_) (fun c126 => ?_)
      · skip
        replace c126 := nT c126
        refine Run.seq ?_
        refine Run.region ?_
        refine Ops.pure rfl (Pure.assign rfl) ?_
        refine Ops.nil ?_
        refine Run.ret1 rfl rfl ?_
        rfl
      · skip
        replace c126 := nF c126
        obtain ⟨hy1, hy2, hy3⟩ := sh_zero c126
        have hnd : (cpL a33 c33 l33 y33).Nodup := by rw [cp_yes hy2]; exact msL_nodup _ _ _ _ _
        have hfin : inL (cpL a33 c33 l33 x33) (cpL a33 c33 l33 y33) (cpL a33 c33 l33 x33).length = (shL a33 c33 l33 x33 y33) := by unfold inL; rw [List.take_length, cp_yes hy1, cp_yes hy2, msL_filter, hy3]
        refine Run.skip ?_
        refine Run.seq ?_
        refine Run.region ?_
        refine Ops.pure rfl (Pure.ldBA 10 rfl cell35 rfl rfl rfl) ?_
        refine Ops.pure rfl (Pure.move rfl) ?_
        refine Ops.go rfl (Loud.callR fn61 rfl (fun w hw => f_i_CurvePoints w a33 c33 v33 l33 x33 (RdL.own 11 rfl w hw) (by omega) (by omega) (by omega) (by omega) (by omega) (by omega) (by omega))) ?_
        rintro v130 _ ⟨L130, hQ130, rfl⟩
        rw [hy1] at hQ130
        obtain ⟨x130, rfl, rfl⟩ := hQ130
        refine Ops.pure rfl (Pure.move rfl) ?_
        refine Ops.pure rfl (Pure.extract rfl rfl) ?_
        refine Ops.pure rfl (Pure.extract rfl rfl) ?_
        refine Ops.pure rfl (Pure.assign rfl) ?_
        refine Ops.pure rfl (Pure.assign rfl) ?_
        refine Ops.nil ?_
        refine Run.seq ?_
        refine Run.region ?_
        refine Ops.pure rfl (Pure.ldBA 11 rfl cell35 rfl rfl rfl) ?_
        refine Ops.pure rfl (Pure.move rfl) ?_
        refine Ops.go rfl (Loud.callR fn61 rfl (fun w hw => f_i_CurvePoints w a33 c33 v33 l33 y33 (RdL.own 12 rfl w hw) (by omega) (by omega) (by omega) (by omega) (by omega) (by omega) (by omega))) ?_
        rintro v136 _ ⟨L136, hQ136, rfl⟩
        rw [hy2] at hQ136
        obtain ⟨x136, rfl, rfl⟩ := hQ136
        refine Ops.pure rfl (Pure.move rfl) ?_
        refine Ops.pure rfl (Pure.extract rfl rfl) ?_
        refine Ops.pure rfl (Pure.extract rfl rfl) ?_
        refine Ops.pure rfl (Pure.assign rfl) ?_
        refine Ops.pure rfl (Pure.assign rfl) ?_
        refine Ops.nil ?_
        refine Run.seq ?_
        refine Run.seq ?_
        refine Run.region ?_
        refine Ops.pure rfl (Pure.move rfl) ?_
        refine Ops.pure rfl (Pure.neq rfl rfl) ?_
        refine Ops.pure rfl (Pure.move rfl) ?_
        refine Ops.guardY rfl rfl rfl (by simp) ?_
        refine Ops.pure rfl (Pure.move rfl) ?_
        refine Ops.guardY rfl rfl rfl (by simp) ?_
        refine Ops.pure rfl (Pure.neq rfl rfl) ?_
        refine Ops.pure rfl (Pure.pickF rfl (by simp) rfl) ?_
        refine Ops.nil ?_
        refine Run.condEF rfl (by simp) ?_
        refine Run.skip ?_
        refine Run.seq ?_
        refine Run.region ?_
        refine Ops.go rfl (Loud.lit sl32 rfl rfl rfl (by simp [Value.oneCell'])) ?_
        rintro v145 _ rfl
        refine Ops.pure rfl (Pure.assign rfl) ?_
        refine Ops.nil ?_
        refine Run.seq ?_
        refine Run.seq ?_
        refine Run.region ?_
        refine Ops.pure rfl (Pure.assign rfl) ?_
        refine Ops.nil ?_
        refine Run.block ?_
        refine Run.loop2 (X := Nat) (Y := Value) (fun i vo => [(6, x41), (22, x130), (24, x136), (26, vo), (27, .int .i64 i)]) (fun i vo => [.row 2 1 vo (inL (cpL a33 c33 l33 x33) (cpL a33 c33 l33 y33) i).length (ints (inL (cpL a33 c33 l33 x33) (cpL a33 c33 l33 y33) i)), .row 2 1 x136 (cpL a33 c33 l33 y33).length (ints (cpL a33 c33 l33 y33)), .row 2 1 x130 (cpL a33 c33 l33 x33).length (ints (cpL a33 c33 l33 x33)), .row 2 1 x41 (shL a33 c33 l33 x33 y33).length (ints (shL a33 c33 l33 x33 y33))]) (fun i vo => i ≤ (cpL a33 c33 l33 x33).length) (fun i vo => (cpL a33 c33 l33 x33).length - i) 0 v145 ?_ ?_ ?_ ?_
        · exact Nat.zero_le _
        · exact ⟨rfl, rfl, rfl, rfl, rfl, trivial⟩
        · exact Ext.take 0 rfl (Ext.take 0 rfl (Ext.take 0 rfl (Ext.take 9 rfl (Ext.nil _))))
        · intro i vo hinv0
          refine Run.seq ?_
          refine Run.seq ?_
          refine Run.region ?_
          refine Ops.pure rfl (Pure.move rfl) ?_
          refine Ops.pure rfl (Pure.move rfl) ?_
          refine Ops.pure rfl (Pure.len sl32 (RdL.own 2 rfl) rfl) ?_
          refine Ops.pure rfl (Pure.lss rfl rfl) ?_
          refine Ops.nil ?_
          refine Run.cond rfl (fun c149 => ?_) (fun c149 => ?_)
          · skip
            replace c149 := dT c149
            refine Run.skip ?_
            refine Run.seq ?_
            refine Run.block ?_
            refine Run.seq ?_
            refine Run.region ?_
            refine Ops.pure rfl (Pure.assign rfl) ?_
            refine Ops.nil ?_
            refine Run.block ?_
            refine Run.loop2 (X := Nat) (Y := Value) (fun k vq => [(6, x41), (22, x130), (24, x136), (26, vq), (27, .int .i64 i), (28, .int .i64 k)]) (fun k vq => [.row 2 1 vq (inK (cpL a33 c33 l33 x33) (cpL a33 c33 l33 y33) i k).length (ints (inK (cpL a33 c33 l33 x33) (cpL a33 c33 l33 y33) i k)), .row 2 1 x136 (cpL a33 c33 l33 y33).length (ints (cpL a33 c33 l33 y33)), .row 2 1 x130 (cpL a33 c33 l33 x33).length (ints (cpL a33 c33 l33 x33)), .row 2 1 x41 (shL a33 c33 l33 x33 y33).length (ints (shL a33 c33 l33 x33 y33))]) (fun k vq => k ≤ (cpL a33 c33 l33 y33).length) (fun k vq => (cpL a33 c33 l33 y33).length - k) 0 vo ?_ ?_ ?_ ?_
            · exact Nat.zero_le _
            · exact ⟨rfl, rfl, rfl, rfl, rfl, rfl, trivial⟩
            · exact Ext.eq (by rw [inK_zero])
            · intro k vq hinv1
              have hkl := inK_len (cpL a33 c33 l33 x33) (cpL a33 c33 l33 y33) i k
              refine Run.seq ?_
              refine Run.seq ?_
              refine Run.region ?_
              refine Ops.pure rfl (Pure.move rfl) ?_
              refine Ops.pure rfl (Pure.move rfl) ?_
              refine Ops.pure rfl (Pure.len sl32 (RdL.own 1 rfl) rfl) ?_
              refine Ops.pure rfl (Pure.lss rfl rfl) ?_
              refine Ops.nil ?_
              refine Run.cond rfl (fun c155 => ?_) (fun c155 => ?_)
              · skip
                replace c155 := dT c155
                refine Run.skip ?_
                refine Run.seq ?_
                refine Run.block ?_
                refine Run.seq ?_
                refine AnyK.start ([.row 2 1 vq (inK (cpL a33 c33 l33 x33) (cpL a33 c33 l33 y33) i k).length (ints (inK (cpL a33 c33 l33 x33) (cpL a33 c33 l33 y33) i k)), .row 2 1 x136 (cpL a33 c33 l33 y33).length (ints (cpL a33 c33 l33 y33)), .row 2 1 x130 (cpL a33 c33 l33 x33).length (ints (cpL a33 c33 l33 x33)), .row 2 1 x41 (shL a33 c33 l33 x33 y33).length (ints (shL a33 c33 l33 x33 y33))]) follows (Ext.refl _) ?_
                refine AnyK.take 0 rfl (by kernel_rfl) rfl (QOp.pure (Pure.move rfl)) ?_
                refine AnyK.take 1 rfl (by kernel_rfl) rfl (QOp.pure (Pure.move rfl)) ?_
                refine AnyK.take 2 rfl (by kernel_rfl) rfl (QOp.pure (Pure.idx1N sl32 (RdL.own 2 rfl) rfl rfl (by first | assumption | omega | (simp; omega)))) ?_
                refine AnyK.take 3 rfl (by kernel_rfl) rfl (QOp.pure (Pure.ld cell2 rfl (RdL.own 2 rfl) (by first | exact ints_get (by omega) | exact bools_get (by omega) | exact strs_get (by omega) | exact vals_get (by first | omega | (simp; omega))))) ?_
                refine AnyK.take 4 rfl (by kernel_rfl) rfl (QOp.pure (Pure.move rfl)) ?_
                refine AnyK.take 5 rfl (by kernel_rfl) rfl (QOp.pure (Pure.move rfl)) ?_
                refine AnyK.take 6 rfl (by kernel_rfl) rfl (QOp.pure (Pure.idx1N sl32 (RdL.own 1 rfl) rfl rfl (by first | assumption | omega | (simp; omega)))) ?_
                refine AnyK.take 7 rfl (by kernel_rfl) rfl (QOp.pure (Pure.ld cell2 rfl (RdL.own 1 rfl) (by first | exact ints_get (by omega) | exact bools_get (by omega) | exact strs_get (by omega) | exact vals_get (by first | omega | (simp; omega))))) ?_
                refine AnyK.take 8 rfl (by kernel_rfl) rfl (QOp.pure (Pure.eql rfl rfl)) ?_
                refine AnyK.done (by kernel_rfl) ?_
                refine Run.cond rfl (fun c166 => ?_) (fun c166 => ?_)
                · skip
                  replace c166 := dT c166
                  refine Run.region ?_
                  refine Ops.pure rfl (Pure.move rfl) ?_
                  refine Ops.pure rfl (Pure.move rfl) ?_
                  refine Ops.pure rfl (Pure.move rfl) ?_
                  refine Ops.pure rfl (Pure.idx1N sl32 (RdL.own 2 rfl) rfl rfl (by first | assumption | omega | (simp; omega))) ?_
                  refine Ops.pure rfl (Pure.ld cell2 rfl (RdL.own 2 rfl) (by first | exact ints_get (by omega) | exact bools_get (by omega) | exact strs_get (by omega) | exact vals_get (by first | omega | (simp; omega)))) ?_
                  refine Ops.go rfl (Loud.lit sl32 rfl rfl rfl (by simp [Value.oneCell'])) ?_
                  rintro v172 _ rfl
                  refine Ops.go rfl (Loud.append 1 rfl sl32 rfl rfl (RdL.own 0 rfl) (by simp [Value.oneCell']) (by omega) (by omega)) ?_
                  rintro v173 _ rfl
                  refine Ops.pure rfl (Pure.assign rfl) ?_
                  refine Ops.nil ?_
                  refine Run.blk ?_
                  refine Run.region ?_
                  refine Ops.pure rfl (Pure.move rfl) ?_
                  refine Ops.pure rfl (Pure.add rfl rfl (by omega) (by omega)) ?_
                  refine Ops.pure rfl (Pure.assign rfl) ?_
                  refine Ops.nil ?_
                  refine Run.asrt ?_
                  first
                    | (refine ⟨k + 1, v173, ⟨by omega, by omega⟩, ⟨rfl, rfl, rfl, rfl, rfl, rfl, trivial⟩, Ext.trans (Ext.eq ?_) (Ext.right [_] _)⟩
                       rw [inK_hit hnd (by omega) c166, ints, List.map_append, List.length_append]
                       rfl)
                    | (refine ⟨k + 1, vq, ⟨by omega, by omega⟩, ⟨rfl, rfl, rfl, rfl, rfl, rfl, trivial⟩, Ext.eq ?_⟩
                       rw [inK_miss (by omega) c166])
                · skip
                  replace c166 := dF c166
                  refine Run.skip ?_
                  refine Run.blk ?_
                  refine Run.region ?_
                  refine Ops.pure rfl (Pure.move rfl) ?_
                  refine Ops.pure rfl (Pure.add rfl rfl (by omega) (by omega)) ?_
                  refine Ops.pure rfl (Pure.assign rfl) ?_
                  refine Ops.nil ?_
                  refine Run.asrt ?_
                  first
                    | (refine ⟨k + 1, v173, ⟨by omega, by omega⟩, ⟨rfl, rfl, rfl, rfl, rfl, rfl, trivial⟩, Ext.trans (Ext.eq ?_) (Ext.right [_] _)⟩
                       rw [inK_hit hnd (by omega) c166, ints, List.map_append, List.length_append]
                       rfl)
                    | (refine ⟨k + 1, vq, ⟨by omega, by omega⟩, ⟨rfl, rfl, rfl, rfl, rfl, rfl, trivial⟩, Ext.eq ?_⟩
                       rw [inK_miss (by omega) c166])
              · skip
                replace c155 := dF c155
                refine Run.exit rfl ?_
                refine Run.blk ?_
                refine Run.region ?_
                refine Ops.pure rfl (Pure.move rfl) ?_
                refine Ops.pure rfl (Pure.add rfl rfl (by omega) (by omega)) ?_
                refine Ops.pure rfl (Pure.assign rfl) ?_
                refine Ops.nil ?_
                refine Run.asrt ?_
                refine ⟨i + 1, vq, ⟨by omega, by omega⟩, ⟨rfl, rfl, rfl, rfl, rfl, trivial⟩, Ext.eq ?_⟩
                rw [← inK_full (k := k) (show i < (cpL a33 c33 l33 x33).length by omega) (by omega)]
          · skip
            replace c149 := dF c149
            refine Run.exit rfl ?_
            refine Run.seq ?_
            have e : i = (cpL a33 c33 l33 x33).length := by omega
            subst e
            rw [hfin]
            refine Run.region ?_
            refine Ops.pure rfl (Pure.move rfl) ?_
            refine Ops.pure rfl (Pure.move rfl) ?_
            refine Ops.q rfl (QOp.call fn55 rfl (fun w hw => (f_l_f6ints w vo x41 (shL a33 c33 l33 x33 y33) (shL a33 c33 l33 x33 y33) (RdL.own 0 rfl w hw) (RdL.own 3 rfl w hw) (by omega) (by omega)).cong (show _ = Value.bool true by simp))) ?_
            refine Ops.pure rfl (Pure.assign rfl) ?_
            refine Ops.nil ?_
            refine Run.ret1 rfl rfl ?_
            rfl
    · skip
      replace c117 := Bool.eq_false_of_ne c117
      have c117' := dF c117
      refine Ops.guardN rfl rfl rfl rfl (by rw [c117]; decide) ?_
      refine Ops.guardN rfl rfl rfl rfl (by rw [c117]; decide) ?_
      refine Ops.guardN rfl rfl rfl rfl (by rw [c117]; decide) ?_
      refine Ops.guardN rfl rfl rfl rfl (by rw [c117]; decide) ?_
      refine Ops.guardN rfl rfl rfl rfl (by rw [c117]; decide) ?_
      refine Ops.pure rfl (Pure.pickF rfl c117 rfl) ?_
      refine Ops.nil ?_
      refine Run.condEF rfl rfl ?_
      refine Run.skip ?_
      refine Run.seq ?_
      refine Run.seq ?_
      refine Run.region ?_
      refine Ops.pure rfl (Pure.move rfl) ?_
      refine Ops.pure rfl (Pure.neq rfl rfl) ?_
      refine Ops.nil ?_
      refine Run.cond rfl (fun c126 => ?_) (fun c126 => ?_)
      · skip
        replace c126 := nT c126
        refine Run.seq ?_
        refine Run.region ?_
        refine Ops.pure rfl (Pure.assign rfl) ?_
        refine Ops.nil ?_
        refine Run.ret1 rfl rfl ?_
        rfl
      · skip
        replace c126 := nF c126
        obtain ⟨hy1, hy2, hy3⟩ := sh_zero c126
        have hnd : (cpL a33 c33 l33 y33).Nodup := by rw [cp_yes hy2]; exact msL_nodup _ _ _ _ _
        have hfin : inL (cpL a33 c33 l33 x33) (cpL a33 c33 l33 y33) (cpL a33 c33 l33 x33).length = (shL a33 c33 l33 x33 y33) := by unfold inL; rw [List.take_length, cp_yes hy1, cp_yes hy2, msL_filter, hy3]
        refine Run.skip ?_
        refine Run.seq ?_
        refine Run.region ?_
        refine Ops.pure rfl (Pure.ldBA 10 rfl cell35 rfl rfl rfl) ?_
        refine Ops.pure rfl (Pure.move rfl) ?_
        refine Ops.go rfl (Loud.callR fn61 rfl (fun w hw => f_i_CurvePoints w a33 c33 v33 l33 x33 (RdL.own 11 rfl w hw) (by omega) (by omega) (by omega) (by omega) (by omega) (by omega) (by omega))) ?_
        rintro v130 _ ⟨L130, hQ130, rfl⟩
        rw [hy1] at hQ130
        obtain ⟨x130, rfl, rfl⟩ := hQ130
        refine Ops.pure rfl (Pure.move rfl) ?_
        refine Ops.pure rfl (Pure.extract rfl rfl) ?_
        refine Ops.pure rfl (Pure.extract rfl rfl) ?_
        refine Ops.pure rfl (Pure.assign rfl) ?_
        refine Ops.pure rfl (Pure.assign rfl) ?_
        refine Ops.nil ?_
        refine Run.seq ?_
        refine Run.region ?_
        refine Ops.pure rfl (Pure.ldBA 11 rfl cell35 rfl rfl rfl) ?_
        refine Ops.pure rfl (Pure.move rfl) ?_
        refine Ops.go rfl (Loud.callR fn61 rfl (fun w hw => f_i_CurvePoints w a33 c33 v33 l33 y33 (RdL.own 12 rfl w hw) (by omega) (by omega) (by omega) (by omega) (by omega) (by omega) (by omega))) ?_
        rintro v136 _ ⟨L136, hQ136, rfl⟩
        rw [hy2] at hQ136
        obtain ⟨x136, rfl, rfl⟩ := hQ136
        refine Ops.pure rfl (Pure.move rfl) ?_
        refine Ops.pure rfl (Pure.extract rfl rfl) ?_
        refine Ops.pure rfl (Pure.extract rfl rfl) ?_
        refine Ops.pure rfl (Pure.assign rfl) ?_
        refine Ops.pure rfl (Pure.assign rfl) ?_
        refine Ops.nil ?_
        refine Run.seq ?_
        refine Run.seq ?_
        refine Run.region ?_
        refine Ops.pure rfl (Pure.move rfl) ?_
        refine Ops.pure rfl (Pure.neq rfl rfl) ?_
        refine Ops.pure rfl (Pure.move rfl) ?_
        refine Ops.guardY rfl rfl rfl (by simp) ?_
        refine Ops.pure rfl (Pure.move rfl) ?_
        refine Ops.guardY rfl rfl rfl (by simp) ?_
        refine Ops.pure rfl (Pure.neq rfl rfl) ?_
        refine Ops.pure rfl (Pure.pickF rfl (by simp) rfl) ?_
        refine Ops.nil ?_
        refine Run.condEF rfl (by simp) ?_
        refine Run.skip ?_
        refine Run.seq ?_
        refine Run.region ?_
        refine Ops.go rfl (Loud.lit sl32 rfl rfl rfl (by simp [Value.oneCell'])) ?_
        rintro v145 _ rfl
        refine Ops.pure rfl (Pure.assign rfl) ?_
        refine Ops.nil ?_
        refine Run.seq ?_
        refine Run.seq ?_
        refine Run.region ?_
        refine Ops.pure rfl (Pure.assign rfl) ?_
        refine Ops.nil ?_
        refine Run.block ?_
        refine Run.loop2 (X := Nat) (Y := Value) (fun i vo => [(6, x41), (22, x130), (24, x136), (26, vo), (27, .int .i64 i)]) (fun i vo => [.row 2 1 vo (inL (cpL a33 c33 l33 x33) (cpL a33 c33 l33 y33) i).length (ints (inL (cpL a33 c33 l33 x33) (cpL a33 c33 l33 y33) i)), .row 2 1 x136 (cpL a33 c33 l33 y33).length (ints (cpL a33 c33 l33 y33)), .row 2 1 x130 (cpL a33 c33 l33 x33).length (ints (cpL a33 c33 l33 x33)), .row 2 1 x41 (shL a33 c33 l33 x33 y33).length (ints (shL a33 c33 l33 x33 y33))]) (fun i vo => i ≤ (cpL a33 c33 l33 x33).length) (fun i vo => (cpL a33 c33 l33 x33).length - i) 0 v145 ?_ ?_ ?_ ?_
        · exact Nat.zero_le _
        · exact ⟨rfl, rfl, rfl, rfl, rfl, trivial⟩
        · exact Ext.take 0 rfl (Ext.take 0 rfl (Ext.take 0 rfl (Ext.take 9 rfl (Ext.nil _))))
        · intro i vo hinv0
          refine Run.seq ?_
          refine Run.seq ?_
          refine Run.region ?_
          refine Ops.pure rfl (Pure.move rfl) ?_
          refine Ops.pure rfl (Pure.move rfl) ?_
          refine Ops.pure rfl (Pure.len sl32 (RdL.own 2 rfl) rfl) ?_
          refine Ops.pure rfl (Pure.lss rfl rfl) ?_
          refine Ops.nil ?_
          refine Run.cond rfl (fun c149 => ?_) (fun c149 => ?_)
          · skip
            replace c149 := dT c149
            refine Run.skip ?_
            refine Run.seq ?_
            refine Run.block ?_
            refine Run.seq ?_
            refine Run.region ?_
            refine Ops.pure rfl (Pure.assign rfl) ?_
            refine Ops.nil ?_
            refine Run.block ?_
            refine Run.loop2 (X := Nat) (Y := Value) (fun k vq => [(6, x41), (22, x130), (24, x136), (26, vq), (27, .int .i64 i), (28, .int .i64 k)]) (fun k vq => [.row 2 1 vq (inK (cpL a33 c33 l33 x33) (cpL a33 c33 l33 y33) i k).length (ints (inK (cpL a33 c33 l33 x33) (cpL a33 c33 l33 y33) i k)), .row 2 1 x136 (cpL a33 c33 l33 y33).length (ints (cpL a33 c33 l33 y33)), .row 2 1 x130 (cpL a33 c33 l33 x33).length (ints (cpL a33 c33 l33 x33)), .row 2 1 x41 (shL a33 c33 l33 x33 y33).length (ints (shL a33 c33 l33 x33 y33))]) (fun k vq => k ≤ (cpL a33 c33 l33 y33).length) (fun k vq => (cpL a33 c33 l33 y33).length - k) 0 vo ?_ ?_ ?_ ?_
            · exact Nat.zero_le _
            · exact ⟨rfl, rfl, rfl, rfl, rfl, rfl, trivial⟩
            · exact Ext.eq (by rw [inK_zero])
            · intro k vq hinv1
              have hkl := inK_len (cpL a33 c33 l33 x33) (cpL a33 c33 l33 y33) i k
              refine Run.seq ?_
              refine Run.seq ?_
              refine Run.region ?_
              refine Ops.pure rfl (Pure.move rfl) ?_
              refine Ops.pure rfl (Pure.move rfl) ?_
              refine Ops.pure rfl (Pure.len sl32 (RdL.own 1 rfl) rfl) ?_
              refine Ops.pure rfl (Pure.lss rfl rfl) ?_
              refine Ops.nil ?_
              refine Run.cond rfl (fun c155 => ?_) (fun c155 => ?_)
              · skip
                replace c155 := dT c155
                refine Run.skip ?_
                refine Run.seq ?_
                refine Run.block ?_
                refine Run.seq ?_
                refine AnyK.start ([.row 2 1 vq (inK (cpL a33 c33 l33 x33) (cpL a33 c33 l33 y33) i k).length (ints (inK (cpL a33 c33 l33 x33) (cpL a33 c33 l33 y33) i k)), .row 2 1 x136 (cpL a33 c33 l33 y33).length (ints (cpL a33 c33 l33 y33)), .row 2 1 x130 (cpL a33 c33 l33 x33).length (ints (cpL a33 c33 l33 x33)), .row 2 1 x41 (shL a33 c33 l33 x33 y33).length (ints (shL a33 c33 l33 x33 y33))]) follows (Ext.refl _) ?_
                refine AnyK.take 0 rfl (by kernel_rfl) rfl (QOp.pure (Pure.move rfl)) ?_
                refine AnyK.take 1 rfl (by kernel_rfl) rfl (QOp.pure (Pure.move rfl)) ?_
                refine AnyK.take 2 rfl (by kernel_rfl) rfl (QOp.pure (Pure.idx1N sl32 (RdL.own 2 rfl) rfl rfl (by first | assumption | omega | (simp; omega)))) ?_
                refine AnyK.take 3 rfl (by kernel_rfl) rfl (QOp.pure (Pure.ld cell2 rfl (RdL.own 2 rfl) (by first | exact ints_get (by omega) | exact bools_get (by omega) | exact strs_get (by omega) | exact vals_get (by first | omega | (simp; omega))))) ?_
                refine AnyK.take 4 rfl (by kernel_rfl) rfl (QOp.pure (Pure.move rfl)) ?_
                refine AnyK.take 5 rfl (by kernel_rfl) rfl (QOp.pure (Pure.move rfl)) ?_
                refine AnyK.take 6 rfl (by kernel_rfl) rfl (QOp.pure (Pure.idx1N sl32 (RdL.own 1 rfl) rfl rfl (by first | assumption | omega | (simp; omega)))) ?_
                refine AnyK.take 7 rfl (by kernel_rfl) rfl (QOp.pure (Pure.ld cell2 rfl (RdL.own 1 rfl) (by first | exact ints_get (by omega) | exact bools_get (by omega) | exact strs_get (by omega) | exact vals_get (by first | omega | (simp; omega))))) ?_
                refine AnyK.take 8 rfl (by kernel_rfl) rfl (QOp.pure (Pure.eql rfl rfl)) ?_
                refine AnyK.done (by kernel_rfl) ?_
                refine Run.cond rfl (fun c166 => ?_) (fun c166 => ?_)
                · skip
                  replace c166 := dT c166
                  refine Run.region ?_
                  refine Ops.pure rfl (Pure.move rfl) ?_
                  refine Ops.pure rfl (Pure.move rfl) ?_
                  refine Ops.pure rfl (Pure.move rfl) ?_
                  refine Ops.pure rfl (Pure.idx1N sl32 (RdL.own 2 rfl) rfl rfl (by first | assumption | omega | (simp; omega))) ?_
                  refine Ops.pure rfl (Pure.ld cell2 rfl (RdL.own 2 rfl) (by first | exact ints_get (by omega) | exact bools_get (by omega) | exact strs_get (by omega) | exact vals_get (by first | omega | (simp; omega)))) ?_
                  refine Ops.go rfl (Loud.lit sl32 rfl rfl rfl (by simp [Value.oneCell'])) ?_
                  rintro v172 _ rfl
                  refine Ops.go rfl (Loud.append 1 rfl sl32 rfl rfl (RdL.own 0 rfl) (by simp [Value.oneCell']) (by omega) (by omega)) ?_
                  rintro v173 _ rfl
                  refine Ops.pure rfl (Pure.assign rfl) ?_
                  refine Ops.nil ?_
                  refine Run.blk ?_
                  refine Run.region ?_
                  refine Ops.pure rfl (Pure.move rfl) ?_
                  refine Ops.pure rfl (Pure.add rfl rfl (by omega) (by omega)) ?_
                  refine Ops.pure rfl (Pure.assign rfl) ?_
                  refine Ops.nil ?_
                  refine Run.asrt ?_
                  first
                    | (refine ⟨k + 1, v173, ⟨by omega, by omega⟩, ⟨rfl, rfl, rfl, rfl, rfl, rfl, trivial⟩, Ext.trans (Ext.eq ?_) (Ext.right [_] _)⟩
                       rw [inK_hit hnd (by omega) c166, ints, List.map_append, List.length_append]
                       rfl)
                    | (refine ⟨k + 1, vq, ⟨by omega, by omega⟩, ⟨rfl, rfl, rfl, rfl, rfl, rfl, trivial⟩, Ext.eq ?_⟩
                       rw [inK_miss (by omega) c166])
                · skip
                  replace c166 := dF c166
                  refine Run.skip ?_
                  refine Run.blk ?_
                  refine Run.region ?_
                  refine Ops.pure rfl (Pure.move rfl) ?_
                  refine Ops.pure rfl (Pure.add rfl rfl (by omega) (by omega)) ?_
                  refine Ops.pure rfl (Pure.assign rfl) ?_
                  refine Ops.nil ?_
                  refine Run.asrt ?_
                  first
                    | (refine ⟨k + 1, v173, ⟨by omega, by omega⟩, ⟨rfl, rfl, rfl, rfl, rfl, rfl, trivial⟩, Ext.trans (Ext.eq ?_) (Ext.right [_] _)⟩
                       rw [inK_hit hnd (by omega) c166, ints, List.map_append, List.length_append]
                       rfl)
                    | (refine ⟨k + 1, vq, ⟨by omega, by omega⟩, ⟨rfl, rfl, rfl, rfl, rfl, rfl, trivial⟩, Ext.eq ?_⟩
                       rw [inK_miss (by omega) c166])
              · skip
                replace c155 := dF c155
                refine Run.exit rfl ?_
                refine Run.blk ?_
                refine Run.region ?_
                refine Ops.pure rfl (Pure.move rfl) ?_
                refine Ops.pure rfl (Pure.add rfl rfl (by omega) (by omega)) ?_
                refine Ops.pure rfl (Pure.assign rfl) ?_
                refine Ops.nil ?_
                refine Run.asrt ?_
                refine ⟨i + 1, vq, ⟨by omega, by omega⟩, ⟨rfl, rfl, rfl, rfl, rfl, trivial⟩, Ext.eq ?_⟩
                rw [← inK_full (k := k) (show i < (cpL a33 c33 l33 x33).length by omega) (by omega)]
          · skip
            replace c149 := dF c149
            refine Run.exit rfl ?_
            refine Run.seq ?_
            have e : i = (cpL a33 c33 l33 x33).length := by omega
            subst e
            rw [hfin]
            refine Run.region ?_
            refine Ops.pure rfl (Pure.move rfl) ?_
            refine Ops.pure rfl (Pure.move rfl) ?_
            refine Ops.q rfl (QOp.call fn55 rfl (fun w hw => (f_l_f6ints w vo x41 (shL a33 c33 l33 x33 y33) (shL a33 c33 l33 x33 y33) (RdL.own 0 rfl w hw) (RdL.own 3 rfl w hw) (by omega) (by omega)).cong (show _ = Value.bool true by simp))) ?_
            refine Ops.pure rfl (Pure.assign rfl) ?_
            refine Ops.nil ?_
            refine Run.ret1 rfl rfl ?_
            rfl

end Go.Proofs.Ytmfinopdokkjcaa
