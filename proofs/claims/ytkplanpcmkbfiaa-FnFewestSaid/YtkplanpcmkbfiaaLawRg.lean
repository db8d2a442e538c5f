/- Contracts of functions, printed by program from annotations. -/
import Derived.Test.YtkplanpcmkbfiaaSeaR
import Derived.Test.YtkplanpcmkbfiaaDrw2
import Derived.Test.YtkplanpcmkbfiaaEds2
namespace Go.Proofs.Ytkplanpcmkbfiaa
open Go Go.AW Go.RowKit
set_option linter.unusedVariables false
set_option linter.unusedSimpArgs false

set_option maxRecDepth 4000 in
/-- spec.CountCurves -/
theorem f_s_CountCurves (w : World) (a : Int) (b : Int) (v : Value) (l : List Int) (hv : Rd w v 1 l.length (ints l)) (hl : l.length ≤ 1073741824) (hk : okP a b l = true) : RetV Try.prog 33 [.agg #[.int .i64 a, .int .i64 b, v]] w (.tuple #[.int .i64 (cnt a b l : Int), .int .i64 0]) := by
  have hs := okP_size hk
  obtain ⟨hs1, hs2, hs3, hs4⟩ := id hs
  refine Ret.enter Try.func33 rfl Try.ntmps33 rfl ?_
  refine Run.seq ?_
  refine Run.region ?_
  refine Ops.go rfl (Loud.box rfl rfl) ?_
  rintro _ _ ⟨b1, rfl, rfl⟩
  refine Ops.pure rfl (Pure.assign rfl) ?_
  refine Ops.pure rfl (Pure.assign rfl) ?_
  refine Ops.nil ?_
  refine Run.seq ?_
  refine Run.seq ?_
  refine Run.region ?_
  refine Ops.q rfl (QOp.call fn84 rfl (fun w hw => f_s_l02Ok w _ _ _ _ _ (by exact RdL.boxM 0 rfl rfl w hw) (by exact RdL.old (by assumption) w hw) (by assumption) (by omega) (by omega) (by omega) (by omega))) ?_
  refine Ops.pure rfl (Pure.not rfl) ?_
  refine Ops.nil ?_
  refine Run.condEF rfl ((by rw [hk]; rfl)) ?_
  refine Run.skip ?_
  refine Run.seq ?_
  refine Run.region ?_
  refine Ops.q rfl (QOp.call fn85 rfl (fun w hw => f_s_l04Count w _ _ _ _ _ (by exact RdL.boxM 0 rfl rfl w hw) (by exact RdL.old (by assumption) w hw) (by assumption))) ?_
  refine Ops.pure rfl (Pure.assign rfl) ?_
  refine Ops.pure rfl (Pure.assign rfl) ?_
  refine Ops.nil ?_
  refine Run.ret2 rfl rfl rfl ?_
  rfl

theorem small_sc {a b : Int} {l : List Int} (hk : okP a b l = true) (ha : a ≤ 3) (hb : b ≤ 3) {c e : Int} (hc : 1 ≤ c ∧ c ≤ 1000) (he : 0 ≤ e ∧ e ≤ 3) : scE a b l c e = 0 := by
  have hs := okP_size hk
  have hl := okP_inn hk
  obtain ⟨s1, s2, s3, s4⟩ := id hs
  have hi : inn a b ≤ 12 := by
    unfold inn
    have h1 : a = 1 ∨ a = 2 ∨ a = 3 := by omega
    rcases h1 with rfl | rfl | rfl <;> omega
  exact sc_ok hk ⟨hc, he⟩ (by omega)
theorem ce1 {a b c : Int} {l : List Int} (h : scE a b l c 1 = 0) : ceN a b l c 1 = ((cnL a b c (lv 1 0 [] l) : Nat) : Int) := by unfold ceN; rw [if_pos h]; rfl
theorem loT_ge {d : List Int} {B : Int} (h : ∀ x ∈ d, B ≤ x) (h0 : 0 < d.length) : ∀ k, k ≤ d.length → B ≤ loT d k
  | 0, _ => h _ (mem_getD 0 h0)
  | k + 1, hk => by
    have h1 := loT_ge h h0 k (by omega)
    have h2 := h _ (mem_getD 0 (show k < d.length by omega))
    show B ≤ min (loT d k) (d.getD k 0)
    omega
theorem hiT_le {d : List Int} {B : Int} (h : ∀ x ∈ d, x ≤ B) (h0 : 0 < d.length) : ∀ k, k ≤ d.length → hiT d k ≤ B
  | 0, _ => h _ (mem_getD 0 h0)
  | k + 1, hk => by
    have h1 := hiT_le h h0 k (by omega)
    have h2 := h _ (mem_getD 0 (show k < d.length by omega))
    show max (hiT d k) (d.getD k 0) ≤ B
    omega
theorem alL_len {a b : Int} {l : List Int} (hk : okP a b l = true) : (alL a b (lv 1 0 [] l)).length = 2 * l.length := by rw [length_alL, lv_one (okP_spec hk).2.2]
theorem alL_bd {a b : Int} {l : List Int} (hk : okP a b l = true) : ∀ x ∈ alL a b (lv 1 0 [] l), (cnt a b l : Int) - 1 ≤ x ∧ x ≤ (cnt a b l : Int) + 1 ∧ 1 ≤ x ∧ x ≤ 300 := by
  intro x hx
  have h1 := alL_pos hk 1 x hx
  have hcl := cnt_le (l := l) (okP_size hk)
  unfold alL at hx
  obtain ⟨y, hy, rfl⟩ := List.mem_map.1 hx
  have h2 := lv_near hk hy
  omega
theorem range_facts {a b : Int} {l : List Int} (hk : okP a b l = true) (h0 : ¬ (alL a b (lv 1 0 [] l)).length = 0) : leastL (alL a b (lv 1 0 [] l)) = loT (alL a b (lv 1 0 [] l)) (alL a b (lv 1 0 [] l)).length ∧ mostL (alL a b (lv 1 0 [] l)) = hiT (alL a b (lv 1 0 [] l)) (alL a b (lv 1 0 [] l)).length ∧
    (cnt a b l : Int) - 1 ≤ leastL (alL a b (lv 1 0 [] l)) ∧ mostL (alL a b (lv 1 0 [] l)) ≤ (cnt a b l : Int) + 1 ∧ 1 ≤ (alL a b (lv 1 0 [] l)).getD 0 0 ∧ (alL a b (lv 1 0 [] l)).getD 0 0 ≤ 300 := by
  have hb := alL_bd hk
  obtain ⟨h1, h2⟩ := least_lo ((alL a b (lv 1 0 [] l)).length - 1) (d := alL a b (lv 1 0 [] l)) (by omega) (fun x hx => (hb x hx).2.2.1)
  have h3 := hb _ (mem_getD 0 (show 0 < (alL a b (lv 1 0 [] l)).length by omega))
  refine ⟨h1, h2, ?_, ?_, h3.2.2.1, h3.2.2.2⟩
  · rw [h1]; exact loT_ge (fun x hx => (hb x hx).1) (by omega) _ (Nat.le_refl _)
  · rw [h2]; exact hiT_le (fun x hx => (hb x hx).2.1) (by omega) _ (Nat.le_refl _)
theorem same_all {a b c : Int} {d : List Lf} : sameT (alL a b d) c (alL a b d).length = cnL a b c d := by
  rw [length_alL, same_cnL _ (Nat.le_refl _), List.take_length]

set_option maxRecDepth 4000 in
/-- laws.FnRanges -/
theorem f_l_FnRanges (w : World) (vc : Value) (co : List Int) (hc : Rd w vc 1 co.length (AW.bytes co)) (hcl : co.length ≤ 9223372036854775807) (hb : ∀ x ∈ co, 0 ≤ x ∧ x ≤ 255) : RetV Try.prog 7 [vc] w (.bool true) := by
  refine Ret.enter Try.func7 rfl Try.ntmps7 rfl ?_
  refine Run.seq ?_
  refine Run.region ?_
  refine Ops.pure rfl (Pure.assign rfl) ?_
  refine Ops.nil ?_
  refine Run.seq ?_
  refine Run.seq ?_
  refine Run.region ?_
  refine Ops.pure rfl (Pure.move rfl) ?_
  refine Ops.q rfl (QOp.call fn31 rfl (fun w hw => f_l_a2Long w vc _ _ _ 0 [] (RdL.old hc w hw) (Rd_nil w 1))) ?_
  refine Ops.nil ?_
  refine Run.cond rfl (fun c19 => ?_) (fun c19 => ?_)
  · skip
    replace c19 := dT c19
    refine Run.seq ?_
    refine Run.region ?_
    refine Ops.pure rfl (Pure.assign rfl) ?_
    refine Ops.nil ?_
    refine Run.ret1 rfl rfl ?_
    rfl
  · skip
    replace c19 := dF c19
    have hcl2 : co.length ≤ 1000000000 := by omega
    refine Run.skip ?_
    refine Run.seq ?_
    refine Run.region ?_
    refine Ops.pure rfl (Pure.move rfl) ?_
    refine Ops.go rfl (Loud.callR fn32 rfl (fun w hw => f_s_A2Small w vc co (RdL.old hc w hw) hb hcl2)) ?_
    rintro v21 _ ⟨L21, hQ21, rfl⟩
    obtain ⟨a21, c21, l21, x21, ha21, hA21, hc21, hC21, hk21, h21, rfl, rfl⟩ := hQ21
    refine Ops.go rfl (Loud.alloc zero28 rfl) ?_
    rintro _ _ ⟨b3, rfl, rfl⟩
    refine Ops.store (Stores.box 0 rfl rfl rfl size28 (one3 h21) rfl rfl) ?_
    refine Ops.nil ?_
    refine Run.seq ?_
    have hli := okP_inn hk21
    have hib := (inn_eq (okP_size hk21)).2.1
    have h11 : scE a21 c21 l21 1 1 = 0 := small_sc hk21 (by omega) (by omega) (by omega) (by omega)
    have hal := alL_len hk21
    have hT : Int.toNat 1 = 1 := rfl
    refine Run.region ?_
    refine Ops.pure rfl (Pure.ldBA 0 rfl cell28 rfl rfl rfl) ?_
    refine Ops.go rfl (Loud.callR fn16 rfl (fun w hw => f_i_CurvesAfter w a21 c21 x21 l21 (RdL.own 1 rfl w hw) (by omega) (by omega) (by omega) (by omega) (by omega))) ?_
    rintro v24 _ ⟨L24, hQ24, rfl⟩
    rw [ca_ok h11, h11] at hQ24
    obtain ⟨x24, rfl, rfl⟩ := hQ24
    refine Ops.pure rfl (Pure.move rfl) ?_
    refine Ops.pure rfl (Pure.extract rfl rfl) ?_
    refine Ops.pure rfl (Pure.extract rfl rfl) ?_
    refine Ops.pure rfl (Pure.assign rfl) ?_
    refine Ops.pure rfl (Pure.assign rfl) ?_
    refine Ops.nil ?_
    refine Run.seq ?_
    refine Run.region ?_
    refine Ops.pure rfl (Pure.ldBA 1 rfl cell28 rfl rfl rfl) ?_
    refine Ops.q rfl (QOp.call fn23 rfl (fun w hw => f_i_CurveRange w _ _ _ _ _ (by exact RdL.own 2 rfl w hw) (by omega) (by omega) (by omega) (by omega) (by omega) (by omega) (by omega))) ?_
    refine Ops.pure rfl (Pure.move rfl) ?_
    refine Ops.pure rfl (Pure.extract rfl rfl) ?_
    refine Ops.pure rfl (Pure.extract rfl rfl) ?_
    refine Ops.pure rfl (Pure.extract rfl rfl) ?_
    refine Ops.pure rfl (Pure.assign rfl) ?_
    refine Ops.pure rfl (Pure.assign rfl) ?_
    refine Ops.pure rfl (Pure.assign rfl) ?_
    refine Ops.nil ?_
    refine Run.seq ?_
    refine Run.seq ?_
    refine Run.region ?_
    refine Ops.pure rfl (Pure.move rfl) ?_
    refine Ops.pure rfl (Pure.neq rfl rfl) ?_
    refine Ops.pure rfl (Pure.move rfl) ?_
    refine Ops.guardY rfl rfl rfl (by simp) ?_
    refine Ops.pure rfl (Pure.move rfl) ?_
    refine Ops.guardY rfl rfl rfl (by simp) ?_
    refine Ops.pure rfl (Pure.len sl22 (RdL.own 0 rfl) rfl) ?_
    refine Ops.guardY rfl rfl rfl (by simp) ?_
    refine Ops.pure rfl (Pure.fieldAddrB fld28_2 rfl) ?_
    refine Ops.guardY rfl rfl rfl (by simp) ?_
    refine Ops.pure rfl (Pure.ldB 1 rfl cell22 rfl rfl) ?_
    refine Ops.guardY rfl rfl rfl (by simp) ?_
    refine Ops.pure rfl (Pure.len sl22 (RdL.own 2 rfl) rfl) ?_
    refine Ops.guardY rfl rfl rfl (by simp) ?_
    refine Ops.pure rfl (Pure.mul rfl rfl (by omega) (by omega)) ?_
    refine Ops.guardY rfl rfl rfl (by simp) ?_
    refine Ops.pure rfl (Pure.neq rfl rfl) ?_
    refine Ops.pure rfl (Pure.pickF rfl (by simp) rfl) ?_
    refine Ops.nil ?_
    refine Run.condEF rfl (by rw [decide_eq_true (by omega)]; rfl) ?_
    refine Run.skip ?_
    refine Run.seq ?_
    refine Run.seq ?_
    refine Run.region ?_
    refine Ops.pure rfl (Pure.move rfl) ?_
    refine Ops.pure rfl (Pure.len sl22 (RdL.own 0 rfl) rfl) ?_
    refine Ops.pure rfl (Pure.eql rfl rfl) ?_
    refine Ops.nil ?_
    refine Run.cond rfl (fun c46 => ?_) (fun c46 => ?_)
    · skip
      replace c46 := dT c46
      have hlz : lv 1 0 [] l21 = [] := List.eq_nil_of_length_eq_zero (by rw [length_alL] at hal; rw [length_alL] at c46; omega)
      refine Run.seq ?_
      refine Run.region ?_
      refine Ops.pure rfl (Pure.move rfl) ?_
      refine Ops.pure rfl (Pure.eql rfl rfl) ?_
      refine Ops.pure rfl (Pure.assign rfl) ?_
      refine Ops.nil ?_
      refine Run.ret1 rfl rfl ?_
      rw [show crgE a21 c21 l21 1 = 3 from (crg_none (M := 1) h11 hlz).1]
      rfl
    · skip
      replace c46 := dF c46
      have hne : ¬ (alL a21 c21 (lv 1 0 [] l21)).length = 0 := by omega
      have hnl : ¬ lv 1 0 [] l21 = [] := fun h => hne (by rw [h]; rfl)
      have e1 : crgE a21 c21 l21 1 = 0 := (crg_ok (M := 1) h11 hnl).1
      have e2 : ∀ x, crgV a21 c21 l21 1 x = x := (crg_ok (M := 1) h11 hnl).2
      obtain ⟨g1, g2, g3, g4, g5, g6⟩ := range_facts hk21 hne
      simp only [e1, e2, hT]
      have h0l : 0 < (alL a21 c21 (lv 1 0 [] l21)).length := by omega
      refine Run.skip ?_
      refine Run.seq ?_
      refine Run.region ?_
      refine Ops.pure rfl (Pure.move rfl) ?_
      refine Ops.pure rfl (Pure.idx1N sl22 (RdL.own 0 rfl) rfl rfl (by first | assumption | omega | (simp; omega))) ?_
      refine Ops.pure rfl (Pure.ld cell2 rfl (RdL.own 0 rfl) (by first | exact ints_get (by omega) | exact bools_get (by omega) | exact strs_get (by omega) | exact vals_get (by first | omega | (simp; omega)))) ?_
      refine Ops.pure rfl (Pure.assign rfl) ?_
      refine Ops.nil ?_
      refine Run.seq ?_
      refine Run.region ?_
      refine Ops.pure rfl (Pure.move rfl) ?_
      refine Ops.pure rfl (Pure.idx1N sl22 (RdL.own 0 rfl) rfl rfl (by first | assumption | omega | (simp; omega))) ?_
      refine Ops.pure rfl (Pure.ld cell2 rfl (RdL.own 0 rfl) (by first | exact ints_get (by omega) | exact bools_get (by omega) | exact strs_get (by omega) | exact vals_get (by first | omega | (simp; omega)))) ?_
      refine Ops.pure rfl (Pure.assign rfl) ?_
      refine Ops.nil ?_
      refine Run.seq ?_
      refine Run.seq ?_
      refine Run.region ?_
      refine Ops.pure rfl (Pure.assign rfl) ?_
      refine Ops.nil ?_
      refine Run.block ?_
      refine Run.loop (X := Nat) (fun k => [(3, .pointer (some ⟨b3, 0, none⟩)), (4, x24), (6, .int .i64 (leastL (alL a21 c21 (lv 1 0 [] l21)))), (7, .int .i64 (mostL (alL a21 c21 (lv 1 0 [] l21)))), (8, .int .i64 0), (9, .int .i64 (loT (alL a21 c21 (lv 1 0 [] l21)) k)), (10, .int .i64 (hiT (alL a21 c21 (lv 1 0 [] l21)) k)), (11, .int .i64 k)]) (fun k => [.box b3 28 [.int .i64 a21, .int .i64 c21, x21], .row 2 1 x24 (alL a21 c21 (lv 1 0 [] l21)).length (ints (alL a21 c21 (lv 1 0 [] l21))), .row 2 1 x21 l21.length (ints l21)]) (fun k => k ≤ (alL a21 c21 (lv 1 0 [] l21)).length) (fun k => (alL a21 c21 (lv 1 0 [] l21)).length - k) 0 ?_ ?_ ?_ ?_
      · exact Nat.zero_le _
      · exact ⟨rfl, rfl, rfl, rfl, rfl, rfl, rfl, rfl, trivial⟩
      · exact Ext.take 1 rfl (Ext.take 0 rfl (Ext.refl _))
      · intro k hinv0
        refine Run.seq ?_
        refine Run.seq ?_
        refine Run.region ?_
        refine Ops.pure rfl (Pure.move rfl) ?_
        refine Ops.pure rfl (Pure.move rfl) ?_
        refine Ops.pure rfl (Pure.len sl22 (RdL.own 1 rfl) rfl) ?_
        refine Ops.pure rfl (Pure.lss rfl rfl) ?_
        refine Ops.nil ?_
        refine Run.cond rfl (fun c58 => ?_) (fun c58 => ?_)
        · skip
          replace c58 := dT c58
          refine Run.skip ?_
          refine Run.seq ?_
          refine Run.block ?_
          refine Run.seq ?_
          refine Run.region ?_
          refine Ops.pure rfl (Pure.move rfl) ?_
          refine Ops.pure rfl (Pure.move rfl) ?_
          refine Ops.pure rfl (Pure.move rfl) ?_
          refine Ops.pure rfl (Pure.idx1N sl22 (RdL.own 1 rfl) rfl rfl (by first | assumption | omega | (simp; omega))) ?_
          refine Ops.pure rfl (Pure.ld cell2 rfl (RdL.own 1 rfl) (by first | exact ints_get (by omega) | exact bools_get (by omega) | exact strs_get (by omega) | exact vals_get (by first | omega | (simp; omega)))) ?_
          refine Ops.pure rfl (Pure.minI rfl rfl) ?_
          refine Ops.pure rfl (Pure.assign rfl) ?_
          refine Ops.nil ?_
          refine Run.region ?_
          refine Ops.pure rfl (Pure.move rfl) ?_
          refine Ops.pure rfl (Pure.move rfl) ?_
          refine Ops.pure rfl (Pure.move rfl) ?_
          refine Ops.pure rfl (Pure.idx1N sl22 (RdL.own 1 rfl) rfl rfl (by first | assumption | omega | (simp; omega))) ?_
          refine Ops.pure rfl (Pure.ld cell2 rfl (RdL.own 1 rfl) (by first | exact ints_get (by omega) | exact bools_get (by omega) | exact strs_get (by omega) | exact vals_get (by first | omega | (simp; omega)))) ?_
          refine Ops.pure rfl (Pure.maxI rfl rfl) ?_
          refine Ops.pure rfl (Pure.assign rfl) ?_
          refine Ops.nil ?_
          refine Run.blk ?_
          refine Run.region ?_
          refine Ops.pure rfl (Pure.move rfl) ?_
          refine Ops.pure rfl (Pure.add rfl rfl (by omega) (by omega)) ?_
          refine Ops.pure rfl (Pure.assign rfl) ?_
          refine Ops.nil ?_
          refine Run.asrt ?_
          exact ⟨k + 1, ⟨by omega, by omega⟩, ⟨rfl, rfl, rfl, rfl, rfl, rfl, rfl, rfl, trivial⟩, Ext.refl _⟩
        · skip
          replace c58 := dF c58
          refine Run.exit rfl ?_
          refine Run.seq ?_
          have hke : k = (alL a21 c21 (lv 1 0 [] l21)).length := by omega
          subst hke
          refine Any.start follows ?_
          refine Any.take 0 rfl (by kernel_rfl) rfl (QOp.pure (Pure.ldBA 0 rfl cell28 rfl rfl rfl)) ?_
          refine Any.take 1 rfl (by kernel_rfl) rfl (QOp.pure (Pure.move rfl)) ?_
          refine Any.take 2 rfl (by kernel_rfl) rfl (QOp.pure (Pure.idx1N sl22 (RdL.own 1 rfl) rfl rfl (by first | assumption | omega | (simp; omega)))) ?_
          refine Any.take 3 rfl (by kernel_rfl) rfl (QOp.pure (Pure.ld cell2 rfl (RdL.own 1 rfl) (by first | exact ints_get (by omega) | exact bools_get (by omega) | exact strs_get (by omega) | exact vals_get (by first | omega | (simp; omega))))) ?_
          refine Any.take 4 rfl (by kernel_rfl) rfl (QOp.call fn25 rfl (fun w hw => (f_i_CountEdits w a21 c21 x21 l21 ((alL a21 c21 (lv 1 0 [] l21)).getD 0 0) 1 (RdL.own 2 rfl w hw) (by omega) (by omega) (by omega) (by omega) (by omega) (by omega) (by omega)).cong (show _ = Value.tuple #[.int .i64 ((cnL a21 c21 ((alL a21 c21 (lv 1 0 [] l21)).getD 0 0) (lv 1 0 [] l21) : Nat) : Int), .int .i64 0] by rw [show scE a21 c21 l21 ((alL a21 c21 (lv 1 0 [] l21)).getD 0 0) 1 = 0 from small_sc hk21 (by omega) (by omega) (by omega) (by omega), ce1 (small_sc hk21 (by omega) (by omega) (by omega) (by omega))]))) ?_
          refine Any.take 5 rfl (by kernel_rfl) rfl (QOp.pure (Pure.move rfl)) ?_
          refine Any.take 6 rfl (by kernel_rfl) rfl (QOp.pure (Pure.extract rfl rfl)) ?_
          refine Any.take 7 rfl (by kernel_rfl) rfl (QOp.pure (Pure.extract rfl rfl)) ?_
          refine Any.take 8 rfl (by kernel_rfl) rfl (QOp.pure (Pure.assign rfl)) ?_
          refine Any.take 9 rfl (by kernel_rfl) rfl (QOp.pure (Pure.assign rfl)) ?_
          refine Any.done (by kernel_rfl) ?_
          refine Run.seq ?_
          refine Run.region ?_
          refine Ops.pure rfl (Pure.assign rfl) ?_
          refine Ops.nil ?_
          refine Run.seq ?_
          refine Run.seq ?_
          refine Run.region ?_
          refine Ops.pure rfl (Pure.assign rfl) ?_
          refine Ops.nil ?_
          refine Run.block ?_
          refine Run.loop (X := Nat) (fun k => [(3, .pointer (some ⟨b3, 0, none⟩)), (4, x24), (6, .int .i64 (leastL (alL a21 c21 (lv 1 0 [] l21)))), (7, .int .i64 (mostL (alL a21 c21 (lv 1 0 [] l21)))), (8, .int .i64 0), (9, .int .i64 (loT (alL a21 c21 (lv 1 0 [] l21)) (alL a21 c21 (lv 1 0 [] l21)).length)), (10, .int .i64 (hiT (alL a21 c21 (lv 1 0 [] l21)) (alL a21 c21 (lv 1 0 [] l21)).length)), (12, .int .i64 ((cnL a21 c21 ((alL a21 c21 (lv 1 0 [] l21)).getD 0 0) (lv 1 0 [] l21) : Nat) : Int)), (13, .int .i64 0), (14, .int .i64 (sameT (alL a21 c21 (lv 1 0 [] l21)) ((alL a21 c21 (lv 1 0 [] l21)).getD 0 0) k : Int)), (15, .int .i64 k)]) (fun k => [.box b3 28 [.int .i64 a21, .int .i64 c21, x21], .row 2 1 x24 (alL a21 c21 (lv 1 0 [] l21)).length (ints (alL a21 c21 (lv 1 0 [] l21))), .row 2 1 x21 l21.length (ints l21)]) (fun k => k ≤ (alL a21 c21 (lv 1 0 [] l21)).length) (fun k => (alL a21 c21 (lv 1 0 [] l21)).length - k) 0 ?_ ?_ ?_ ?_
          · exact Nat.zero_le _
          · exact ⟨rfl, rfl, rfl, rfl, rfl, rfl, rfl, rfl, rfl, rfl, rfl, trivial⟩
          · exact Ext.refl _
          · intro k hinv1
            have hsl := sameT_le (alL a21 c21 (lv 1 0 [] l21)) ((alL a21 c21 (lv 1 0 [] l21)).getD 0 0) k
            refine Run.seq ?_
            refine Run.seq ?_
            refine Run.region ?_
            refine Ops.pure rfl (Pure.move rfl) ?_
            refine Ops.pure rfl (Pure.move rfl) ?_
            refine Ops.pure rfl (Pure.len sl22 (RdL.own 1 rfl) rfl) ?_
            refine Ops.pure rfl (Pure.lss rfl rfl) ?_
            refine Ops.nil ?_
            refine Run.cond rfl (fun c84 => ?_) (fun c84 => ?_)
            · skip
              replace c84 := dT c84
              refine Run.skip ?_
              refine Run.seq ?_
              refine Run.block ?_
              refine Run.seq ?_
              refine Any.start follows ?_
              refine Any.take 0 rfl (by kernel_rfl) rfl (QOp.pure (Pure.move rfl)) ?_
              refine Any.take 1 rfl (by kernel_rfl) rfl (QOp.pure (Pure.move rfl)) ?_
              refine Any.take 2 rfl (by kernel_rfl) rfl (QOp.pure (Pure.idx1N sl22 (RdL.own 1 rfl) rfl rfl (by first | assumption | omega | (simp; omega)))) ?_
              refine Any.take 3 rfl (by kernel_rfl) rfl (QOp.pure (Pure.ld cell2 rfl (RdL.own 1 rfl) (by first | exact ints_get (by omega) | exact bools_get (by omega) | exact strs_get (by omega) | exact vals_get (by first | omega | (simp; omega))))) ?_
              refine Any.take 4 rfl (by kernel_rfl) rfl (QOp.pure (Pure.move rfl)) ?_
              refine Any.take 5 rfl (by kernel_rfl) rfl (QOp.pure (Pure.idx1N sl22 (RdL.own 1 rfl) rfl rfl (by first | assumption | omega | (simp; omega)))) ?_
              refine Any.take 6 rfl (by kernel_rfl) rfl (QOp.pure (Pure.ld cell2 rfl (RdL.own 1 rfl) (by first | exact ints_get (by omega) | exact bools_get (by omega) | exact strs_get (by omega) | exact vals_get (by first | omega | (simp; omega))))) ?_
              refine Any.take 7 rfl (by kernel_rfl) rfl (QOp.pure (Pure.eql rfl rfl)) ?_
              refine Any.done (by kernel_rfl) ?_
              refine Run.cond rfl (fun c94 => ?_) (fun c94 => ?_)
              · skip
                replace c94 := dT c94
                replace c94 : (alL a21 c21 (lv 1 0 [] l21)).getD k 0 = (alL a21 c21 (lv 1 0 [] l21)).getD 0 0 := c94
                refine Run.region ?_
                refine Ops.pure rfl (Pure.move rfl) ?_
                refine Ops.pure rfl (Pure.add rfl rfl (by omega) (by omega)) ?_
                refine Ops.pure rfl (Pure.assign rfl) ?_
                refine Ops.nil ?_
                refine Run.blk ?_
                refine Run.region ?_
                refine Ops.pure rfl (Pure.move rfl) ?_
                refine Ops.pure rfl (Pure.add rfl rfl (by omega) (by omega)) ?_
                refine Ops.pure rfl (Pure.assign rfl) ?_
                refine Ops.nil ?_
                refine Run.asrt ?_
                first
                  | exact ⟨k + 1, ⟨by omega, by omega⟩, ⟨rfl, rfl, rfl, rfl, rfl, rfl, rfl, rfl, rfl, congrArg (fun x => some (Value.int .i64 x)) (by have := sameT_yes c94; omega), rfl, trivial⟩, Ext.refl _⟩
                  | exact ⟨k + 1, ⟨by omega, by omega⟩, ⟨rfl, rfl, rfl, rfl, rfl, rfl, rfl, rfl, rfl, congrArg (fun x => some (Value.int .i64 x)) (by rw [sameT_no c94]), rfl, trivial⟩, Ext.refl _⟩
              · skip
                replace c94 := dF c94
                replace c94 : ¬ (alL a21 c21 (lv 1 0 [] l21)).getD k 0 = (alL a21 c21 (lv 1 0 [] l21)).getD 0 0 := c94
                refine Run.skip ?_
                refine Run.blk ?_
                refine Run.region ?_
                refine Ops.pure rfl (Pure.move rfl) ?_
                refine Ops.pure rfl (Pure.add rfl rfl (by omega) (by omega)) ?_
                refine Ops.pure rfl (Pure.assign rfl) ?_
                refine Ops.nil ?_
                refine Run.asrt ?_
                first
                  | exact ⟨k + 1, ⟨by omega, by omega⟩, ⟨rfl, rfl, rfl, rfl, rfl, rfl, rfl, rfl, rfl, congrArg (fun x => some (Value.int .i64 x)) (by have := sameT_yes c94; omega), rfl, trivial⟩, Ext.refl _⟩
                  | exact ⟨k + 1, ⟨by omega, by omega⟩, ⟨rfl, rfl, rfl, rfl, rfl, rfl, rfl, rfl, rfl, congrArg (fun x => some (Value.int .i64 x)) (by rw [sameT_no c94]), rfl, trivial⟩, Ext.refl _⟩
            · skip
              replace c84 := dF c84
              refine Run.exit rfl ?_
              refine Run.seq ?_
              have hcl3 := cnt_le (l := l21) (okP_size hk21)
              refine Run.region ?_
              refine Ops.pure rfl (Pure.ldBA 0 rfl cell28 rfl rfl rfl) ?_
              refine Ops.q rfl (QOp.call fn33 rfl (fun w hw => f_s_CountCurves w a21 c21 x21 l21 (RdL.own 2 rfl w hw) (by omega) hk21)) ?_
              refine Ops.pure rfl (Pure.move rfl) ?_
              refine Ops.pure rfl (Pure.extract rfl rfl) ?_
              refine Ops.pure rfl (Pure.extract rfl rfl) ?_
              refine Ops.pure rfl (Pure.assign rfl) ?_
              refine Ops.pure rfl (Pure.assign rfl) ?_
              refine Ops.nil ?_
              refine Run.seq ?_
              have hke : k = (alL a21 c21 (lv 1 0 [] l21)).length := by omega
              subst hke
              have hsm := same_all (a := a21) (b := c21) (c := (alL a21 c21 (lv 1 0 [] l21)).getD 0 0) (d := lv 1 0 [] l21)
              refine Run.region ?_
              refine Ops.pure rfl (Pure.move rfl) ?_
              refine Ops.pure rfl (Pure.eql rfl rfl) ?_
              refine Ops.pure rfl (Pure.move rfl) ?_
              refine Ops.guardY rfl rfl rfl (by simp) ?_
              refine Ops.pure rfl (Pure.move rfl) ?_
              refine Ops.guardY rfl rfl rfl (by simp) ?_
              refine Ops.pure rfl (Pure.move rfl) ?_
              refine Ops.guardY rfl rfl rfl (by simp) ?_
              refine Ops.pure rfl (Pure.eql rfl rfl) ?_
              refine Ops.pure rfl (Pure.pickT rfl (by simp) rfl) ?_
              refine Ops.pure rfl (Pure.move rfl) ?_
              refine Ops.guardY rfl rfl rfl (decide_eq_true g1) ?_
              refine Ops.pure rfl (Pure.move rfl) ?_
              refine Ops.guardY rfl rfl rfl (decide_eq_true g1) ?_
              refine Ops.pure rfl (Pure.move rfl) ?_
              refine Ops.guardY rfl rfl rfl (decide_eq_true g1) ?_
              refine Ops.pure rfl (Pure.eql rfl rfl) ?_
              refine Ops.pure rfl (Pure.pickT rfl (decide_eq_true g1) rfl) ?_
              refine Ops.pure rfl (Pure.move rfl) ?_
              refine Ops.guardY rfl rfl rfl (decide_eq_true g2) ?_
              refine Ops.pure rfl (Pure.move rfl) ?_
              refine Ops.guardY rfl rfl rfl (decide_eq_true g2) ?_
              refine Ops.pure rfl (Pure.eql rfl rfl) ?_
              refine Ops.pure rfl (Pure.pickT rfl (decide_eq_true g2) rfl) ?_
              refine Ops.pure rfl (Pure.move rfl) ?_
              refine Ops.guardY rfl rfl rfl (by simp) ?_
              refine Ops.pure rfl (Pure.move rfl) ?_
              refine Ops.guardY rfl rfl rfl (by simp) ?_
              refine Ops.pure rfl (Pure.move rfl) ?_
              refine Ops.guardY rfl rfl rfl (by simp) ?_
              refine Ops.pure rfl (Pure.eql rfl rfl) ?_
              refine Ops.pure rfl (Pure.pickT rfl (by simp) rfl) ?_
              refine Ops.pure rfl (Pure.move rfl) ?_
              refine Ops.guardY rfl rfl rfl (decide_eq_true (by rw [hsm])) ?_
              refine Ops.pure rfl (Pure.move rfl) ?_
              refine Ops.guardY rfl rfl rfl (decide_eq_true (by rw [hsm])) ?_
              refine Ops.pure rfl (Pure.eql rfl rfl) ?_
              refine Ops.pure rfl (Pure.pickT rfl (decide_eq_true (by rw [hsm])) rfl) ?_
              refine Ops.pure rfl (Pure.move rfl) ?_
              refine Ops.guardY rfl rfl rfl (by simp) ?_
              refine Ops.pure rfl (Pure.move rfl) ?_
              refine Ops.guardY rfl rfl rfl (by simp) ?_
              refine Ops.pure rfl (Pure.move rfl) ?_
              refine Ops.guardY rfl rfl rfl (by simp) ?_
              refine Ops.pure rfl (Pure.sub rfl rfl (by omega) (by omega)) ?_
              refine Ops.guardY rfl rfl rfl (by simp) ?_
              refine Ops.pure rfl (Pure.geq rfl rfl) ?_
              refine Ops.pure rfl (Pure.pickT rfl (by simp) rfl) ?_
              refine Ops.pure rfl (Pure.move rfl) ?_
              refine Ops.guardY rfl rfl rfl (decide_eq_true (by omega)) ?_
              refine Ops.pure rfl (Pure.move rfl) ?_
              refine Ops.guardY rfl rfl rfl (decide_eq_true (by omega)) ?_
              refine Ops.pure rfl (Pure.move rfl) ?_
              refine Ops.guardY rfl rfl rfl (decide_eq_true (by omega)) ?_
              refine Ops.pure rfl (Pure.add rfl rfl (by omega) (by omega)) ?_
              refine Ops.guardY rfl rfl rfl (decide_eq_true (by omega)) ?_
              refine Ops.pure rfl (Pure.leq rfl rfl) ?_
              refine Ops.pure rfl (Pure.pickT rfl (decide_eq_true (by omega)) rfl) ?_
              refine Ops.pure rfl (Pure.assign rfl) ?_
              refine Ops.nil ?_
              refine Run.ret1 rfl rfl ?_
              rw [decide_eq_true (by omega)]

end Go.Proofs.Ytkplanpcmkbfiaa
