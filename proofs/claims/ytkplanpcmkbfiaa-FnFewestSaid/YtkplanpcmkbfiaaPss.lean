/- Contracts of functions, printed by program from annotations. -/
import Derived.Test.YtkplanpcmkbfiaaPssM
namespace Go.Proofs.Ytkplanpcmkbfiaa
open Go Go.AW Go.RowKit
set_option linter.unusedVariables false
set_option linter.unusedSimpArgs false

set_option maxRecDepth 4000 in
/-- (impl.Panel).passes -/
theorem f_i_Panel_passes (w : World) (a : Int) (b : Int) (v : Value) (l : List Int) (u : Value) (ws : List Wk) (hv : Rd w v 1 l.length (ints l)) (hk : okP a b l = true) (hu : Rd w u 4 ws.length (ws.flatMap encW)) (hwl : ws.length ≤ 1048576) (hvw : ∀ x ∈ ws, VW a b x) : Ret Try.prog 126 [.agg #[.int .i64 a, .int .i64 b, v], u] w (fun u L => L = [.row 89 2 u (pasL a b l ws).length (passes (pasL a b l ws))]) := by
  have hs := okP_size hk
  obtain ⟨hs1, hs2, hs3, hs4⟩ := id hs
  have hsl := segN_le hs
  refine Ret.enter Try.func126 rfl Try.ntmps126 rfl ?_
  refine Run.seq ?_
  refine Run.region ?_
  refine Ops.go rfl (Loud.box rfl rfl) ?_
  rintro _ _ ⟨b2, rfl, rfl⟩
  refine Ops.pure rfl (Pure.assign rfl) ?_
  refine Ops.nil ?_
  refine Run.seq ?_
  refine Run.region ?_
  refine Ops.go rfl (Loud.lit0 sl84) ?_
  rintro v9 _ rfl
  refine Ops.pure rfl (Pure.assign rfl) ?_
  refine Ops.nil ?_
  refine Run.seq ?_
  refine Run.seq ?_
  refine Run.region ?_
  refine Ops.pure rfl (Pure.move rfl) ?_
  refine Ops.pure rfl (Pure.len sl146 (RdL.old hu) rfl) ?_
  refine Ops.pure rfl (Pure.move rfl) ?_
  refine Ops.nil ?_
  refine Run.block ?_
  refine Run.loop2 (X := Nat) (Y := Value) (fun k vo => [(2, .pointer (some ⟨b2, 0, none⟩)), (5, vo), (10, u), (11, .int .i64 ws.length), (12, .int .i64 k)]) (fun k vo => [.row 89 2 vo (pasL a b l (ws.take k)).length (passes (pasL a b l (ws.take k))), .box b2 28 [.int .i64 a, .int .i64 b, v]]) (fun k vo => k ≤ ws.length) (fun k vo => ws.length - k) 0 v9 ?_ ?_ ?_ ?_
  · exact Nat.zero_le _
  · exact ⟨rfl, rfl, rfl, rfl, rfl, trivial⟩
  · exact Ext.refl _
  · intro k vo hinv0
    have hvk := fun (h : k < ws.length) => hvw _ (mem_getD ((0, 0, 0, 0) : Wk) h)
    have hlp := length_pasL a b l (ws.take k)
    rw [List.length_take] at hlp
    refine Run.seq ?_
    refine Run.region ?_
    refine Ops.pure rfl (Pure.lss rfl rfl) ?_
    refine Ops.nil ?_
    refine Run.seq ?_
    refine Run.cond rfl (fun c13 => ?_) (fun c13 => ?_)
    · skip
      replace c13 := dT c13
      refine Run.skip ?_
      refine Run.seq ?_
      refine Run.block ?_
      refine Run.seq ?_
      refine Run.region ?_
      refine Ops.pure rfl (Pure.idxN sl146 (RdL.old hu) rfl rfl (by first | assumption | omega | (simp; omega))) ?_
      refine Ops.pure rfl (Pure.ldA cell57 rfl (RdL.old hu) (seg_get encW_len (by omega) ((0, 0, 0, 0) : Wk)) rfl (by decide)) ?_
      refine Ops.go rfl (Loud.alloc zero57 rfl) ?_
      rintro _ _ ⟨b7, rfl, rfl⟩
      refine Ops.store (Stores.box 0 rfl rfl rfl size57 (allOne rfl) rfl rfl) ?_
      refine Ops.nil ?_
      refine Run.seq ?_
      have hvi := hvk (by omega)
      have hmk := VW_mid hs (show VW a b ((ws.getD k ((0, 0, 0, 0) : Wk)).1, (ws.getD k ((0, 0, 0, 0) : Wk)).2.1, (ws.getD k ((0, 0, 0, 0) : Wk)).2.2.1, (ws.getD k ((0, 0, 0, 0) : Wk)).2.2.2) from hvi)
      have hptk := hmk.2.2.2.2.2.2.2.2.1
      have hxk := ptOk_mid hs hptk
      refine Run.region ?_
      refine Ops.pure rfl (Pure.ldBA 0 rfl cell57 rfl rfl rfl) ?_
      refine Ops.q rfl (QOp.call fn92 rfl (fun w hw => f_i_Walker_next w _ _ _ _ (by omega) (by omega) (by omega) (by omega))) ?_
      refine Ops.go rfl (Loud.alloc zero55 rfl) ?_
      rintro _ _ ⟨b8, rfl, rfl⟩
      refine Ops.store (Stores.box 0 rfl rfl rfl size55 (allOne rfl) rfl rfl) ?_
      refine Ops.nil ?_
      refine Run.seq ?_
      refine Run.region ?_
      refine Ops.pure rfl (Pure.ldBA 3 rfl cell28 rfl rfl rfl) ?_
      refine Ops.pure rfl (Pure.ldBA 0 rfl cell55 rfl rfl rfl) ?_
      refine Ops.q rfl (QOp.call fn91 rfl (fun w hw => f_i_Panel_isCrossing w a b v l _ _ (RdL.old hv w hw) hk hptk)) ?_
      refine Ops.nil ?_
      refine Run.cond rfl (fun c20 => ?_) (fun c20 => ?_)
      · skip
        replace c20 := dT c20
        refine Any.start follows ?_
        refine Any.take 0 rfl (by kernel_rfl) rfl (QOp.pure (Pure.move rfl)) ?_
        refine Any.take 1 rfl (by kernel_rfl) rfl (QOp.pure (Pure.ldBA 3 rfl cell28 rfl rfl rfl)) ?_
        refine Any.take 2 rfl (by kernel_rfl) rfl (QOp.pure (Pure.ldBA 0 rfl cell55 rfl rfl rfl)) ?_
        refine Any.take 3 rfl (by kernel_rfl) rfl (QOp.call fn122 rfl (fun w hw => f_i_Panel_crossingIndex w a b v l _ _ (RdL.old hv w hw) hk hptk c20)) ?_
        refine Any.take 4 rfl (by kernel_rfl) rfl (QOp.pure (Pure.fieldAddrB fld57_1 rfl)) ?_
        refine Any.take 5 rfl (by kernel_rfl) rfl (QOp.pure (Pure.ldB 1 rfl cell2 rfl rfl)) ?_
        refine Any.take 6 rfl (by kernel_rfl) rfl (QOp.pure (Pure.fieldAddrB fld57_2 rfl)) ?_
        refine Any.take 7 rfl (by kernel_rfl) rfl (QOp.pure (Pure.ldB 1 rfl cell2 rfl rfl)) ?_
        refine Any.take 8 rfl (by kernel_rfl) rfl (QOp.pure (Pure.mul rfl rfl (by omega) (by omega))) ?_
        refine Any.take 9 rfl (by kernel_rfl) rfl (QOp.pure (Pure.ldBA 0 rfl cell55 rfl rfl rfl)) ?_
        refine Any.take 10 rfl (by kernel_rfl) rfl (QOp.call fn93 rfl (fun w hw => f_i_overSlope w _ _ hxk.1)) ?_
        refine Any.take 11 rfl (by kernel_rfl) rfl (QOp.pure (Pure.eql rfl rfl)) ?_
        refine Any.take 12 rfl (by kernel_rfl) rfl (QOp.pure (Pure.build rfl (bld89_2 _ _ (by first | rfl | assumption) (by first | rfl | assumption)))) ?_
        refine Any.one 13 (by kernel_rfl) ?_
        refine OneL.loud rfl rfl (Loud.litA sl84 rfl rfl rfl) ?_
        rintro v34 _ rfl
        refine ⟨.inl (by kernel_rfl), ?_⟩
        refine Any.one 14 (by kernel_rfl) ?_
        refine OneL.loud rfl rfl (Loud.append 3 rfl sl84 rfl rfl (RdL.own 0 rfl) (by simp [Value.oneCell']) (by omega) (by omega)) ?_
        rintro v35 _ rfl
        refine ⟨.inl (by kernel_rfl), ?_⟩
        refine Any.take 15 rfl (by kernel_rfl) rfl (QOp.pure (Pure.assign rfl)) ?_
        refine Any.done (by kernel_rfl) ?_
        refine Run.blk ?_
        refine Run.region ?_
        refine Ops.pure rfl (Pure.add rfl rfl (by omega) (by omega)) ?_
        refine Ops.pure rfl (Pure.move rfl) ?_
        refine Ops.nil ?_
        refine Run.asrt ?_
        first
          | (refine ⟨k + 1, v35, ⟨by omega, by omega⟩, ⟨rfl, rfl, rfl, rfl, rfl, trivial⟩, Ext.trans (Ext.eq ?_) (Ext.take 3 rfl (Ext.take 3 rfl (Ext.nil _)))⟩
             rw [take_snoc ((0, 0, 0, 0) : Wk) (by omega), pasL_yes c20, passes_append, List.length_append]
             rfl)
          | (refine ⟨k + 1, vo, ⟨by omega, by omega⟩, ⟨rfl, rfl, rfl, rfl, rfl, trivial⟩, Ext.trans (Ext.eq ?_) (Ext.take 2 rfl (Ext.take 2 rfl (Ext.nil _)))⟩
             rw [take_snoc ((0, 0, 0, 0) : Wk) (by omega), pasL_no c20])
      · skip
        replace c20 := dF c20
        refine Run.skip ?_
        refine Run.blk ?_
        refine Run.region ?_
        refine Ops.pure rfl (Pure.add rfl rfl (by omega) (by omega)) ?_
        refine Ops.pure rfl (Pure.move rfl) ?_
        refine Ops.nil ?_
        refine Run.asrt ?_
        first
          | (refine ⟨k + 1, v35, ⟨by omega, by omega⟩, ⟨rfl, rfl, rfl, rfl, rfl, trivial⟩, Ext.trans (Ext.eq ?_) (Ext.take 3 rfl (Ext.take 3 rfl (Ext.nil _)))⟩
             rw [take_snoc ((0, 0, 0, 0) : Wk) (by omega), pasL_yes c20, passes_append, List.length_append]
             rfl)
          | (refine ⟨k + 1, vo, ⟨by omega, by omega⟩, ⟨rfl, rfl, rfl, rfl, rfl, trivial⟩, Ext.trans (Ext.eq ?_) (Ext.take 2 rfl (Ext.take 2 rfl (Ext.nil _)))⟩
             rw [take_snoc ((0, 0, 0, 0) : Wk) (by omega), pasL_no c20])
    · skip
      replace c13 := dF c13
      refine Run.exit rfl ?_
      refine Run.seq ?_
      refine Run.region ?_
      refine Ops.pure rfl (Pure.move rfl) ?_
      refine Ops.pure rfl (Pure.assign rfl) ?_
      refine Ops.nil ?_
      refine Run.ext_ (Ext.take 0 rfl (Ext.nil _)) ?_
      refine Run.ret1 rfl rfl ?_
      have e : k = ws.length := by omega
      subst e
      rw [List.take_length]

theorem Ext.rot (x y : Ent) (I : List Ent) : Ext (y :: I) (I ++ [x, y]) := ⟨[x], by
  rw [show I ++ [x, y] = (I ++ [x]) ++ [y] by simp]
  exact List.perm_append_comm (l₁ := [y]) (l₂ := I ++ [x])⟩
def ccE (a b : Int) (l : List Int) (cs : List Int) : Int := if okP a b l = true then (if ∀ k, k < cs.length → 0 ≤ cs.getD k 0 ∧ cs.getD k 0 ≤ (cnt a b l : Int) - 1 then 0 else 2) else 1
theorem cc_bad {a b : Int} {l cs : List Int} (h : okP a b l = false) : ccE a b l cs = 1 := by unfold ccE; rw [if_neg (by rw [h]; decide)]
theorem cc_out {a b : Int} {l cs : List Int} {k : Nat} (h : okP a b l = true) (hk : k < cs.length) (hc : ¬ (0 ≤ cs.getD k 0 ∧ cs.getD k 0 ≤ (cnt a b l : Int) - 1)) : ccE a b l cs = 2 := by unfold ccE; rw [if_pos h, if_neg (fun hh => hc (hh k hk))]
theorem cc_ok {a b : Int} {l cs : List Int} (h : okP a b l = true) (hc : ∀ k, k < cs.length → 0 ≤ cs.getD k 0 ∧ cs.getD k 0 ≤ (cnt a b l : Int) - 1) : ccE a b l cs = 0 := by unfold ccE; rw [if_pos h, if_pos hc]
theorem cc_one (a b : Int) (l : List Int) (c : Int) : ccE a b l [c] = psE a b l c := by
  unfold ccE psE
  by_cases h : okP a b l = true
  · rw [if_pos h, if_pos h]
    by_cases hc : 0 ≤ c ∧ c ≤ (cnt a b l : Int) - 1
    · rw [if_pos hc, if_pos (fun k hk => by have : k = 0 := by simpa using hk
                                            subst this; exact hc)]
    · rw [if_neg hc, if_neg (fun hh => hc (hh 0 (by simp)))]
  · rw [if_neg h, if_neg h]

set_option maxRecDepth 4000 in
/-- impl.curveCode -/
theorem f_i_curveCode (w : World) (a : Int) (b : Int) (v : Value) (l : List Int) (u : Value) (cs : List Int) (hv : Rd w v 1 l.length (ints l)) (hl : l.length ≤ 1073741824) (a0 : -9223372036854775808 ≤ a) (a1 : a ≤ 9223372036854775807) (b0 : -9223372036854775808 ≤ b) (b1 : b ≤ 9223372036854775807) (hu : Rd w u 1 cs.length (ints cs)) (hcl : cs.length ≤ 1048576) : RetV Try.prog 124 [.agg #[.int .i64 a, .int .i64 b, v], u] w (.int .i64 (ccE a b l cs)) := by
  refine Ret.enter Try.func124 rfl Try.ntmps124 rfl ?_
  refine Run.seq ?_
  refine Run.region ?_
  refine Ops.go rfl (Loud.box rfl rfl) ?_
  rintro _ _ ⟨b2, rfl, rfl⟩
  refine Ops.pure rfl (Pure.assign rfl) ?_
  refine Ops.nil ?_
  refine Run.seq ?_
  refine Run.seq ?_
  refine Run.region ?_
  refine Ops.pure rfl (Pure.ldBA 0 rfl cell28 rfl rfl rfl) ?_
  refine Ops.q rfl (QOp.call fn100 rfl (fun w hw => f_i_ValidPanel w _ _ _ _ (by exact RdL.old (by assumption) w hw) (by assumption) (by assumption) (by assumption) (by assumption) (by assumption))) ?_
  refine Ops.pure rfl (Pure.not rfl) ?_
  refine Ops.nil ?_
  refine Run.cond rfl (fun c9 => ?_) (fun c9 => ?_)
  · skip
    replace c9 := bT c9
    refine Run.seq ?_
    refine Run.region ?_
    refine Ops.pure rfl (Pure.assign rfl) ?_
    refine Ops.nil ?_
    refine Run.ret1 rfl rfl ?_
    rw [cc_bad c9]
  · skip
    replace c9 := bF c9
    refine Run.skip ?_
    refine Run.seq ?_
    refine Run.seq ?_
    refine Run.region ?_
    refine Ops.pure rfl (Pure.move rfl) ?_
    refine Ops.pure rfl (Pure.len sl22 (RdL.old hu) rfl) ?_
    refine Ops.pure rfl (Pure.move rfl) ?_
    refine Ops.nil ?_
    refine Run.block ?_
    refine Run.loop (X := Nat) (fun k => [(2, .pointer (some ⟨b2, 0, none⟩)), (10, u), (11, .int .i64 cs.length), (12, .int .i64 k)]) (fun k => [.box b2 28 [.int .i64 a, .int .i64 b, v]]) (fun k => k ≤ cs.length ∧ ∀ j, j < k → 0 ≤ cs.getD j 0 ∧ cs.getD j 0 ≤ (cnt a b l : Int) - 1) (fun k => cs.length - k) 0 ?_ ?_ ?_ ?_
    · exact ⟨Nat.zero_le _, by omega⟩
    · exact ⟨rfl, rfl, rfl, rfl, trivial⟩
    · exact Ext.refl _
    · intro k hinv0
      have hcp := cnt_pos (l := l) (okP_size c9).1 (okP_size c9).2.2.1
      have hsl := segN_le (okP_size c9)
      refine Run.seq ?_
      refine Run.region ?_
      refine Ops.pure rfl (Pure.lss rfl rfl) ?_
      refine Ops.nil ?_
      refine Run.seq ?_
      refine Run.cond rfl (fun c13 => ?_) (fun c13 => ?_)
      · skip
        replace c13 := dT c13
        refine Run.skip ?_
        refine Run.seq ?_
        refine Run.block ?_
        refine Run.seq ?_
        refine Run.region ?_
        refine Ops.pure rfl (Pure.idx1N sl22 (RdL.old hu) rfl rfl (by first | assumption | omega | (simp; omega))) ?_
        refine Ops.pure rfl (Pure.ld cell2 rfl (RdL.old hu) (by first | exact ints_get (by omega) | exact bools_get (by omega) | exact strs_get (by omega) | exact vals_get (by first | omega | (simp; omega)))) ?_
        refine Ops.pure rfl (Pure.assign rfl) ?_
        refine Ops.nil ?_
        refine Run.seq ?_
        refine Run.region ?_
        refine Ops.pure rfl (Pure.move rfl) ?_
        refine Ops.pure rfl (Pure.ldBA 0 rfl cell28 rfl rfl rfl) ?_
        refine Ops.q rfl (QOp.call fn75 rfl (fun w hw => f_i_countCurves w _ _ _ _ (by exact RdL.old (by assumption) w hw) (by assumption))) ?_
        refine Ops.pure rfl (Pure.sub rfl rfl (by omega) (by omega)) ?_
        refine Ops.q rfl (QOp.call fn128 rfl (fun w hw => f_i_inRange w _ _ _)) ?_
        refine Ops.pure rfl (Pure.not rfl) ?_
        refine Ops.nil ?_
        refine Run.cond rfl (fun c21 => ?_) (fun c21 => ?_)
        · skip
          replace c21 := nT c21
          refine Run.seq ?_
          refine Run.region ?_
          refine Ops.pure rfl (Pure.assign rfl) ?_
          refine Ops.nil ?_
          refine Run.ret1 rfl rfl ?_
          rw [cc_out c9 (by omega) c21]
        · skip
          replace c21 := nF c21
          refine Run.skip ?_
          refine Run.blk ?_
          refine Run.region ?_
          refine Ops.pure rfl (Pure.add rfl rfl (by omega) (by omega)) ?_
          refine Ops.pure rfl (Pure.move rfl) ?_
          refine Ops.nil ?_
          refine Run.asrt ?_
          exact ⟨k + 1, ⟨⟨by omega, fun j hj => step_lt (p := fun j => 0 ≤ cs.getD j 0 ∧ cs.getD j 0 ≤ (cnt a b l : Int) - 1) hj hinv0.2 c21⟩, by omega⟩, ⟨rfl, rfl, rfl, rfl, trivial⟩, Ext.refl _⟩
      · skip
        replace c13 := dF c13
        refine Run.exit rfl ?_
        refine Run.seq ?_
        refine Run.region ?_
        refine Ops.pure rfl (Pure.assign rfl) ?_
        refine Ops.nil ?_
        refine Run.ret1 rfl rfl ?_
        rw [cc_ok c9 (fun j hj => hinv0.2 j (by omega))]

set_option maxRecDepth 4000 in
/-- impl.PassesOf -/
theorem f_i_PassesOf (w : World) (a : Int) (b : Int) (v : Value) (l : List Int) (c : Int) (hv : Rd w v 1 l.length (ints l)) (hl : l.length ≤ 1073741824) (a0 : -9223372036854775808 ≤ a) (a1 : a ≤ 9223372036854775807) (b0 : -9223372036854775808 ≤ b) (b1 : b ≤ 9223372036854775807) (c0 : -9223372036854775808 ≤ c) (c1 : c ≤ 9223372036854775807) : Ret Try.prog 66 [.agg #[.int .i64 a, .int .i64 b, v], .int .i64 c] w (retPs (psL a b l c) (psE a b l c)) := by
  refine Ret.enter Try.func66 rfl Try.ntmps66 rfl ?_
  refine Run.seq ?_
  refine Run.region ?_
  refine Ops.go rfl (Loud.box rfl rfl) ?_
  rintro _ _ ⟨b2, rfl, rfl⟩
  refine Ops.pure rfl (Pure.assign rfl) ?_
  refine Ops.pure rfl (Pure.assign rfl) ?_
  refine Ops.nil ?_
  refine Run.seq ?_
  refine Run.seq ?_
  refine Run.region ?_
  refine Ops.pure rfl (Pure.ldBA 0 rfl cell28 rfl rfl rfl) ?_
  refine Ops.pure rfl (Pure.move rfl) ?_
  refine Ops.go rfl (Loud.lit sl22 rfl rfl rfl (by simp [Value.oneCell'])) ?_
  rintro v11 _ rfl
  refine Ops.q rfl (QOp.call fn124 rfl (fun w hw => (f_i_curveCode w a b v l v11 [c] (RdL.old hv w hw) hl a0 a1 b0 b1 (RdL.own 0 rfl w hw) (by simp)).cong (by rw [cc_one]))) ?_
  refine Ops.pure rfl (Pure.assign rfl) ?_
  refine Ops.nil ?_
  refine Run.seq ?_
  refine Run.region ?_
  refine Ops.pure rfl (Pure.move rfl) ?_
  refine Ops.pure rfl (Pure.neq rfl rfl) ?_
  refine Ops.nil ?_
  refine Run.cond rfl (fun c14 => ?_) (fun c14 => ?_)
  · skip
    replace c14 := nT c14
    refine Run.seq ?_
    refine Run.region ?_
    refine Ops.pure rfl (Pure.move rfl) ?_
    refine Ops.pure rfl (Pure.assign rfl) ?_
    refine Ops.pure rfl (Pure.assign rfl) ?_
    refine Ops.nil ?_
    refine Run.addNil 89 2 ?_
    refine Run.ext_ (Ext.take 0 rfl (Ext.nil _)) ?_
    refine Run.ret2 rfl rfl rfl ?_
    have h0 : psL a b l c = [] := by unfold psL; rw [if_neg c14]
    exact retPs_nil h0
  · skip
    replace c14 := nF c14
    obtain ⟨hk, hc0, hc1⟩ := ps_zero c14
    have hs := okP_size hk
    refine Run.skip ?_
    refine Run.seq ?_
    refine Run.region ?_
    refine Ops.pure rfl (Pure.ldBA 1 rfl cell28 rfl rfl rfl) ?_
    refine Ops.go rfl (Loud.callR fn125 rfl (fun w hw => f_i_Panel_trace w _ _ _ _ (by exact RdL.old (by assumption) w hw) (by assumption))) ?_
    rintro v18 _ ⟨L18, hQ18, rfl⟩
    obtain ⟨x18, y18, us18, hus18, rfl, rfl⟩ := hQ18
    refine Ops.pure rfl (Pure.move rfl) ?_
    refine Ops.pure rfl (Pure.extract rfl rfl) ?_
    refine Ops.pure rfl (Pure.extract rfl rfl) ?_
    refine Ops.pure rfl (Pure.assign rfl) ?_
    refine Ops.pure rfl (Pure.assign rfl) ?_
    refine Ops.nil ?_
    refine Run.seq ?_
    refine Run.ext_ (Ext.take 0 rfl (Ext.take 0 rfl (Ext.rot _ _ _))) ?_
    have hcl : c.toNat < cnt a b l := by omega
    have hcl2 : c.toNat < (curL a b l).length := hcl
    have hsl := segN_le hs
    have hcz := cur_len (l := l) hs hcl2
    refine Any.start follows ?_
    refine Any.take 0 rfl (by kernel_rfl) rfl (QOp.pure (Pure.ldBA 2 rfl cell28 rfl rfl rfl)) ?_
    refine Any.take 1 rfl (by kernel_rfl) rfl (QOp.pure (Pure.move rfl)) ?_
    refine Any.take 2 rfl (by kernel_rfl) rfl (QOp.pure (Pure.move rfl)) ?_
    refine Any.take 3 rfl (by kernel_rfl) rfl (QOp.pure (Pure.idx1 sl142 (RdL.own 1 rfl) rfl rfl (by first | assumption | omega | (simp; omega)) (by first | assumption | omega | (simp; omega)))) ?_
    refine Any.take 4 rfl (by kernel_rfl) rfl (QOp.pure (Pure.ld cell146 rfl (RdL.own 1 rfl) (by first | exact ints_get (by omega) | exact bools_get (by omega) | exact strs_get (by omega) | exact vals_get (by first | omega | (simp; omega))))) ?_
    refine Any.one 5 (by kernel_rfl) ?_
    refine OneL.loud rfl rfl (Loud.callR fn126 rfl (fun w hw => f_i_Panel_passes w a b v l (us18.getD c.toNat undef) ((curL a b l).getD c.toNat []) (RdL.old hv w hw) hk (RdL.mem (List.mem_cons_of_mem _ (List.mem_cons_of_mem _ (List.mem_cons_of_mem _ (innerG_mem hus18 hcl2)))) w hw) (by omega) (cur_VW hs hcl2))) ?_
    rintro v26 _ ⟨L26, hQ26, rfl⟩
    subst hQ26
    refine ⟨.inl (by kernel_rfl), ?_⟩
    refine Any.take 6 rfl (by kernel_rfl) rfl (QOp.pure (Pure.assign rfl)) ?_
    refine Any.take 7 rfl (by kernel_rfl) rfl (QOp.pure (Pure.assign rfl)) ?_
    refine Any.done (by kernel_rfl) ?_
    refine Run.ext_ (Ext.take 0 rfl (Ext.nil _)) ?_
    refine Run.ret2 rfl rfl rfl ?_
    rw [c14, (ps_ok hk ⟨hc0, hc1⟩).2]
    exact ⟨_, rfl, rfl⟩

end Go.Proofs.Ytkplanpcmkbfiaa
