/- Contracts of functions, printed by program from annotations. -/
import Derived.Test.YtmfinopdokkjcaaChg2
import Derived.Test.YtmfinopdokkjcaaStpM
import Derived.Test.YtmfinopdokkjcaaPanX
import Derived.Test.YtmfinopdokkjcaaDrw2
namespace Go.Proofs.Ytmfinopdokkjcaa
open Go Go.AW Go.RowKit
set_option linter.unusedVariables false
set_option linter.unusedSimpArgs false

set_option maxRecDepth 4000 in
/-- laws.f6big -/
theorem f_l_f6big (w : World) (v : Value) (n : Nat) (xs : List Value) (hv : Rd w v 1 n xs) : RetV Try.prog 31 [v] w (.bool (decide (4096 < n))) := by
  refine Ret.enter Try.func31 rfl Try.ntmps31 rfl ?_
  refine Run.seq ?_
  refine Run.region ?_
  refine Ops.pure rfl (Pure.assign rfl) ?_
  refine Ops.nil ?_
  refine Run.seq ?_
  refine Run.region ?_
  refine Ops.pure rfl (Pure.move rfl) ?_
  refine Ops.pure rfl (Pure.len sl22 (RdL.old hv) rfl) ?_
  refine Ops.pure rfl (Pure.gtr rfl rfl) ?_
  refine Ops.pure rfl (Pure.assign rfl) ?_
  refine Ops.nil ?_
  refine Run.ret1 rfl rfl ?_
  first
    | rfl
    | (simp only [Value.bool.injEq, decide_eq_decide]; omega)

set_option maxRecDepth 4000 in
/-- impl.CountCurves -/
theorem f_i_CountCurves (w : World) (a : Int) (b : Int) (v : Value) (l : List Int) (hv : Rd w v 1 l.length (ints l)) (hl : l.length ≤ 1073741824) (hk : okP a b l = true) : RetV Try.prog 45 [.agg #[.int .i64 a, .int .i64 b, v]] w (.tuple #[.int .i64 (cnt a b l : Int), .int .i64 0]) := by
  have hs := okP_size hk
  obtain ⟨hs1, hs2, hs3, hs4⟩ := id hs
  refine Ret.enter Try.func45 rfl Try.ntmps45 rfl ?_
  refine Run.seq ?_
  refine Run.region ?_
  refine Ops.go rfl (Loud.box rfl rfl) ?_
  rintro _ _ ⟨b1, rfl, rfl⟩
  refine Ops.pure rfl (Pure.assign rfl) ?_
  refine Ops.pure rfl (Pure.assign rfl) ?_
  refine Ops.nil ?_
  refine Run.seq ?_
  refine Run.seq ?_
  refine Run.region ?_
  refine Ops.pure rfl (Pure.ldBA 0 rfl cell35 rfl rfl rfl) ?_
  refine Ops.q rfl (QOp.call fn96 rfl (fun w hw => f_i_ValidPanel w _ _ _ _ (by exact RdL.old (by assumption) w hw) (by assumption) (by omega) (by omega) (by omega) (by omega))) ?_
  refine Ops.pure rfl (Pure.not rfl) ?_
  refine Ops.nil ?_
  refine Run.condEF rfl ((by rw [hk]; rfl)) ?_
  refine Run.skip ?_
  refine Run.seq ?_
  refine Run.region ?_
  refine Ops.pure rfl (Pure.ldBA 0 rfl cell35 rfl rfl rfl) ?_
  refine Ops.q rfl (QOp.call fn121 rfl (fun w hw => f_i_countCurves w _ _ _ _ (by exact RdL.old (by assumption) w hw) (by assumption))) ?_
  refine Ops.pure rfl (Pure.assign rfl) ?_
  refine Ops.pure rfl (Pure.assign rfl) ?_
  refine Ops.nil ?_
  refine Run.ret2 rfl rfl rfl ?_
  rfl

set_option maxRecDepth 4000 in
/-- impl.innerCode -/
theorem f_i_innerCode (w : World) (a : Int) (b : Int) (v : Value) (l : List Int) (x : Int) (y : Int) (hv : Rd w v 1 l.length (ints l)) (hl : l.length ≤ 1073741824) (a0 : -9223372036854775808 ≤ a) (a1 : a ≤ 9223372036854775807) (b0 : -9223372036854775808 ≤ b) (b1 : b ≤ 9223372036854775807) (x0 : -1000 ≤ x) (x1 : x ≤ 1000) (y0 : -1000 ≤ y) (y1 : y ≤ 1000) (hk : okP a b l = true) (hp : PtOk a b x y) (he : ¬ Edge a b x y) : RetV Try.prog 138 [.agg #[.int .i64 a, .int .i64 b, v], .agg #[.int .i64 x, .int .i64 y]] w (.int .i64 0) := by
  have hs := okP_size hk
  refine Ret.enter Try.func138 rfl Try.ntmps138 rfl ?_
  refine Run.seq ?_
  refine Run.region ?_
  refine Ops.go rfl (Loud.box rfl rfl) ?_
  rintro _ _ ⟨b2, rfl, rfl⟩
  refine Ops.go rfl (Loud.box rfl rfl) ?_
  rintro _ _ ⟨b3, rfl, rfl⟩
  refine Ops.pure rfl (Pure.assign rfl) ?_
  refine Ops.nil ?_
  refine Run.seq ?_
  refine Run.block ?_
  refine Run.seq ?_
  refine Run.region ?_
  refine Ops.pure rfl (Pure.ldBA 1 rfl cell35 rfl rfl rfl) ?_
  refine Ops.q rfl (QOp.call fn96 rfl (fun w hw => f_i_ValidPanel w _ _ _ _ (by exact RdL.old (by assumption) w hw) (by assumption) (by assumption) (by assumption) (by assumption) (by assumption))) ?_
  refine Ops.pure rfl (Pure.not rfl) ?_
  refine Ops.pure rfl (Pure.assign rfl) ?_
  refine Ops.nil ?_
  refine Run.cond rfl (fun c5 => ?_) (fun c5 => ?_)
  · skip
    replace c5 := bT c5
    refine Run.seq ?_
    refine Run.region ?_
    refine Ops.pure rfl (Pure.assign rfl) ?_
    refine Ops.nil ?_
    refine Run.ret1 rfl rfl ?_
    first
      | rfl
      | (exfalso; simp_all; done)
      | (exfalso; omega)
  · skip
    replace c5 := bF c5
    refine Run.seq ?_
    refine Run.region ?_
    refine Ops.pure rfl (Pure.ldBA 1 rfl cell35 rfl rfl rfl) ?_
    refine Ops.pure rfl (Pure.ldBA 0 rfl cell72 rfl rfl rfl) ?_
    refine Ops.q rfl (QOp.call fn197 rfl (fun w hw => f_i_Panel_isPoint w _ _ _ _ _ (by assumption))) ?_
    refine Ops.pure rfl (Pure.not rfl) ?_
    refine Ops.pure rfl (Pure.assign rfl) ?_
    refine Ops.nil ?_
    refine Run.cond rfl (fun c9 => ?_) (fun c9 => ?_)
    · skip
      replace c9 := nT c9
      refine Run.seq ?_
      refine Run.region ?_
      refine Ops.pure rfl (Pure.assign rfl) ?_
      refine Ops.nil ?_
      refine Run.ret1 rfl rfl ?_
      first
        | rfl
        | (exfalso; simp_all; done)
        | (exfalso; omega)
    · skip
      replace c9 := nF c9
      refine Run.seq ?_
      refine Run.region ?_
      refine Ops.pure rfl (Pure.ldBA 1 rfl cell35 rfl rfl rfl) ?_
      refine Ops.pure rfl (Pure.ldBA 0 rfl cell72 rfl rfl rfl) ?_
      refine Ops.q rfl (QOp.call fn198 rfl (fun w hw => f_i_Panel_isBorder w _ _ _ _ _ (by assumption))) ?_
      refine Ops.pure rfl (Pure.assign rfl) ?_
      refine Ops.nil ?_
      refine Run.cond rfl (fun c14 => ?_) (fun c14 => ?_)
      · skip
        replace c14 := dT c14
        refine Run.seq ?_
        refine Run.region ?_
        refine Ops.pure rfl (Pure.assign rfl) ?_
        refine Ops.nil ?_
        refine Run.ret1 rfl rfl ?_
        first
          | rfl
          | (exfalso; simp_all; done)
          | (exfalso; omega)
      · skip
        replace c14 := dF c14
        refine Run.skip ?_
        refine Run.blk ?_
        refine Run.seq ?_
        refine Run.region ?_
        refine Ops.pure rfl (Pure.assign rfl) ?_
        refine Ops.nil ?_
        refine Run.ret1 rfl rfl ?_
        first
          | rfl
          | (exfalso; simp_all; done)
          | (exfalso; omega)

set_option maxRecDepth 4000 in
/-- impl.SetBreak -/
theorem f_i_SetBreak (w : World) (a : Int) (b : Int) (v : Value) (l : List Int) (x : Int) (y : Int) (k : Int) (hv : Rd w v 1 l.length (ints l)) (hl : l.length ≤ 1073741824) (hk : okP a b l = true) (hp : PtOk a b x y) (he : ¬ Edge a b x y) (k0 : 0 ≤ k) (k1 : k ≤ 2) : Ret Try.prog 78 [.agg #[.int .i64 a, .int .i64 b, v], .agg #[.int .i64 x, .int .i64 y], .int .i64 k] w (fun u L => ∃ z, z.oneCell' = true ∧ u = .tuple #[.agg #[.int .i64 a, .int .i64 b, z], .int .i64 0] ∧ L = [.row 2 1 z l.length (ints (l.set (num a x y).toNat k))]) := by
  have hs := okP_size hk
  obtain ⟨hs1, hs2, hs3, hs4⟩ := id hs
  have hm := ptOk_mid hs hp
  have hnb := num_bd hs hp he
  have hli := okP_inn hk
  have hlz : (ints l).length = l.length := by rw [ints, List.length_map]
  refine Ret.enter Try.func78 rfl Try.ntmps78 rfl ?_
  refine Run.seq ?_
  refine Run.region ?_
  refine Ops.go rfl (Loud.box rfl rfl) ?_
  rintro _ _ ⟨b3, rfl, rfl⟩
  refine Ops.go rfl (Loud.box rfl rfl) ?_
  rintro _ _ ⟨b4, rfl, rfl⟩
  refine Ops.go rfl (Loud.alloc zero35 rfl) ?_
  rintro _ _ ⟨b6, rfl, rfl⟩
  refine Ops.pure rfl (Pure.assign rfl) ?_
  refine Ops.nil ?_
  refine Run.seq ?_
  refine Run.region ?_
  refine Ops.pure rfl (Pure.ldBA 2 rfl cell35 rfl rfl rfl) ?_
  refine Ops.pure rfl (Pure.ldBA 1 rfl cell72 rfl rfl rfl) ?_
  refine Ops.q rfl (QOp.call fn138 rfl (fun w hw => f_i_innerCode w _ _ _ _ _ _ (by exact RdL.old (by assumption) w hw) (by assumption) (by omega) (by omega) (by omega) (by omega) (by omega) (by omega) (by omega) (by omega) (by assumption) (by assumption) (by assumption))) ?_
  refine Ops.pure rfl (Pure.assign rfl) ?_
  refine Ops.nil ?_
  refine Run.seq ?_
  refine Run.seq ?_
  refine Run.region ?_
  refine Ops.pure rfl (Pure.move rfl) ?_
  refine Ops.pure rfl (Pure.eql rfl rfl) ?_
  refine Ops.pure rfl (Pure.move rfl) ?_
  refine Ops.guard rfl rfl rfl rfl (fun c15 => ?_) (fun c15 => ?_)
  · skip
    have c15' := dF c15
    refine Ops.pure rfl (Pure.move rfl) ?_
    refine Ops.guardY rfl rfl rfl c15 ?_
    refine Ops.pure rfl (Pure.eql rfl rfl) ?_
    refine Ops.pure rfl (Pure.pickF rfl c15 rfl) ?_
    refine Ops.nil ?_
    refine Run.cond rfl (fun c18 => ?_) (fun c18 => ?_)
    · skip
      replace c18 := dT c18
      refine Run.seq ?_
      refine Run.region ?_
      refine Ops.pure rfl (Pure.move rfl) ?_
      refine Ops.q rfl (QOp.call fn139 rfl (fun w hw => f_i_validBreak w _)) ?_
      refine Ops.pure rfl (Pure.not rfl) ?_
      refine Ops.nil ?_
      refine Run.condEF rfl ((by simp [k0, k1])) ?_
      refine Run.skip ?_
      refine Run.seq ?_
      refine Run.seq ?_
      refine Run.region ?_
      refine Ops.pure rfl (Pure.move rfl) ?_
      refine Ops.pure rfl (Pure.neq rfl rfl) ?_
      refine Ops.nil ?_
      refine Run.cond rfl (fun c23 => ?_) (fun c23 => ?_)
      · skip
        replace c23 := nT c23
        refine Run.seq ?_
        refine Run.region ?_
        refine Ops.pure rfl (Pure.build rfl bld35) ?_
        refine Ops.pure rfl (Pure.move rfl) ?_
        refine Ops.store (Stores.box 0 rfl rfl rfl size35 (allOne rfl) rfl rfl) ?_
        refine Ops.pure rfl (Pure.assign rfl) ?_
        refine Ops.nil ?_
        refine Run.retC1x 0 rfl rfl rfl rfl cell35 rfl (Ext.take 1 rfl (Ext.nil _)) ?_
        first
          | exact ⟨_, h27, rfl, by rw [ints, ints, List.map_set]; try rfl⟩
          | (exfalso; simp_all; done)
          | (exfalso; omega)
      · skip
        replace c23 := nF c23
        refine Run.skip ?_
        refine Run.seq ?_
        refine Run.region ?_
        refine Ops.pure rfl (Pure.ldBA 2 rfl cell35 rfl rfl rfl) ?_
        refine Ops.go rfl (Loud.callR fn152 rfl (fun w hw => f_i_clonePanel w _ _ _ _ (by omega) (by assumption))) ?_
        rintro v27 _ ⟨L27, hQ27, rfl⟩
        obtain ⟨x27, h27, rfl, rfl⟩ := hQ27
        refine Ops.go rfl (Loud.alloc zero35 rfl) ?_
        rintro _ _ ⟨b9, rfl, rfl⟩
        refine Ops.store (Stores.box 0 rfl rfl rfl size35 (one3 h27) rfl rfl) ?_
        refine Ops.nil ?_
        refine Run.seq ?_
        refine Any.start follows ?_
        refine Any.take 0 rfl (by kernel_rfl) rfl (QOp.pure (Pure.fieldAddrB fld35_2 rfl)) ?_
        refine Any.take 1 rfl (by kernel_rfl) rfl (QOp.pure (Pure.ldB 0 rfl cell32 rfl rfl)) ?_
        refine Any.take 2 rfl (by kernel_rfl) rfl (QOp.pure (Pure.ldBA 4 rfl cell35 rfl rfl rfl)) ?_
        refine Any.take 3 rfl (by kernel_rfl) rfl (QOp.pure (Pure.ldBA 3 rfl cell72 rfl rfl rfl)) ?_
        refine Any.take 4 rfl (by kernel_rfl) rfl (QOp.call fn141 rfl (fun w hw => f_i_Panel_number w a b v x y hs hp he)) ?_
        refine Any.take 5 rfl (by kernel_rfl) rfl (QOp.pure (Pure.move rfl)) ?_
        refine Any.take 6 rfl (by kernel_rfl) rfl (QOp.pure (Pure.idx1 sl32 (RdL.own 1 rfl) rfl rfl (by first | assumption | omega | (simp; omega)) (by first | assumption | omega | (simp; omega)))) ?_
        refine Any.one 7 (by kernel_rfl) ?_
        refine OneL.store rfl (Stores.row1 1 rfl size2 rfl rfl rfl (by first | assumption | omega | (simp; omega))) (by kernel_rfl) ?_
        refine Any.done (by kernel_rfl) ?_
        refine Run.seq ?_
        refine Run.region ?_
        refine Ops.pure rfl (Pure.ldBA 0 rfl cell35 rfl rfl rfl) ?_
        refine Ops.store (Stores.box 2 rfl rfl rfl size35 (one3 h27) rfl rfl) ?_
        refine Ops.pure rfl (Pure.assign rfl) ?_
        refine Ops.nil ?_
        refine Run.retC1x 2 rfl rfl rfl rfl cell35 rfl (Ext.take 1 rfl (Ext.nil _)) ?_
        first
          | exact ⟨_, h27, rfl, by rw [ints, ints, List.map_set]; try rfl⟩
          | (exfalso; simp_all; done)
          | (exfalso; omega)
    · skip
      replace c18 := dF c18
      refine Run.skip ?_
      refine Run.seq ?_
      refine Run.seq ?_
      refine Run.region ?_
      refine Ops.pure rfl (Pure.move rfl) ?_
      refine Ops.pure rfl (Pure.neq rfl rfl) ?_
      refine Ops.nil ?_
      refine Run.cond rfl (fun c23 => ?_) (fun c23 => ?_)
      · skip
        replace c23 := nT c23
        refine Run.seq ?_
        refine Run.region ?_
        refine Ops.pure rfl (Pure.build rfl bld35) ?_
        refine Ops.pure rfl (Pure.move rfl) ?_
        refine Ops.store (Stores.box 0 rfl rfl rfl size35 (allOne rfl) rfl rfl) ?_
        refine Ops.pure rfl (Pure.assign rfl) ?_
        refine Ops.nil ?_
        refine Run.retC1x 0 rfl rfl rfl rfl cell35 rfl (Ext.take 1 rfl (Ext.nil _)) ?_
        first
          | exact ⟨_, h27, rfl, by rw [ints, ints, List.map_set]; try rfl⟩
          | (exfalso; simp_all; done)
          | (exfalso; omega)
      · skip
        replace c23 := nF c23
        refine Run.skip ?_
        refine Run.seq ?_
        refine Run.region ?_
        refine Ops.pure rfl (Pure.ldBA 2 rfl cell35 rfl rfl rfl) ?_
        refine Ops.go rfl (Loud.callR fn152 rfl (fun w hw => f_i_clonePanel w _ _ _ _ (by omega) (by assumption))) ?_
        rintro v27 _ ⟨L27, hQ27, rfl⟩
        obtain ⟨x27, h27, rfl, rfl⟩ := hQ27
        refine Ops.go rfl (Loud.alloc zero35 rfl) ?_
        rintro _ _ ⟨b9, rfl, rfl⟩
        refine Ops.store (Stores.box 0 rfl rfl rfl size35 (one3 h27) rfl rfl) ?_
        refine Ops.nil ?_
        refine Run.seq ?_
        refine Any.start follows ?_
        refine Any.take 0 rfl (by kernel_rfl) rfl (QOp.pure (Pure.fieldAddrB fld35_2 rfl)) ?_
        refine Any.take 1 rfl (by kernel_rfl) rfl (QOp.pure (Pure.ldB 0 rfl cell32 rfl rfl)) ?_
        refine Any.take 2 rfl (by kernel_rfl) rfl (QOp.pure (Pure.ldBA 4 rfl cell35 rfl rfl rfl)) ?_
        refine Any.take 3 rfl (by kernel_rfl) rfl (QOp.pure (Pure.ldBA 3 rfl cell72 rfl rfl rfl)) ?_
        refine Any.take 4 rfl (by kernel_rfl) rfl (QOp.call fn141 rfl (fun w hw => f_i_Panel_number w a b v x y hs hp he)) ?_
        refine Any.take 5 rfl (by kernel_rfl) rfl (QOp.pure (Pure.move rfl)) ?_
        refine Any.take 6 rfl (by kernel_rfl) rfl (QOp.pure (Pure.idx1 sl32 (RdL.own 1 rfl) rfl rfl (by first | assumption | omega | (simp; omega)) (by first | assumption | omega | (simp; omega)))) ?_
        refine Any.one 7 (by kernel_rfl) ?_
        refine OneL.store rfl (Stores.row1 1 rfl size2 rfl rfl rfl (by first | assumption | omega | (simp; omega))) (by kernel_rfl) ?_
        refine Any.done (by kernel_rfl) ?_
        refine Run.seq ?_
        refine Run.region ?_
        refine Ops.pure rfl (Pure.ldBA 0 rfl cell35 rfl rfl rfl) ?_
        refine Ops.store (Stores.box 2 rfl rfl rfl size35 (one3 h27) rfl rfl) ?_
        refine Ops.pure rfl (Pure.assign rfl) ?_
        refine Ops.nil ?_
        refine Run.retC1x 2 rfl rfl rfl rfl cell35 rfl (Ext.take 1 rfl (Ext.nil _)) ?_
        first
          | exact ⟨_, h27, rfl, by rw [ints, ints, List.map_set]; try rfl⟩
          | (exfalso; simp_all; done)
          | (exfalso; omega)
  · skip
    replace c15 := Bool.eq_true_of_ne c15
    have c15' := dT c15
    refine Ops.guardN rfl rfl rfl rfl (by rw [c15]; decide) ?_
    refine Ops.pure rfl (Pure.pickT rfl c15 rfl) ?_
    refine Ops.nil ?_
    refine Run.condE rfl rfl ?_
    refine Run.seq ?_
    refine Run.region ?_
    refine Ops.pure rfl (Pure.move rfl) ?_
    refine Ops.q rfl (QOp.call fn139 rfl (fun w hw => f_i_validBreak w _)) ?_
    refine Ops.pure rfl (Pure.not rfl) ?_
    refine Ops.nil ?_
    refine Run.condEF rfl ((by simp [k0, k1])) ?_
    refine Run.skip ?_
    refine Run.seq ?_
    refine Run.seq ?_
    refine Run.region ?_
    refine Ops.pure rfl (Pure.move rfl) ?_
    refine Ops.pure rfl (Pure.neq rfl rfl) ?_
    refine Ops.nil ?_
    refine Run.cond rfl (fun c23 => ?_) (fun c23 => ?_)
    · skip
      replace c23 := nT c23
      refine Run.seq ?_
      refine Run.region ?_
      refine Ops.pure rfl (Pure.build rfl bld35) ?_
      refine Ops.pure rfl (Pure.move rfl) ?_
      refine Ops.store (Stores.box 0 rfl rfl rfl size35 (allOne rfl) rfl rfl) ?_
      refine Ops.pure rfl (Pure.assign rfl) ?_
      refine Ops.nil ?_
      refine Run.retC1x 0 rfl rfl rfl rfl cell35 rfl (Ext.take 1 rfl (Ext.nil _)) ?_
      first
        | exact ⟨_, h27, rfl, by rw [ints, ints, List.map_set]; try rfl⟩
        | (exfalso; simp_all; done)
        | (exfalso; omega)
    · skip
      replace c23 := nF c23
      refine Run.skip ?_
      refine Run.seq ?_
      refine Run.region ?_
      refine Ops.pure rfl (Pure.ldBA 2 rfl cell35 rfl rfl rfl) ?_
      refine Ops.go rfl (Loud.callR fn152 rfl (fun w hw => f_i_clonePanel w _ _ _ _ (by exact RdL.old (by assumption) w hw) (by assumption))) ?_
      rintro v27 _ ⟨L27, hQ27, rfl⟩
      obtain ⟨x27, h27, rfl, rfl⟩ := hQ27
      refine Ops.go rfl (Loud.alloc zero35 rfl) ?_
      rintro _ _ ⟨b9, rfl, rfl⟩
      refine Ops.store (Stores.box 0 rfl rfl rfl size35 (one3 h27) rfl rfl) ?_
      refine Ops.nil ?_
      refine Run.seq ?_
      refine Any.start follows ?_
      refine Any.take 0 rfl (by kernel_rfl) rfl (QOp.pure (Pure.fieldAddrB fld35_2 rfl)) ?_
      refine Any.take 1 rfl (by kernel_rfl) rfl (QOp.pure (Pure.ldB 0 rfl cell32 rfl rfl)) ?_
      refine Any.take 2 rfl (by kernel_rfl) rfl (QOp.pure (Pure.ldBA 4 rfl cell35 rfl rfl rfl)) ?_
      refine Any.take 3 rfl (by kernel_rfl) rfl (QOp.pure (Pure.ldBA 3 rfl cell72 rfl rfl rfl)) ?_
      refine Any.take 4 rfl (by kernel_rfl) rfl (QOp.call fn141 rfl (fun w hw => f_i_Panel_number w a b v x y hs hp he)) ?_
      refine Any.take 5 rfl (by kernel_rfl) rfl (QOp.pure (Pure.move rfl)) ?_
      refine Any.take 6 rfl (by kernel_rfl) rfl (QOp.pure (Pure.idx1 sl32 (RdL.own 1 rfl) rfl rfl (by first | assumption | omega | (simp; omega)) (by first | assumption | omega | (simp; omega)))) ?_
      refine Any.one 7 (by kernel_rfl) ?_
      refine OneL.store rfl (Stores.row1 1 rfl size2 rfl rfl rfl (by first | assumption | omega | (simp; omega))) (by kernel_rfl) ?_
      refine Any.done (by kernel_rfl) ?_
      refine Run.seq ?_
      refine Run.region ?_
      refine Ops.pure rfl (Pure.ldBA 0 rfl cell35 rfl rfl rfl) ?_
      refine Ops.store (Stores.box 2 rfl rfl rfl size35 (one3 h27) rfl rfl) ?_
      refine Ops.pure rfl (Pure.assign rfl) ?_
      refine Ops.nil ?_
      refine Run.retC1x 2 rfl rfl rfl rfl cell35 rfl (Ext.take 1 rfl (Ext.nil _)) ?_
      first
        | exact ⟨_, h27, rfl, by rw [ints, ints, List.map_set]; try rfl⟩
        | (exfalso; simp_all; done)
        | (exfalso; omega)

set_option maxRecDepth 4000 in
/-- impl.DistanceOf -/
theorem f_i_DistanceOf (w : World) (a : Int) (b : Int) (v : Value) (l : List Int) (v' : Value) (l' : List Int) (hv : Rd w v 1 l.length (ints l)) (hv' : Rd w v' 1 l'.length (ints l')) (hk : okP a b l = true) (hk' : okP a b l' = true) : RetV Try.prog 64 [.agg #[.int .i64 a, .int .i64 b, v], .agg #[.int .i64 a, .int .i64 b, v']] w (.tuple #[.int .i64 (difN l l' l.length : Int), .int .i64 0]) := by
  have hs := okP_size hk
  obtain ⟨hs1, hs2, hs3, hs4⟩ := id hs
  have hl := okP_ln hk
  have hl' := okP_ln hk'
  have hli := okP_inn hk
  have hli' := okP_inn hk'
  refine Ret.enter Try.func64 rfl Try.ntmps64 rfl ?_
  refine Run.seq ?_
  refine Run.region ?_
  refine Ops.go rfl (Loud.box rfl rfl) ?_
  rintro _ _ ⟨b2, rfl, rfl⟩
  refine Ops.go rfl (Loud.box rfl rfl) ?_
  rintro _ _ ⟨b3, rfl, rfl⟩
  refine Ops.pure rfl (Pure.assign rfl) ?_
  refine Ops.pure rfl (Pure.assign rfl) ?_
  refine Ops.nil ?_
  refine Run.seq ?_
  refine Run.seq ?_
  refine Run.region ?_
  refine Ops.pure rfl (Pure.ldBA 1 rfl cell35 rfl rfl rfl) ?_
  refine Ops.q rfl (QOp.call fn96 rfl (fun w hw => f_i_ValidPanel w _ _ _ _ (by exact RdL.old (by assumption) w hw) (by omega) (by omega) (by omega) (by omega) (by omega))) ?_
  refine Ops.pure rfl (Pure.not rfl) ?_
  refine Ops.pure rfl (Pure.move rfl) ?_
  refine Ops.guard rfl rfl rfl rfl (fun c12 => ?_) (fun c12 => ?_)
  · skip
    have c12' := bF c12
    refine Ops.pure rfl (Pure.ldBA 0 rfl cell35 rfl rfl rfl) ?_
    refine Ops.guardY rfl rfl rfl c12 ?_
    refine Ops.q rfl (QOp.call fn96 rfl (fun w hw => f_i_ValidPanel w _ _ _ _ (by exact RdL.old (by assumption) w hw) (by omega) (by omega) (by omega) (by omega) (by omega))) ?_
    refine Ops.guardY rfl rfl rfl c12 ?_
    refine Ops.pure rfl (Pure.not rfl) ?_
    refine Ops.pure rfl (Pure.pickF rfl c12 rfl) ?_
    refine Ops.nil ?_
    refine Run.cond rfl (fun c16 => ?_) (fun c16 => ?_)
    · skip
      replace c16 := bT c16
      refine Run.seq ?_
      refine Run.region ?_
      refine Ops.pure rfl (Pure.assign rfl) ?_
      refine Ops.pure rfl (Pure.assign rfl) ?_
      refine Ops.nil ?_
      refine Run.ret2 rfl rfl rfl ?_
      exfalso
      simp_all
    · skip
      replace c16 := bF c16
      refine Run.skip ?_
      refine Run.seq ?_
      refine Run.seq ?_
      refine Run.region ?_
      refine Ops.pure rfl (Pure.fieldAddrB fld35_0 rfl) ?_
      refine Ops.pure rfl (Pure.ldB 1 rfl cell2 rfl rfl) ?_
      refine Ops.pure rfl (Pure.fieldAddrB fld35_0 rfl) ?_
      refine Ops.pure rfl (Pure.ldB 0 rfl cell2 rfl rfl) ?_
      refine Ops.pure rfl (Pure.neq rfl rfl) ?_
      refine Ops.pure rfl (Pure.move rfl) ?_
      refine Ops.guard rfl rfl rfl rfl (fun c22 => ?_) (fun c22 => ?_)
      · skip
        have c22' := nF c22
        refine Ops.pure rfl (Pure.fieldAddrB fld35_1 rfl) ?_
        refine Ops.guardY rfl rfl rfl c22 ?_
        refine Ops.pure rfl (Pure.ldB 1 rfl cell2 rfl rfl) ?_
        refine Ops.guardY rfl rfl rfl c22 ?_
        refine Ops.pure rfl (Pure.fieldAddrB fld35_1 rfl) ?_
        refine Ops.guardY rfl rfl rfl c22 ?_
        refine Ops.pure rfl (Pure.ldB 0 rfl cell2 rfl rfl) ?_
        refine Ops.guardY rfl rfl rfl c22 ?_
        refine Ops.pure rfl (Pure.neq rfl rfl) ?_
        refine Ops.pure rfl (Pure.pickF rfl c22 rfl) ?_
        refine Ops.nil ?_
        refine Run.cond rfl (fun c28 => ?_) (fun c28 => ?_)
        · skip
          replace c28 := nT c28
          refine Run.seq ?_
          refine Run.region ?_
          refine Ops.pure rfl (Pure.assign rfl) ?_
          refine Ops.pure rfl (Pure.assign rfl) ?_
          refine Ops.nil ?_
          refine Run.ret2 rfl rfl rfl ?_
          exfalso
          simp_all
        · skip
          replace c28 := nF c28
          refine Run.skip ?_
          refine Run.seq ?_
          refine Run.region ?_
          refine Ops.pure rfl (Pure.assign rfl) ?_
          refine Ops.nil ?_
          refine Run.seq ?_
          refine Run.seq ?_
          refine Run.region ?_
          refine Ops.pure rfl (Pure.fieldAddrB fld35_2 rfl) ?_
          refine Ops.pure rfl (Pure.ldB 1 rfl cell32 rfl rfl) ?_
          refine Ops.pure rfl (Pure.len sl32 (RdL.old hv) rfl) ?_
          refine Ops.pure rfl (Pure.move rfl) ?_
          refine Ops.nil ?_
          refine Run.block ?_
          refine Run.loop (X := Nat) (fun k => [(3, .pointer (some ⟨b3, 0, none⟩)), (6, .int .i64 (difN l l' k : Int)), (30, v), (31, .int .i64 l.length), (32, .int .i64 k)]) (fun k => [.box b3 35 [.int .i64 a, .int .i64 b, v']]) (fun k => k ≤ l.length) (fun k => l.length - k) 0 ?_ ?_ ?_ ?_
          · exact Nat.zero_le _
          · exact ⟨rfl, rfl, rfl, rfl, rfl, trivial⟩
          · exact Ext.take 0 rfl (Ext.nil _)
          · intro k hinv0
            have hdl := difN_le l l' k
            refine Run.seq ?_
            refine Run.region ?_
            refine Ops.pure rfl (Pure.lss rfl rfl) ?_
            refine Ops.nil ?_
            refine Run.seq ?_
            refine Run.cond rfl (fun c33 => ?_) (fun c33 => ?_)
            · skip
              replace c33 := dT c33
              refine Run.skip ?_
              refine Run.seq ?_
              refine Run.block ?_
              refine Run.seq ?_
              refine Run.region ?_
              refine Ops.pure rfl (Pure.move rfl) ?_
              refine Ops.pure rfl (Pure.idx1N sl32 (RdL.old hv) rfl rfl (by first | assumption | omega | (simp; omega))) ?_
              refine Ops.pure rfl (Pure.ld cell2 rfl (RdL.old hv) (by first | exact ints_get (by omega) | exact bools_get (by omega) | exact strs_get (by omega) | exact vals_get (by first | omega | (simp; omega)))) ?_
              refine Ops.pure rfl (Pure.assign rfl) ?_
              refine Ops.pure rfl (Pure.assign rfl) ?_
              refine Ops.nil ?_
              refine Run.seq ?_
              refine Run.region ?_
              refine Ops.pure rfl (Pure.move rfl) ?_
              refine Ops.pure rfl (Pure.fieldAddrB fld35_2 rfl) ?_
              refine Ops.pure rfl (Pure.ldB 0 rfl cell32 rfl rfl) ?_
              refine Ops.pure rfl (Pure.move rfl) ?_
              refine Ops.pure rfl (Pure.idx1N sl32 (RdL.old hv') rfl rfl (by first | assumption | omega | (simp; omega))) ?_
              refine Ops.pure rfl (Pure.ld cell2 rfl (RdL.old hv') (by first | exact ints_get (by omega) | exact bools_get (by omega) | exact strs_get (by omega) | exact vals_get (by first | omega | (simp; omega)))) ?_
              refine Ops.pure rfl (Pure.neq rfl rfl) ?_
              refine Ops.nil ?_
              refine Run.cond rfl (fun c43 => ?_) (fun c43 => ?_)
              · skip
                replace c43 := nT c43
                refine Run.region ?_
                refine Ops.pure rfl (Pure.move rfl) ?_
                refine Ops.pure rfl (Pure.add rfl rfl (by omega) (by omega)) ?_
                refine Ops.pure rfl (Pure.assign rfl) ?_
                refine Ops.nil ?_
                refine Run.blk ?_
                refine Run.region ?_
                refine Ops.pure rfl (Pure.add rfl rfl (by omega) (by omega)) ?_
                refine Ops.pure rfl (Pure.move rfl) ?_
                refine Ops.nil ?_
                refine Run.asrt ?_
                first
                  | exact ⟨k + 1, ⟨by omega, by omega⟩, ⟨rfl, congrArg (fun x => some (Value.int .i64 x)) (by rw [difN_diff c43]; omega), rfl, rfl, rfl, trivial⟩, Ext.refl _⟩
                  | exact ⟨k + 1, ⟨by omega, by omega⟩, ⟨rfl, congrArg (fun x => some (Value.int .i64 x)) (by rw [difN_same (by omega)]), rfl, rfl, rfl, trivial⟩, Ext.refl _⟩
              · skip
                replace c43 := nF c43
                refine Run.skip ?_
                refine Run.blk ?_
                refine Run.region ?_
                refine Ops.pure rfl (Pure.add rfl rfl (by omega) (by omega)) ?_
                refine Ops.pure rfl (Pure.move rfl) ?_
                refine Ops.nil ?_
                refine Run.asrt ?_
                first
                  | exact ⟨k + 1, ⟨by omega, by omega⟩, ⟨rfl, congrArg (fun x => some (Value.int .i64 x)) (by rw [difN_diff c43]; omega), rfl, rfl, rfl, trivial⟩, Ext.refl _⟩
                  | exact ⟨k + 1, ⟨by omega, by omega⟩, ⟨rfl, congrArg (fun x => some (Value.int .i64 x)) (by rw [difN_same (by omega)]), rfl, rfl, rfl, trivial⟩, Ext.refl _⟩
            · skip
              replace c33 := dF c33
              refine Run.exit rfl ?_
              refine Run.seq ?_
              refine Run.region ?_
              refine Ops.pure rfl (Pure.move rfl) ?_
              refine Ops.pure rfl (Pure.assign rfl) ?_
              refine Ops.pure rfl (Pure.assign rfl) ?_
              refine Ops.nil ?_
              refine Run.ret2 rfl rfl rfl ?_
              have e : k = l.length := by omega
              subst e
              rfl
      · skip
        replace c22 := Bool.eq_true_of_ne c22
        have c22' := nT c22
        refine Ops.guardN rfl rfl rfl rfl (by rw [c22]; decide) ?_
        refine Ops.guardN rfl rfl rfl rfl (by rw [c22]; decide) ?_
        refine Ops.guardN rfl rfl rfl rfl (by rw [c22]; decide) ?_
        refine Ops.guardN rfl rfl rfl rfl (by rw [c22]; decide) ?_
        refine Ops.pure rfl (Pure.pickT rfl c22 rfl) ?_
        refine Ops.nil ?_
        refine Run.condE rfl rfl ?_
        refine Run.seq ?_
        refine Run.region ?_
        refine Ops.pure rfl (Pure.assign rfl) ?_
        refine Ops.pure rfl (Pure.assign rfl) ?_
        refine Ops.nil ?_
        refine Run.ret2 rfl rfl rfl ?_
        exfalso
        simp_all
  · skip
    replace c12 := Bool.eq_true_of_ne c12
    have c12' := bT c12
    refine Ops.guardN rfl rfl rfl rfl (by rw [c12]; decide) ?_
    refine Ops.guardN rfl rfl rfl rfl (by rw [c12]; decide) ?_
    refine Ops.pure rfl (Pure.pickT rfl c12 rfl) ?_
    refine Ops.nil ?_
    refine Run.condE rfl rfl ?_
    refine Run.seq ?_
    refine Run.region ?_
    refine Ops.pure rfl (Pure.assign rfl) ?_
    refine Ops.pure rfl (Pure.assign rfl) ?_
    refine Ops.nil ?_
    refine Run.ret2 rfl rfl rfl ?_
    exfalso
    simp_all

set_option maxRecDepth 4000 in
/-- spec.l10Small -/
theorem f_s_l10Small (w0 : World) (w : World) (b : Nat) (vc : Value) (co : List Int) (q : Nat) (sd : Int) (F : List Ent) (hw : Sat w0 w (srcE b vc q sd :: F)) (hc : Rd w0 vc 1 co.length (AW.bytes co)) (hb : ∀ x ∈ co, 0 ≤ x ∧ x ≤ 255) (hcl : co.length ≤ 1000000000) (hq : q ≤ 999980000) : RetO Try.prog 147 [.pointer (some ⟨b, 0, none⟩)] w0 w (fun u L => ∃ (a c : Int) (l : List Int) (x : Value) (q' : Nat) (sd' : Int), 0 ≤ a ∧ a ≤ 9 ∧ 0 ≤ c ∧ c ≤ 9 ∧ l.length ≤ 112 ∧ x.oneCell' = true ∧ q' ≤ q + 2000 ∧ u = .agg #[.int .i64 a, .int .i64 c, x] ∧ L = .row 2 1 x l.length (ints l) :: srcE b vc q' sd' :: F) := by
  refine RetO.enter Try.func147 rfl Try.ntmps147 rfl hw ?_
  refine Run.seq ?_
  refine Run.region ?_
  refine Ops.go rfl (Loud.alloc zero35 rfl) ?_
  rintro _ _ ⟨b2, rfl, rfl⟩
  refine Ops.nil ?_
  refine Run.seq ?_
  refine Run.seq ?_
  refine Run.region ?_
  refine Ops.pure rfl (Pure.move rfl) ?_
  refine Ops.go rfl (Loud.callO fn116 rfl (fun w hw => f_s_l00Src_one _ w b vc co _ _ _ 12 (Sat.front 1 rfl hw) hc hb hcl (by omega) (by omega))) ?_
  rintro v5 L5 hQ5
  obtain ⟨x5, q5, sd5, hq5, rfl, rfl⟩ := hQ5
  refine Ops.nil ?_
  refine Run.cond rfl (fun c5 => ?_) (fun c5 => ?_)
  · skip
    skip
    refine Run.seq ?_
    refine Run.region ?_
    refine Ops.pure rfl (Pure.move rfl) ?_
    refine Ops.go rfl (Loud.callO fn95 rfl (fun w hw => f_s_l02Draw _ w b vc co _ _ _ 3 (Sat.front 0 rfl hw) hc hb hcl (by omega) (by omega) (by omega))) ?_
    rintro v7 L7 hQ7
    obtain ⟨a7, c7, l7, x7, q7, sd7, ha7, hA7, hc7, hC7, hk7, h7, hq7, rfl, rfl⟩ := hQ7
    refine Ops.go rfl (Loud.alloc zero35 rfl) ?_
    rintro _ _ ⟨b3, rfl, rfl⟩
    refine Ops.store (Stores.box 0 rfl rfl rfl size35 (one3 h7) rfl rfl) ?_
    refine Ops.nil ?_
    refine Run.seq ?_
    refine Run.region ?_
    refine Ops.pure rfl (Pure.move rfl) ?_
    refine Ops.go rfl (Loud.lit sl32 rfl rfl rfl (by simp [Value.oneCell'])) ?_
    rintro v9 _ rfl
    refine Ops.go rfl (Loud.callO fn117 rfl (fun w hw => f_s_l00Src_among _ w b vc co _ _ _ _ [0, 9, 3] (Sat.front 3 rfl hw) hc hb hcl (by omega) (RdL.own 1 rfl) (fun _ _ => RdL.own 1 rfl) (by decide) (by decide))) ?_
    rintro v10 L10 hQ10
    obtain ⟨x10, q10, sd10, hx10, hq10, rfl, rfl⟩ := hQ10
    have hx10b : 0 ≤ x10 ∧ x10 ≤ 9 := by
      simp only [List.mem_cons, List.not_mem_nil, or_false] at hx10
      omega
    refine Ops.pure rfl (Pure.fieldAddrB fld35_0 rfl) ?_
    refine Ops.store (Stores.box 2 rfl rfl rfl size2 (allOne rfl) rfl rfl) ?_
    refine Ops.nil ?_
    refine Run.seq ?_
    refine Run.region ?_
    refine Ops.pure rfl (Pure.ldBA 2 rfl cell35 rfl rfl rfl) ?_
    first
      | refine Ops.store (Stores.box 4 rfl rfl rfl size35 (one3 h7) rfl rfl) ?_
      | refine Ops.store (Stores.box 3 rfl rfl rfl size35 (one3 h7) rfl rfl) ?_
      | refine Ops.store (Stores.box 5 rfl rfl rfl size35 (one3 h7) rfl rfl) ?_
    refine Ops.nil ?_
    refine Run.retCx 4 rfl rfl rfl cell35 rfl (Ext.take 3 rfl (Ext.take 0 rfl (Ext.right [_, _, _] _))) ?_
    exact ⟨x10, c7, l7, x7, q10, sd10, hx10b.1, hx10b.2, by omega, by omega, okP_ln hk7, h7, by omega, rfl, rfl⟩
  · skip
    skip
    refine Run.skip ?_
    refine Run.seq ?_
    refine Run.region ?_
    refine Ops.pure rfl (Pure.move rfl) ?_
    refine Ops.go rfl (Loud.callO fn95 rfl (fun w hw => f_s_l02Draw _ w b vc co _ _ _ 3 (Sat.front 0 rfl hw) hc hb hcl (by omega) (by omega) (by omega))) ?_
    rintro v14 L14 hQ14
    obtain ⟨a14, c14, l14, x14, q14, sd14, ha14, hA14, hc14, hC14, hk14, h14, hq14, rfl, rfl⟩ := hQ14
    refine Ops.store (Stores.box 2 rfl rfl rfl size35 (one3 h14) rfl rfl) ?_
    refine Ops.nil ?_
    refine Run.retCx 2 rfl rfl rfl cell35 rfl (Ext.take 0 rfl (Ext.take 0 rfl (Ext.right [_] _))) ?_
    exact ⟨a14, c14, l14, x14, q14, sd14, by omega, by omega, by omega, by omega, okP_ln hk14, h14, by omega, rfl, rfl⟩

end Go.Proofs.Ytmfinopdokkjcaa
