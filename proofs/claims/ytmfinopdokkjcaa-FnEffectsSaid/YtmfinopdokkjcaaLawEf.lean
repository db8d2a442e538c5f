/- Contracts of functions, printed by program from annotations. -/
import Derived.Test.YtmfinopdokkjcaaEff
namespace Go.Proofs.Ytmfinopdokkjcaa
open Go Go.AW Go.RowKit
set_option linter.unusedVariables false
set_option linter.unusedSimpArgs false

set_option maxRecDepth 4000 in
/-- spec.DrawEffectOf -/
theorem f_s_DrawEffectOf (w : World) (vc : Value) (co : List Int) (hc : Rd w vc 1 co.length (AW.bytes co)) (hb : ∀ x ∈ co, 0 ≤ x ∧ x ≤ 255) (hcl : co.length ≤ 1000000000) : Ret Try.prog 66 [vc] w (fun u L => ∃ (a c : Int) (l : List Int) (v : Value) (x y k : Int), -9223372036854775808 ≤ a ∧ a ≤ 9 ∧ 1 ≤ c ∧ c ≤ 9 ∧ l.length ≤ 120 ∧ v.oneCell' = true ∧ -9223372036854775808 ≤ x ∧ x ≤ 9223372036854775807 ∧ -1 ≤ y ∧ y ≤ 16 ∧ -1 ≤ k ∧ k ≤ 3 ∧ u = .tuple #[.agg #[.int .i64 a, .int .i64 c, v], .agg #[.int .i64 x, .int .i64 y], .int .i64 k] ∧ L = [.row 2 1 v l.length (ints l)]) := by
  have hv1 := hc.one
  refine Ret.enter Try.func66 rfl Try.ntmps66 rfl ?_
  refine Run.seq ?_
  refine Run.region ?_
  refine Ops.go rfl (Loud.alloc zero35 rfl) ?_
  rintro _ _ ⟨b2, rfl, rfl⟩
  refine Ops.go rfl (Loud.alloc zero72 rfl) ?_
  rintro _ _ ⟨b3, rfl, rfl⟩
  refine Ops.pure rfl (Pure.assign rfl) ?_
  refine Ops.nil ?_
  refine Run.seq ?_
  refine Run.region ?_
  refine Ops.pure rfl (Pure.move rfl) ?_
  refine Ops.go rfl (Loud.callR fn87 rfl (fun w hw => f_s_l00From w vc co hv1)) ?_
  rintro v9 _ ⟨L9, hQ9, rfl⟩
  obtain ⟨s9, rfl, rfl⟩ := hQ9
  refine Ops.pure rfl (Pure.assign rfl) ?_
  refine Ops.nil ?_
  refine Run.seq ?_
  refine Run.region ?_
  refine Ops.pure rfl (Pure.move rfl) ?_
  refine Ops.go rfl (Loud.callO fn120 rfl (fun w hw => f_s_l02Bent _ w _ vc co _ _ _ (Sat.front 0 rfl hw) hc hb hcl (by omega))) ?_
  rintro v11 L11 hQ11
  obtain ⟨a11, c11, l11, x11, q11, sd11, ha11, hA11, hc11, hC11, hn11, h11, hq11, rfl, rfl⟩ := hQ11
  refine Ops.go rfl (Loud.alloc zero35 rfl) ?_
  rintro _ _ ⟨b6, rfl, rfl⟩
  refine Ops.store (Stores.box 0 rfl rfl rfl size35 (one3 h11) rfl rfl) ?_
  refine Ops.nil ?_
  refine Run.seq ?_
  refine Run.region ?_
  refine Ops.pure rfl (Pure.move rfl) ?_
  refine Ops.go rfl (Loud.callO fn137 rfl (fun w hw => f_s_l02DrawPoint _ w _ vc co _ _ _ _ a11 c11 x11 l11 (Sat.front 2 rfl hw) hc hb hcl (RdL.boxM 0 rfl rfl) (RdL.own 1 rfl) (by omega) (by omega) (by omega) (by omega) (by omega) (by omega))) ?_
  rintro v13 L13 hQ13
  obtain ⟨x13, y13, q13, sd13, hx13, hX13, hy13, hY13, hq13, rfl, rfl⟩ := hQ13
  refine Ops.go rfl (Loud.alloc zero72 rfl) ?_
  rintro _ _ ⟨b7, rfl, rfl⟩
  refine Ops.store (Stores.box 0 rfl rfl rfl size72 (allOne rfl) rfl rfl) ?_
  refine Ops.nil ?_
  refine Run.seq ?_
  refine AnyK.start ([.box b6 35 [.int .i64 a11, .int .i64 c11, x11], .box b7 72 [.int .i64 x13, .int .i64 y13]]) follows (Ext.take 2 rfl (Ext.take 0 rfl (Ext.nil _))) ?_
  refine AnyK.take 0 rfl (by kernel_rfl) rfl (QOp.pure (Pure.ldBA 0 rfl cell35 rfl rfl rfl)) ?_
  refine AnyK.take 1 rfl (by kernel_rfl) rfl (QOp.pure (Pure.ldBA 1 rfl cell72 rfl rfl rfl)) ?_
  refine AnyK.take 2 rfl (by kernel_rfl) rfl (QOp.pure (Pure.move rfl)) ?_
  refine AnyK.take 4 rfl (by kernel_rfl) rfl (QOp.pure (Pure.move rfl)) ?_
  refine AnyK.one 3 (by kernel_rfl) ?_
  refine OneK.loud rfl rfl (Loud.callO fn118 rfl (fun w hw => f_s_l00Src_pick _ w _ vc co _ _ _ 4 (Sat.front 1 rfl hw) hc hb hcl (by omega) (by omega))) ?_
  rintro v17 L17 hQ17
  obtain ⟨x17, q17, sd17, hx17, hy17, hq17, rfl, rfl⟩ := hQ17
  refine ⟨(by first | exact Ext.take 2 rfl (Ext.take 1 rfl (Ext.nil _)) | exact Ext.take 2 rfl (Ext.take 0 rfl (Ext.nil _))), ?_⟩
  refine AnyK.one 5 (by kernel_rfl) ?_
  refine OneK.loud rfl rfl (Loud.callO fn118 rfl (fun w hw => f_s_l00Src_pick _ w _ vc co _ _ _ 12 (Sat.front 0 rfl hw) hc hb hcl (by omega) (by omega))) ?_
  rintro v19 L19 hQ19
  obtain ⟨x19, q19, sd19, hx19, hy19, hq19, rfl, rfl⟩ := hQ19
  refine ⟨(by first | exact Ext.take 2 rfl (Ext.take 1 rfl (Ext.nil _)) | exact Ext.take 2 rfl (Ext.take 0 rfl (Ext.nil _))), ?_⟩
  refine AnyK.take 6 rfl (by kernel_rfl) rfl (QOp.pure (Pure.quo rfl rfl (by omega) (by omega) (by omega))) ?_
  refine AnyK.take 7 rfl (by kernel_rfl) rfl (QOp.pure (Pure.sub rfl rfl (by omega) (by omega))) ?_
  refine AnyK.one 8 (by kernel_rfl) ?_
  refine OneK.store rfl (Stores.box 5 rfl rfl rfl size35 (one3 h11) rfl rfl) (by first | exact Ext.take 2 rfl (Ext.take 1 rfl (Ext.nil _)) | exact Ext.take 2 rfl (Ext.take 0 rfl (Ext.nil _))) ?_
  refine AnyK.one 9 (by kernel_rfl) ?_
  refine OneK.store rfl (Stores.box 4 rfl rfl rfl size72 (allOne rfl) rfl rfl) (by first | exact Ext.take 2 rfl (Ext.take 1 rfl (Ext.nil _)) | exact Ext.take 2 rfl (Ext.take 0 rfl (Ext.nil _))) ?_
  refine AnyK.take 10 rfl (by kernel_rfl) rfl (QOp.pure (Pure.assign rfl)) ?_
  refine AnyK.done (by kernel_rfl) ?_
  refine Run.retCCt 5 4 rfl rfl rfl rfl rfl cell35 rfl rfl cell72 rfl (Ext.take 3 rfl (Ext.nil _)) ?_
  exact ⟨a11, c11, l11, x11, x13, y13, _, by omega, by omega, by omega, by omega, by omega, h11, hx13, hX13, hy13, hY13, by omega, by omega, rfl, rfl⟩

set_option maxRecDepth 4000 in
/-- spec.DrawEffectsAt -/
theorem f_s_DrawEffectsAt (w : World) (vc : Value) (co : List Int) (hc : Rd w vc 1 co.length (AW.bytes co)) (hb : ∀ x ∈ co, 0 ≤ x ∧ x ≤ 255) (hcl : co.length ≤ 1000000000) : Ret Try.prog 69 [vc] w (fun u L => ∃ (a c : Int) (l : List Int) (v : Value) (x y : Int), -9223372036854775808 ≤ a ∧ a ≤ 9 ∧ 1 ≤ c ∧ c ≤ 9 ∧ l.length ≤ 120 ∧ v.oneCell' = true ∧ -9223372036854775808 ≤ x ∧ x ≤ 9223372036854775807 ∧ -1 ≤ y ∧ y ≤ 16 ∧ u = .tuple #[.agg #[.int .i64 a, .int .i64 c, v], .agg #[.int .i64 x, .int .i64 y]] ∧ L = [.row 2 1 v l.length (ints l)]) := by
  have hv1 := hc.one
  refine Ret.enter Try.func69 rfl Try.ntmps69 rfl ?_
  refine Run.seq ?_
  refine Run.region ?_
  refine Ops.go rfl (Loud.alloc zero35 rfl) ?_
  rintro _ _ ⟨b2, rfl, rfl⟩
  refine Ops.go rfl (Loud.alloc zero72 rfl) ?_
  rintro _ _ ⟨b3, rfl, rfl⟩
  refine Ops.nil ?_
  refine Run.seq ?_
  refine Run.region ?_
  refine Ops.pure rfl (Pure.move rfl) ?_
  refine Ops.go rfl (Loud.callR fn87 rfl (fun w hw => f_s_l00From w vc co hv1)) ?_
  rintro v7 _ ⟨L7, hQ7, rfl⟩
  obtain ⟨s7, rfl, rfl⟩ := hQ7
  refine Ops.pure rfl (Pure.assign rfl) ?_
  refine Ops.nil ?_
  refine Run.seq ?_
  refine Run.region ?_
  refine Ops.pure rfl (Pure.move rfl) ?_
  refine Ops.go rfl (Loud.callO fn120 rfl (fun w hw => f_s_l02Bent _ w _ vc co _ _ _ (Sat.front 0 rfl hw) hc hb hcl (by omega))) ?_
  rintro v9 L9 hQ9
  obtain ⟨a9, c9, l9, x9, q9, sd9, ha9, hA9, hc9, hC9, hn9, h9, hq9, rfl, rfl⟩ := hQ9
  refine Ops.go rfl (Loud.alloc zero35 rfl) ?_
  rintro _ _ ⟨b5, rfl, rfl⟩
  refine Ops.store (Stores.box 0 rfl rfl rfl size35 (one3 h9) rfl rfl) ?_
  refine Ops.nil ?_
  refine Run.seq ?_
  refine AnyK.start ([.box b5 35 [.int .i64 a9, .int .i64 c9, x9]]) follows (Ext.take 0 rfl (Ext.nil _)) ?_
  refine AnyK.take 0 rfl (by kernel_rfl) rfl (QOp.pure (Pure.ldBA 0 rfl cell35 rfl rfl rfl)) ?_
  refine AnyK.take 1 rfl (by kernel_rfl) rfl (QOp.pure (Pure.move rfl)) ?_
  refine AnyK.one 2 (by kernel_rfl) ?_
  refine OneK.loud rfl rfl (Loud.callO fn137 rfl (fun w hw => f_s_l02DrawPoint _ w _ vc co _ _ _ _ a9 c9 x9 l9 (Sat.front 2 rfl hw) hc hb hcl (RdL.boxM 0 rfl rfl) (RdL.own 1 rfl) (by omega) (by omega) (by omega) (by omega) (by omega) (by omega))) ?_
  rintro v12 L12 hQ12
  obtain ⟨x12, y12, q12, sd12, hx12, hX12, hy12, hY12, hq12, rfl, rfl⟩ := hQ12
  refine ⟨(by first | exact Ext.take 1 rfl (Ext.nil _) | exact Ext.take 0 rfl (Ext.nil _)), ?_⟩
  refine AnyK.one 3 (by kernel_rfl) ?_
  refine OneK.store rfl (Stores.box 4 rfl rfl rfl size35 (one3 h9) rfl rfl) (by first | exact Ext.take 1 rfl (Ext.nil _) | exact Ext.take 0 rfl (Ext.nil _)) ?_
  refine AnyK.one 4 (by kernel_rfl) ?_
  refine OneK.store rfl (Stores.box 3 rfl rfl rfl size72 (allOne rfl) rfl rfl) (by first | exact Ext.take 1 rfl (Ext.nil _) | exact Ext.take 0 rfl (Ext.nil _)) ?_
  refine AnyK.done (by kernel_rfl) ?_
  refine Run.retCC 4 3 rfl rfl rfl rfl cell35 rfl rfl cell72 rfl (Ext.take 2 rfl (Ext.nil _)) ?_
  exact ⟨a9, c9, l9, x9, x12, y12, by omega, by omega, by omega, by omega, by omega, h9, hx12, hX12, hy12, hY12, rfl, rfl⟩

theorem eaL_size (a b : Int) (l : List Int) (x y : Int) : (eaL a b l x y).length ≤ 3 := by
  unfold eaL
  split
  · rw [length_effTo]; exact Nat.le_refl _
  · exact Nat.zero_le _

set_option maxRecDepth 4000 in
set_option maxHeartbeats 1000000 in
/-- laws.FnEffects -/
theorem f_l_FnEffects (w : World) (vc : Value) (co : List Int) (hc : Rd w vc 1 co.length (AW.bytes co)) (hcl : co.length ≤ 9223372036854775807) (hb : ∀ x ∈ co, 0 ≤ x ∧ x ≤ 255) : RetV Try.prog 9 [vc] w (.bool true) := by
  refine Ret.enter Try.func9 rfl Try.ntmps9 rfl ?_
  refine Run.seq ?_
  refine Run.region ?_
  refine Ops.pure rfl (Pure.assign rfl) ?_
  refine Ops.nil ?_
  refine Run.seq ?_
  refine Run.seq ?_
  refine Run.region ?_
  refine Ops.pure rfl (Pure.move rfl) ?_
  refine Ops.q rfl (QOp.call fn31 rfl (fun w hw => f_l_f6big w vc _ _ (RdL.old hc w hw))) ?_
  refine Ops.nil ?_
  refine Run.cond rfl (fun c36 => ?_) (fun c36 => ?_)
  · skip
    replace c36 := dT c36
    refine Run.seq ?_
    refine Run.region ?_
    refine Ops.pure rfl (Pure.assign rfl) ?_
    refine Ops.nil ?_
    refine Run.ret1 rfl rfl ?_
    rfl
  · skip
    replace c36 := dF c36
    have hcl2 : co.length ≤ 1000000000 := by omega
    refine Run.skip ?_
    refine Run.seq ?_
    refine Run.region ?_
    refine Ops.pure rfl (Pure.move rfl) ?_
    refine Ops.go rfl (Loud.callR fn66 rfl (fun w hw => f_s_DrawEffectOf w vc co (RdL.old hc w hw) hb hcl2)) ?_
    rintro v39 _ ⟨L39, hQ39, rfl⟩
    obtain ⟨a39, c39, l39, v39, x39, y39, k39, ha39, hA39, hc39, hC39, hn39, h39, hx39, hX39, hy39, hY39, hk39, hK39, rfl, rfl⟩ := hQ39
    refine Ops.pure rfl (Pure.move rfl) ?_
    refine Ops.pure rfl (Pure.extract rfl rfl) ?_
    refine Ops.pure rfl (Pure.extract rfl rfl) ?_
    refine Ops.pure rfl (Pure.extract rfl rfl) ?_
    refine Ops.go rfl (Loud.alloc zero35 rfl) ?_
    rintro _ _ ⟨b3, rfl, rfl⟩
    refine Ops.go rfl (Loud.alloc zero72 rfl) ?_
    rintro _ _ ⟨b4, rfl, rfl⟩
    refine Ops.store (Stores.box 1 rfl rfl rfl size35 (one3 h39) rfl rfl) ?_
    refine Ops.store (Stores.box 0 rfl rfl rfl size72 (allOne rfl) rfl rfl) ?_
    refine Ops.pure rfl (Pure.assign rfl) ?_
    refine Ops.nil ?_
    refine Run.seq ?_
    refine Run.region ?_
    refine Ops.pure rfl (Pure.ldBA 1 rfl cell35 rfl rfl rfl) ?_
    refine Ops.pure rfl (Pure.ldBA 0 rfl cell72 rfl rfl rfl) ?_
    refine Ops.pure rfl (Pure.move rfl) ?_
    refine Ops.q rfl (QOp.call fn67 rfl (fun w hw => f_i_EffectOf w _ _ _ _ _ _ _ (by exact RdL.own 2 rfl w hw) (by omega) (by assumption) (by omega) (by omega) (by omega))) ?_
    refine Ops.pure rfl (Pure.move rfl) ?_
    refine Ops.pure rfl (Pure.extract rfl rfl) ?_
    refine Ops.pure rfl (Pure.extract rfl rfl) ?_
    refine Ops.pure rfl (Pure.assign rfl) ?_
    refine Ops.pure rfl (Pure.assign rfl) ?_
    refine Ops.nil ?_
    refine Run.seq ?_
    refine Run.region ?_
    refine Ops.pure rfl (Pure.ldBA 1 rfl cell35 rfl rfl rfl) ?_
    refine Ops.pure rfl (Pure.ldBA 0 rfl cell72 rfl rfl rfl) ?_
    refine Ops.pure rfl (Pure.move rfl) ?_
    refine Ops.q rfl (QOp.call fn68 rfl (fun w hw => f_s_EffectOf w _ _ _ _ _ _ _ (by exact RdL.own 2 rfl w hw) (by omega) (by assumption) (by omega) (by omega) (by omega))) ?_
    refine Ops.pure rfl (Pure.move rfl) ?_
    refine Ops.pure rfl (Pure.extract rfl rfl) ?_
    refine Ops.pure rfl (Pure.extract rfl rfl) ?_
    refine Ops.pure rfl (Pure.assign rfl) ?_
    refine Ops.pure rfl (Pure.assign rfl) ?_
    refine Ops.nil ?_
    refine Run.seq ?_
    refine Run.region ?_
    refine Ops.pure rfl (Pure.move rfl) ?_
    refine Ops.go rfl (Loud.callR fn69 rfl (fun w hw => f_s_DrawEffectsAt w vc co (RdL.old hc w hw) hb hcl2)) ?_
    rintro v59 _ ⟨L59, hQ59, rfl⟩
    obtain ⟨a59, c59, l59, v59, x59, y59, ha59, hA59, hc59, hC59, hn59, h59, hx59, hX59, hy59, hY59, rfl, rfl⟩ := hQ59
    refine Ops.pure rfl (Pure.move rfl) ?_
    refine Ops.pure rfl (Pure.extract rfl rfl) ?_
    refine Ops.pure rfl (Pure.extract rfl rfl) ?_
    refine Ops.go rfl (Loud.alloc zero35 rfl) ?_
    rintro _ _ ⟨b10, rfl, rfl⟩
    refine Ops.go rfl (Loud.alloc zero72 rfl) ?_
    rintro _ _ ⟨b11, rfl, rfl⟩
    refine Ops.store (Stores.box 1 rfl rfl rfl size35 (one3 h59) rfl rfl) ?_
    refine Ops.store (Stores.box 0 rfl rfl rfl size72 (allOne rfl) rfl rfl) ?_
    refine Ops.nil ?_
    refine Run.seq ?_
    have hz1 := eaL_size a59 c59 l59 x59 y59
    refine Run.region ?_
    refine Ops.pure rfl (Pure.ldBA 1 rfl cell35 rfl rfl rfl) ?_
    refine Ops.pure rfl (Pure.ldBA 0 rfl cell72 rfl rfl rfl) ?_
    refine Ops.go rfl (Loud.callR fn70 rfl (fun w hw => f_i_EffectsAt w _ _ _ _ _ _ (by exact RdL.own 2 rfl w hw) (by omega) (by assumption) (by omega) (by omega) (by omega))) ?_
    rintro v65 _ ⟨L65, hQ65, rfl⟩
    obtain ⟨x65, rfl, rfl⟩ := hQ65
    refine Ops.pure rfl (Pure.move rfl) ?_
    refine Ops.pure rfl (Pure.extract rfl rfl) ?_
    refine Ops.pure rfl (Pure.extract rfl rfl) ?_
    refine Ops.pure rfl (Pure.assign rfl) ?_
    refine Ops.pure rfl (Pure.assign rfl) ?_
    refine Ops.nil ?_
    refine Run.seq ?_
    refine Run.region ?_
    refine Ops.pure rfl (Pure.ldBA 2 rfl cell35 rfl rfl rfl) ?_
    refine Ops.pure rfl (Pure.ldBA 1 rfl cell72 rfl rfl rfl) ?_
    refine Ops.go rfl (Loud.callR fn71 rfl (fun w hw => f_s_EffectsAt w _ _ _ _ _ _ (by exact RdL.own 3 rfl w hw) (by omega) (by assumption) (by omega) (by omega) (by omega))) ?_
    rintro v71 _ ⟨L71, hQ71, rfl⟩
    obtain ⟨x71, rfl, rfl⟩ := hQ71
    refine Ops.pure rfl (Pure.move rfl) ?_
    refine Ops.pure rfl (Pure.extract rfl rfl) ?_
    refine Ops.pure rfl (Pure.extract rfl rfl) ?_
    refine Ops.pure rfl (Pure.assign rfl) ?_
    refine Ops.pure rfl (Pure.assign rfl) ?_
    refine Ops.nil ?_
    refine Run.seq ?_
    refine Run.region ?_
    refine Ops.pure rfl (Pure.move rfl) ?_
    refine Ops.go rfl (Loud.callR fn72 rfl (fun w hw => f_s_DrawJoiningPoints w vc co (RdL.old hc w hw) hb hcl2)) ?_
    rintro v75 _ ⟨L75, hQ75, rfl⟩
    obtain ⟨a75, c75, l75, x75, ha75, hA75, hc75, hC75, hn75, h75, rfl, rfl⟩ := hQ75
    refine Ops.go rfl (Loud.alloc zero35 rfl) ?_
    rintro _ _ ⟨b16, rfl, rfl⟩
    refine Ops.store (Stores.box 0 rfl rfl rfl size35 (one3 h75) rfl rfl) ?_
    refine Ops.nil ?_
    refine Run.seq ?_
    have hz2 := wpL_size neg0 a75 c75 l75
    refine Run.region ?_
    refine Ops.pure rfl (Pure.ldBA 0 rfl cell35 rfl rfl rfl) ?_
    refine Ops.go rfl (Loud.callR fn73 rfl (fun w hw => f_i_JoiningPoints w _ _ _ _ (by exact RdL.own 1 rfl w hw) (by omega) (by omega) (by omega) (by omega) (by omega))) ?_
    rintro v78 _ ⟨L78, hQ78, rfl⟩
    obtain ⟨x78, rfl, rfl⟩ := hQ78
    refine Ops.pure rfl (Pure.move rfl) ?_
    refine Ops.pure rfl (Pure.extract rfl rfl) ?_
    refine Ops.pure rfl (Pure.extract rfl rfl) ?_
    refine Ops.pure rfl (Pure.assign rfl) ?_
    refine Ops.pure rfl (Pure.assign rfl) ?_
    refine Ops.nil ?_
    refine Run.seq ?_
    refine Run.region ?_
    refine Ops.pure rfl (Pure.ldBA 1 rfl cell35 rfl rfl rfl) ?_
    refine Ops.go rfl (Loud.callR fn74 rfl (fun w hw => f_s_JoiningPoints w _ _ _ _ (by exact RdL.own 2 rfl w hw) (by omega) (by omega) (by omega) (by omega) (by omega))) ?_
    rintro v83 _ ⟨L83, hQ83, rfl⟩
    obtain ⟨x83, rfl, rfl⟩ := hQ83
    refine Ops.pure rfl (Pure.move rfl) ?_
    refine Ops.pure rfl (Pure.extract rfl rfl) ?_
    refine Ops.pure rfl (Pure.extract rfl rfl) ?_
    refine Ops.pure rfl (Pure.assign rfl) ?_
    refine Ops.pure rfl (Pure.assign rfl) ?_
    refine Ops.nil ?_
    refine Run.seq ?_
    refine Run.region ?_
    refine Ops.pure rfl (Pure.move rfl) ?_
    refine Ops.go rfl (Loud.callR fn75 rfl (fun w hw => f_s_DrawDividingPoints w vc co (RdL.old hc w hw) hb hcl2)) ?_
    rintro v87 _ ⟨L87, hQ87, rfl⟩
    obtain ⟨a87, c87, l87, x87, ha87, hA87, hc87, hC87, hn87, h87, rfl, rfl⟩ := hQ87
    refine Ops.go rfl (Loud.alloc zero35 rfl) ?_
    rintro _ _ ⟨b21, rfl, rfl⟩
    refine Ops.store (Stores.box 0 rfl rfl rfl size35 (one3 h87) rfl rfl) ?_
    refine Ops.nil ?_
    refine Run.seq ?_
    have hz3 := wpL_size pos0 a87 c87 l87
    refine Run.region ?_
    refine Ops.pure rfl (Pure.ldBA 0 rfl cell35 rfl rfl rfl) ?_
    refine Ops.go rfl (Loud.callR fn76 rfl (fun w hw => f_i_DividingPoints w _ _ _ _ (by exact RdL.own 1 rfl w hw) (by omega) (by omega) (by omega) (by omega) (by omega))) ?_
    rintro v90 _ ⟨L90, hQ90, rfl⟩
    obtain ⟨x90, rfl, rfl⟩ := hQ90
    refine Ops.pure rfl (Pure.move rfl) ?_
    refine Ops.pure rfl (Pure.extract rfl rfl) ?_
    refine Ops.pure rfl (Pure.extract rfl rfl) ?_
    refine Ops.pure rfl (Pure.assign rfl) ?_
    refine Ops.pure rfl (Pure.assign rfl) ?_
    refine Ops.nil ?_
    refine Run.seq ?_
    refine Run.region ?_
    refine Ops.pure rfl (Pure.ldBA 1 rfl cell35 rfl rfl rfl) ?_
    refine Ops.go rfl (Loud.callR fn77 rfl (fun w hw => f_s_DividingPoints w _ _ _ _ (by exact RdL.own 2 rfl w hw) (by omega) (by omega) (by omega) (by omega) (by omega))) ?_
    rintro v95 _ ⟨L95, hQ95, rfl⟩
    obtain ⟨x95, rfl, rfl⟩ := hQ95
    refine Ops.pure rfl (Pure.move rfl) ?_
    refine Ops.pure rfl (Pure.extract rfl rfl) ?_
    refine Ops.pure rfl (Pure.extract rfl rfl) ?_
    refine Ops.pure rfl (Pure.assign rfl) ?_
    refine Ops.pure rfl (Pure.assign rfl) ?_
    refine Ops.nil ?_
    refine Run.seq ?_
    refine Run.seq ?_
    refine Run.region ?_
    refine Ops.pure rfl (Pure.move rfl) ?_
    refine Ops.pure rfl (Pure.move rfl) ?_
    refine Ops.pure rfl (Pure.neq rfl rfl) ?_
    refine Ops.pure rfl (Pure.move rfl) ?_
    refine Ops.guardY rfl rfl rfl (by simp) ?_
    refine Ops.pure rfl (Pure.move rfl) ?_
    refine Ops.guardY rfl rfl rfl (by simp) ?_
    refine Ops.pure rfl (Pure.move rfl) ?_
    refine Ops.guardY rfl rfl rfl (by simp) ?_
    refine Ops.pure rfl (Pure.neq rfl rfl) ?_
    refine Ops.pure rfl (Pure.pickF rfl (by simp) rfl) ?_
    refine Ops.pure rfl (Pure.move rfl) ?_
    refine Ops.guardY rfl rfl rfl (by simp) ?_
    refine Ops.pure rfl (Pure.move rfl) ?_
    refine Ops.guardY rfl rfl rfl (by simp) ?_
    refine Ops.pure rfl (Pure.move rfl) ?_
    refine Ops.guardY rfl rfl rfl (by simp) ?_
    refine Ops.pure rfl (Pure.neq rfl rfl) ?_
    refine Ops.pure rfl (Pure.pickF rfl (by simp) rfl) ?_
    refine Ops.pure rfl (Pure.move rfl) ?_
    refine Ops.guardY rfl rfl rfl (by simp) ?_
    refine Ops.pure rfl (Pure.move rfl) ?_
    refine Ops.guardY rfl rfl rfl (by simp) ?_
    refine Ops.pure rfl (Pure.move rfl) ?_
    refine Ops.guardY rfl rfl rfl (by simp) ?_
    refine Ops.q rfl (QOp.call fn55 rfl (fun w hw => f_l_f6ints w _ _ _ _ (by exact RdL.own 9 rfl w hw) (by exact RdL.own 8 rfl w hw) (by omega) (by omega))) ?_
    refine Ops.guardY rfl rfl rfl (by simp) ?_
    refine Ops.pure rfl (Pure.not rfl) ?_
    refine Ops.pure rfl (Pure.pickF rfl (by simp) rfl) ?_
    refine Ops.pure rfl (Pure.move rfl) ?_
    refine Ops.guardY rfl rfl rfl (by simp) ?_
    refine Ops.pure rfl (Pure.move rfl) ?_
    refine Ops.guardY rfl rfl rfl (by simp) ?_
    refine Ops.pure rfl (Pure.move rfl) ?_
    refine Ops.guardY rfl rfl rfl (by simp) ?_
    refine Ops.pure rfl (Pure.neq rfl rfl) ?_
    refine Ops.pure rfl (Pure.pickF rfl (by simp) rfl) ?_
    refine Ops.pure rfl (Pure.move rfl) ?_
    refine Ops.guardY rfl rfl rfl (by simp) ?_
    refine Ops.pure rfl (Pure.move rfl) ?_
    refine Ops.guardY rfl rfl rfl (by simp) ?_
    refine Ops.pure rfl (Pure.move rfl) ?_
    refine Ops.guardY rfl rfl rfl (by simp) ?_
    refine Ops.q rfl (QOp.call fn55 rfl (fun w hw => f_l_f6ints w _ _ _ _ (by exact RdL.own 5 rfl w hw) (by exact RdL.own 4 rfl w hw) (by omega) (by omega))) ?_
    refine Ops.guardY rfl rfl rfl (by simp) ?_
    refine Ops.pure rfl (Pure.not rfl) ?_
    refine Ops.pure rfl (Pure.pickF rfl (by simp) rfl) ?_
    refine Ops.pure rfl (Pure.move rfl) ?_
    refine Ops.guardY rfl rfl rfl (by simp) ?_
    refine Ops.pure rfl (Pure.move rfl) ?_
    refine Ops.guardY rfl rfl rfl (by simp) ?_
    refine Ops.pure rfl (Pure.move rfl) ?_
    refine Ops.guardY rfl rfl rfl (by simp) ?_
    refine Ops.pure rfl (Pure.neq rfl rfl) ?_
    refine Ops.pure rfl (Pure.pickF rfl (by simp) rfl) ?_
    refine Ops.pure rfl (Pure.move rfl) ?_
    refine Ops.guardY rfl rfl rfl (by simp) ?_
    refine Ops.pure rfl (Pure.move rfl) ?_
    refine Ops.guardY rfl rfl rfl (by simp) ?_
    refine Ops.pure rfl (Pure.move rfl) ?_
    refine Ops.guardY rfl rfl rfl (by simp) ?_
    refine Ops.q rfl (QOp.call fn55 rfl (fun w hw => f_l_f6ints w _ _ _ _ (by exact RdL.own 1 rfl w hw) (by exact RdL.own 0 rfl w hw) (by omega) (by omega))) ?_
    refine Ops.guardY rfl rfl rfl (by simp) ?_
    refine Ops.pure rfl (Pure.not rfl) ?_
    refine Ops.pure rfl (Pure.pickF rfl (by simp) rfl) ?_
    refine Ops.nil ?_
    refine Run.condEF rfl (by simp) ?_
    refine Run.skip ?_
    refine Run.seq ?_
    refine Run.seq ?_
    refine Run.region ?_
    refine Ops.pure rfl (Pure.move rfl) ?_
    refine Ops.pure rfl (Pure.eql rfl rfl) ?_
    refine Ops.nil ?_
    refine Run.cond rfl (fun c140 => ?_) (fun c140 => ?_)
    · skip
      replace c140 := dT c140
      obtain ⟨hk9, hpt9, hne9⟩ := ic_zero c140
      have hs9 := okP_size hk9
      have hnb9 := num_bd hs9 hpt9 hne9
      have hli9 := okP_inn hk9
      obtain ⟨n9, hn9⟩ := Int.eq_ofNat_of_zero_le (show 0 ≤ num a59 x59 y59 by omega)
      rw [ea_ok c140, hn9, Int.toNat_natCast]
      refine Run.seq ?_
      refine Run.region ?_
      refine Ops.pure rfl (Pure.assign rfl) ?_
      refine Ops.nil ?_
      refine Run.block ?_
      refine Run.loop (X := Nat) (fun g => [(3, .pointer (some ⟨b3, 0, none⟩)), (4, .pointer (some ⟨b4, 0, none⟩)), (5, .int .i64 k39), (6, .int .i64 (exN a39 c39 l39 x39 y39 k39)), (7, .int .i64 (exE a39 c39 l39 x39 y39 k39)), (14, x71), (26, .int .i64 g)]) (fun g => [.row 2 1 x71 3 (ints (effTo a59 c59 l59 n9 3)), .box b4 72 [.int .i64 x39, .int .i64 y39], .box b3 35 [.int .i64 a39, .int .i64 c39, v39], .row 2 1 v39 l39.length (ints l39)]) (fun g => g ≤ 3) (fun g => 3 - g) 0 ?_ ?_ ?_ ?_
      · exact Nat.zero_le _
      · exact ⟨rfl, rfl, rfl, rfl, rfl, rfl, rfl, trivial⟩
      · refine Ext.trans (Ext.eq ?_) (Ext.take 8 rfl (Ext.take 12 rfl (Ext.take 12 rfl (Ext.take 12 rfl (Ext.nil _)))))
        rfl
      · intro g hinv0
        refine Run.seq ?_
        refine Run.seq ?_
        refine Run.region ?_
        refine Ops.pure rfl (Pure.move rfl) ?_
        refine Ops.pure rfl (Pure.lss rfl rfl) ?_
        refine Ops.nil ?_
        refine Run.cond rfl (fun c142 => ?_) (fun c142 => ?_)
        · skip
          replace c142 := dT c142
          refine Run.skip ?_
          refine Run.seq ?_
          refine Run.block ?_
          refine Run.seq ?_
          refine Run.region ?_
          refine Ops.pure rfl (Pure.assign rfl) ?_
          refine Ops.nil ?_
          refine Run.block ?_
          refine Run.loop (X := Nat) (fun j => [(3, .pointer (some ⟨b3, 0, none⟩)), (4, .pointer (some ⟨b4, 0, none⟩)), (5, .int .i64 k39), (6, .int .i64 (exN a39 c39 l39 x39 y39 k39)), (7, .int .i64 (exE a39 c39 l39 x39 y39 k39)), (14, x71), (26, .int .i64 g), (27, .int .i64 j)]) (fun j => [.row 2 1 x71 3 (ints (effTo a59 c59 l59 n9 3)), .box b4 72 [.int .i64 x39, .int .i64 y39], .box b3 35 [.int .i64 a39, .int .i64 c39, v39], .row 2 1 v39 l39.length (ints l39)]) (fun j => j ≤ 3) (fun j => 3 - j) 0 ?_ ?_ ?_ ?_
          · exact Nat.zero_le _
          · exact ⟨rfl, rfl, rfl, rfl, rfl, rfl, rfl, rfl, trivial⟩
          · exact Ext.refl _
          · intro j hinv1
            have hel := length_effTo a59 c59 l59 n9 3
            refine Run.seq ?_
            refine Run.seq ?_
            refine Run.region ?_
            refine Ops.pure rfl (Pure.move rfl) ?_
            refine Ops.pure rfl (Pure.lss rfl rfl) ?_
            refine Ops.nil ?_
            refine Run.cond rfl (fun c146 => ?_) (fun c146 => ?_)
            · skip
              replace c146 := dT c146
              refine Run.skip ?_
              refine Run.seq ?_
              refine Run.block ?_
              refine Run.seq ?_
              have hg3 : g < 3 := by omega
              have hj3 : j < 3 := by omega
              have he1 := effTo_get (a := a59) (b := c59) (l := l59) (k := n9) hg3
              have he2 := effTo_get (a := a59) (b := c59) (l := l59) (k := n9) hj3
              have he3 := eff_two hk9 (show n9 < l59.length by omega) hg3 hj3
              have he4 := cw_le (l := l59) hs9 n9 g
              have he5 := cw_le (l := l59) hs9 n9 j
              refine Any.start follows ?_
              refine Any.take 0 rfl (by kernel_rfl) rfl (QOp.pure (Pure.move rfl)) ?_
              refine Any.take 1 rfl (by kernel_rfl) rfl (QOp.pure (Pure.move rfl)) ?_
              refine Any.take 2 rfl (by kernel_rfl) rfl (QOp.pure (Pure.idx1N sl32 (RdL.own 0 rfl) rfl rfl (by first | assumption | omega | (simp; omega)))) ?_
              refine Any.take 3 rfl (by kernel_rfl) rfl (QOp.pure (Pure.ld cell2 rfl (RdL.own 0 rfl) (by first | exact ints_get (by omega) | exact bools_get (by omega) | exact strs_get (by omega) | exact vals_get (by first | omega | (simp; omega))))) ?_
              refine Any.take 4 rfl (by kernel_rfl) rfl (QOp.pure (Pure.move rfl)) ?_
              refine Any.take 5 rfl (by kernel_rfl) rfl (QOp.pure (Pure.move rfl)) ?_
              refine Any.take 6 rfl (by kernel_rfl) rfl (QOp.pure (Pure.idx1N sl32 (RdL.own 0 rfl) rfl rfl (by first | assumption | omega | (simp; omega)))) ?_
              refine Any.take 7 rfl (by kernel_rfl) rfl (QOp.pure (Pure.ld cell2 rfl (RdL.own 0 rfl) (by first | exact ints_get (by omega) | exact bools_get (by omega) | exact strs_get (by omega) | exact vals_get (by first | omega | (simp; omega))))) ?_
              refine Any.take 8 rfl (by kernel_rfl) rfl (QOp.pure (Pure.sub rfl rfl (by omega) (by omega))) ?_
              refine Any.take 9 rfl (by kernel_rfl) rfl (QOp.pure (Pure.assign rfl)) ?_
              refine Any.done (by kernel_rfl) ?_
              refine Run.seq ?_
              refine Run.region ?_
              refine Ops.pure rfl (Pure.move rfl) ?_
              refine Ops.pure rfl (Pure.lss rfl rfl) ?_
              refine Ops.pure rfl (Pure.move rfl) ?_
              refine Ops.guardY rfl rfl rfl (decide_eq_false (by omega)) ?_
              refine Ops.pure rfl (Pure.move rfl) ?_
              refine Ops.guardY rfl rfl rfl (decide_eq_false (by omega)) ?_
              refine Ops.pure rfl (Pure.gtr rfl rfl) ?_
              refine Ops.pure rfl (Pure.pickF rfl (decide_eq_false (by omega)) rfl) ?_
              refine Ops.nil ?_
              refine Run.condEF rfl (decide_eq_false (by omega)) ?_
              refine Run.skip ?_
              refine Run.blk ?_
              refine Run.region ?_
              refine Ops.pure rfl (Pure.move rfl) ?_
              refine Ops.pure rfl (Pure.add rfl rfl (by omega) (by omega)) ?_
              refine Ops.pure rfl (Pure.assign rfl) ?_
              refine Ops.nil ?_
              refine Run.asrt ?_
              exact ⟨j + 1, ⟨by omega, by omega⟩, ⟨rfl, rfl, rfl, rfl, rfl, rfl, rfl, rfl, trivial⟩, Ext.refl _⟩
            · skip
              replace c146 := dF c146
              refine Run.exit rfl ?_
              refine Run.blk ?_
              refine Run.region ?_
              refine Ops.pure rfl (Pure.move rfl) ?_
              refine Ops.pure rfl (Pure.add rfl rfl (by omega) (by omega)) ?_
              refine Ops.pure rfl (Pure.assign rfl) ?_
              refine Ops.nil ?_
              refine Run.asrt ?_
              exact ⟨g + 1, ⟨by omega, by omega⟩, ⟨rfl, rfl, rfl, rfl, rfl, rfl, rfl, trivial⟩, Ext.refl _⟩
        · skip
          replace c142 := dF c142
          refine Run.exit rfl ?_
          refine Run.seq ?_
          refine Run.seq ?_
          refine Run.region ?_
          refine Ops.pure rfl (Pure.move rfl) ?_
          refine Ops.pure rfl (Pure.neq rfl rfl) ?_
          refine Ops.nil ?_
          refine Run.cond rfl (fun c165 => ?_) (fun c165 => ?_)
          · skip
            replace c165 := nT c165
            refine Run.seq ?_
            refine Run.region ?_
            refine Ops.pure rfl (Pure.assign rfl) ?_
            refine Ops.nil ?_
            refine Run.ret1 rfl rfl ?_
            rfl
          · skip
            replace c165 := nF c165
            obtain ⟨hk1, hp1, hne1, hk0, hk2⟩ := ex_zero c165
            have hs1 := okP_size hk1
            have hnb1 := num_bd hs1 hp1 hne1
            have hli1 := okP_inn hk1
            have hcs := cnt_set (k := (num a39 x39 y39).toNat) (y := k39) hk1 (by omega) hk0 hk2
            have hcl9 := cnt_le (l := l39) hs1
            have hok9 := okP_set hk1 (num a39 x39 y39).toNat hk0 hk2
            rw [exN_ok c165]
            refine Run.skip ?_
            refine Run.seq ?_
            refine Run.region ?_
            refine Ops.pure rfl (Pure.ldBA 2 rfl cell35 rfl rfl rfl) ?_
            refine Ops.pure rfl (Pure.ldBA 1 rfl cell72 rfl rfl rfl) ?_
            refine Ops.pure rfl (Pure.move rfl) ?_
            refine Ops.go rfl (Loud.callR fn78 rfl (fun w hw => f_i_SetBreak w a39 c39 v39 l39 x39 y39 k39 (by first | exact RdL.own 3 rfl w hw | exact RdL.own 15 rfl w hw) (by omega) hk1 hp1 hne1 hk0 hk2)) ?_
            rintro v170 _ ⟨L170, hQ170, rfl⟩
            obtain ⟨x170, h170, rfl, rfl⟩ := hQ170
            refine Ops.pure rfl (Pure.move rfl) ?_
            refine Ops.pure rfl (Pure.extract rfl rfl) ?_
            refine Ops.pure rfl (Pure.extract rfl rfl) ?_
            refine Ops.go rfl (Loud.alloc zero35 rfl) ?_
            rintro _ _ ⟨b29, rfl, rfl⟩
            refine Ops.store (Stores.box 0 rfl rfl rfl size35 (one3 h170) rfl rfl) ?_
            refine Ops.pure rfl (Pure.assign rfl) ?_
            refine Ops.nil ?_
            refine Run.seq ?_
            refine Run.region ?_
            refine Ops.pure rfl (Pure.ldBA 4 rfl cell35 rfl rfl rfl) ?_
            refine Ops.q rfl (QOp.call fn45 rfl (fun w hw => f_i_CountCurves w a39 c39 v39 l39 (by first | exact RdL.own 5 rfl w hw | exact RdL.own 17 rfl w hw) (by omega) hk1)) ?_
            refine Ops.pure rfl (Pure.move rfl) ?_
            refine Ops.pure rfl (Pure.extract rfl rfl) ?_
            refine Ops.pure rfl (Pure.extract rfl rfl) ?_
            refine Ops.pure rfl (Pure.assign rfl) ?_
            refine Ops.pure rfl (Pure.assign rfl) ?_
            refine Ops.nil ?_
            refine Run.seq ?_
            refine Run.region ?_
            refine Ops.pure rfl (Pure.ldBA 0 rfl cell35 rfl rfl rfl) ?_
            refine Ops.q rfl (QOp.call fn45 rfl (fun w hw => f_i_CountCurves w a39 c39 x170 (l39.set (num a39 x39 y39).toNat k39) (by rw [List.length_set]; exact RdL.own 1 rfl w hw) (by rw [List.length_set]; omega) hok9)) ?_
            refine Ops.pure rfl (Pure.move rfl) ?_
            refine Ops.pure rfl (Pure.extract rfl rfl) ?_
            refine Ops.pure rfl (Pure.extract rfl rfl) ?_
            refine Ops.pure rfl (Pure.assign rfl) ?_
            refine Ops.pure rfl (Pure.assign rfl) ?_
            refine Ops.nil ?_
            refine Run.seq ?_
            refine Run.region ?_
            refine Ops.pure rfl (Pure.move rfl) ?_
            refine Ops.pure rfl (Pure.geq rfl rfl) ?_
            refine Ops.pure rfl (Pure.move rfl) ?_
            refine Ops.guardY rfl rfl rfl (decide_eq_true (by omega)) ?_
            refine Ops.pure rfl (Pure.move rfl) ?_
            refine Ops.guardY rfl rfl rfl (decide_eq_true (by omega)) ?_
            refine Ops.pure rfl (Pure.leq rfl rfl) ?_
            refine Ops.pure rfl (Pure.pickT rfl (decide_eq_true (by omega)) rfl) ?_
            refine Ops.pure rfl (Pure.move rfl) ?_
            refine Ops.guardY rfl rfl rfl (decide_eq_true (by omega)) ?_
            refine Ops.pure rfl (Pure.move rfl) ?_
            refine Ops.guardY rfl rfl rfl (decide_eq_true (by omega)) ?_
            refine Ops.pure rfl (Pure.eql rfl rfl) ?_
            refine Ops.pure rfl (Pure.pickT rfl (decide_eq_true (by omega)) rfl) ?_
            refine Ops.pure rfl (Pure.move rfl) ?_
            refine Ops.guardY rfl rfl rfl (by simp) ?_
            refine Ops.pure rfl (Pure.move rfl) ?_
            refine Ops.guardY rfl rfl rfl (by simp) ?_
            refine Ops.pure rfl (Pure.eql rfl rfl) ?_
            refine Ops.pure rfl (Pure.pickT rfl (by simp) rfl) ?_
            refine Ops.pure rfl (Pure.move rfl) ?_
            refine Ops.guardY rfl rfl rfl (by simp) ?_
            refine Ops.pure rfl (Pure.move rfl) ?_
            refine Ops.guardY rfl rfl rfl (by simp) ?_
            refine Ops.pure rfl (Pure.eql rfl rfl) ?_
            refine Ops.pure rfl (Pure.pickT rfl (by simp) rfl) ?_
            refine Ops.pure rfl (Pure.move rfl) ?_
            refine Ops.guardY rfl rfl rfl (by simp) ?_
            refine Ops.pure rfl (Pure.move rfl) ?_
            refine Ops.guardY rfl rfl rfl (by simp) ?_
            refine Ops.pure rfl (Pure.move rfl) ?_
            refine Ops.guardY rfl rfl rfl (by simp) ?_
            refine Ops.pure rfl (Pure.move rfl) ?_
            refine Ops.guardY rfl rfl rfl (by simp) ?_
            refine Ops.pure rfl (Pure.add rfl rfl (by omega) (by omega)) ?_
            refine Ops.guardY rfl rfl rfl (by simp) ?_
            refine Ops.pure rfl (Pure.eql rfl rfl) ?_
            refine Ops.pure rfl (Pure.pickT rfl (by simp) rfl) ?_
            refine Ops.pure rfl (Pure.assign rfl) ?_
            refine Ops.nil ?_
            refine Run.ret1 rfl rfl ?_
            rw [decide_eq_true (by omega)]
    · skip
      replace c140 := dF c140
      refine Run.skip ?_
      refine Run.seq ?_
      refine Run.seq ?_
      refine Run.region ?_
      refine Ops.pure rfl (Pure.move rfl) ?_
      refine Ops.pure rfl (Pure.neq rfl rfl) ?_
      refine Ops.nil ?_
      refine Run.cond rfl (fun c165 => ?_) (fun c165 => ?_)
      · skip
        replace c165 := nT c165
        refine Run.seq ?_
        refine Run.region ?_
        refine Ops.pure rfl (Pure.assign rfl) ?_
        refine Ops.nil ?_
        refine Run.ret1 rfl rfl ?_
        rfl
      · skip
        replace c165 := nF c165
        obtain ⟨hk1, hp1, hne1, hk0, hk2⟩ := ex_zero c165
        have hs1 := okP_size hk1
        have hnb1 := num_bd hs1 hp1 hne1
        have hli1 := okP_inn hk1
        have hcs := cnt_set (k := (num a39 x39 y39).toNat) (y := k39) hk1 (by omega) hk0 hk2
        have hcl9 := cnt_le (l := l39) hs1
        have hok9 := okP_set hk1 (num a39 x39 y39).toNat hk0 hk2
        rw [exN_ok c165]
        refine Run.skip ?_
        refine Run.seq ?_
        refine Run.region ?_
        refine Ops.pure rfl (Pure.ldBA 14 rfl cell35 rfl rfl rfl) ?_
        refine Ops.pure rfl (Pure.ldBA 13 rfl cell72 rfl rfl rfl) ?_
        refine Ops.pure rfl (Pure.move rfl) ?_
        refine Ops.go rfl (Loud.callR fn78 rfl (fun w hw => f_i_SetBreak w a39 c39 v39 l39 x39 y39 k39 (by first | exact RdL.own 3 rfl w hw | exact RdL.own 15 rfl w hw) (by omega) hk1 hp1 hne1 hk0 hk2)) ?_
        rintro v170 _ ⟨L170, hQ170, rfl⟩
        obtain ⟨x170, h170, rfl, rfl⟩ := hQ170
        refine Ops.pure rfl (Pure.move rfl) ?_
        refine Ops.pure rfl (Pure.extract rfl rfl) ?_
        refine Ops.pure rfl (Pure.extract rfl rfl) ?_
        refine Ops.go rfl (Loud.alloc zero35 rfl) ?_
        rintro _ _ ⟨b29, rfl, rfl⟩
        refine Ops.store (Stores.box 0 rfl rfl rfl size35 (one3 h170) rfl rfl) ?_
        refine Ops.pure rfl (Pure.assign rfl) ?_
        refine Ops.nil ?_
        refine Run.seq ?_
        refine Run.region ?_
        refine Ops.pure rfl (Pure.ldBA 16 rfl cell35 rfl rfl rfl) ?_
        refine Ops.q rfl (QOp.call fn45 rfl (fun w hw => f_i_CountCurves w a39 c39 v39 l39 (by first | exact RdL.own 5 rfl w hw | exact RdL.own 17 rfl w hw) (by omega) hk1)) ?_
        refine Ops.pure rfl (Pure.move rfl) ?_
        refine Ops.pure rfl (Pure.extract rfl rfl) ?_
        refine Ops.pure rfl (Pure.extract rfl rfl) ?_
        refine Ops.pure rfl (Pure.assign rfl) ?_
        refine Ops.pure rfl (Pure.assign rfl) ?_
        refine Ops.nil ?_
        refine Run.seq ?_
        refine Run.region ?_
        refine Ops.pure rfl (Pure.ldBA 0 rfl cell35 rfl rfl rfl) ?_
        refine Ops.q rfl (QOp.call fn45 rfl (fun w hw => f_i_CountCurves w a39 c39 x170 (l39.set (num a39 x39 y39).toNat k39) (by rw [List.length_set]; exact RdL.own 1 rfl w hw) (by rw [List.length_set]; omega) hok9)) ?_
        refine Ops.pure rfl (Pure.move rfl) ?_
        refine Ops.pure rfl (Pure.extract rfl rfl) ?_
        refine Ops.pure rfl (Pure.extract rfl rfl) ?_
        refine Ops.pure rfl (Pure.assign rfl) ?_
        refine Ops.pure rfl (Pure.assign rfl) ?_
        refine Ops.nil ?_
        refine Run.seq ?_
        refine Run.region ?_
        refine Ops.pure rfl (Pure.move rfl) ?_
        refine Ops.pure rfl (Pure.geq rfl rfl) ?_
        refine Ops.pure rfl (Pure.move rfl) ?_
        refine Ops.guardY rfl rfl rfl (decide_eq_true (by omega)) ?_
        refine Ops.pure rfl (Pure.move rfl) ?_
        refine Ops.guardY rfl rfl rfl (decide_eq_true (by omega)) ?_
        refine Ops.pure rfl (Pure.leq rfl rfl) ?_
        refine Ops.pure rfl (Pure.pickT rfl (decide_eq_true (by omega)) rfl) ?_
        refine Ops.pure rfl (Pure.move rfl) ?_
        refine Ops.guardY rfl rfl rfl (decide_eq_true (by omega)) ?_
        refine Ops.pure rfl (Pure.move rfl) ?_
        refine Ops.guardY rfl rfl rfl (decide_eq_true (by omega)) ?_
        refine Ops.pure rfl (Pure.eql rfl rfl) ?_
        refine Ops.pure rfl (Pure.pickT rfl (decide_eq_true (by omega)) rfl) ?_
        refine Ops.pure rfl (Pure.move rfl) ?_
        refine Ops.guardY rfl rfl rfl (by simp) ?_
        refine Ops.pure rfl (Pure.move rfl) ?_
        refine Ops.guardY rfl rfl rfl (by simp) ?_
        refine Ops.pure rfl (Pure.eql rfl rfl) ?_
        refine Ops.pure rfl (Pure.pickT rfl (by simp) rfl) ?_
        refine Ops.pure rfl (Pure.move rfl) ?_
        refine Ops.guardY rfl rfl rfl (by simp) ?_
        refine Ops.pure rfl (Pure.move rfl) ?_
        refine Ops.guardY rfl rfl rfl (by simp) ?_
        refine Ops.pure rfl (Pure.eql rfl rfl) ?_
        refine Ops.pure rfl (Pure.pickT rfl (by simp) rfl) ?_
        refine Ops.pure rfl (Pure.move rfl) ?_
        refine Ops.guardY rfl rfl rfl (by simp) ?_
        refine Ops.pure rfl (Pure.move rfl) ?_
        refine Ops.guardY rfl rfl rfl (by simp) ?_
        refine Ops.pure rfl (Pure.move rfl) ?_
        refine Ops.guardY rfl rfl rfl (by simp) ?_
        refine Ops.pure rfl (Pure.move rfl) ?_
        refine Ops.guardY rfl rfl rfl (by simp) ?_
        refine Ops.pure rfl (Pure.add rfl rfl (by omega) (by omega)) ?_
        refine Ops.guardY rfl rfl rfl (by simp) ?_
        refine Ops.pure rfl (Pure.eql rfl rfl) ?_
        refine Ops.pure rfl (Pure.pickT rfl (by simp) rfl) ?_
        refine Ops.pure rfl (Pure.assign rfl) ?_
        refine Ops.nil ?_
        refine Run.ret1 rfl rfl ?_
        rw [decide_eq_true (by omega)]

end Go.Proofs.Ytmfinopdokkjcaa
