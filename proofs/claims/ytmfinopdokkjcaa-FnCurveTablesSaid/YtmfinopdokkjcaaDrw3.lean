/- Contracts of functions, printed by program from annotations. -/
import Derived.Test.YtmfinopdokkjcaaDrw2
import Derived.Test.YtmfinopdokkjcaaPtL
import Derived.Test.YtmfinopdokkjcaaAwv
namespace Go.Proofs.Ytmfinopdokkjcaa
open Go Go.AW Go.RowKit
set_option linter.unusedVariables false
set_option linter.unusedSimpArgs false

set_option maxRecDepth 4000 in
/-- (*spec.l00Src).pick -/
theorem f_pickW (w0 : World) (w : World) (b : Nat) (vc : Value) (co : List Int) (q : Nat) (sd : Int) (F : List Ent) (n : Int) (hw : Sat w0 w (srcE b vc q sd :: F)) (hc : Rd w0 vc 1 co.length (AW.bytes co)) (hb : ∀ x ∈ co, 0 ≤ x ∧ x ≤ 255) (hcl : co.length ≤ 1000000000) (hq : q ≤ 999999000) (hn : n ≤ 9000) : RetO Try.prog 118 [.pointer (some ⟨b, 0, none⟩), .int .i64 n] w0 w (fun u L => ∃ (x : Int) (q' : Nat) (sd' : Int), 0 ≤ x ∧ (x < n ∨ x = 0 ∧ n ≤ 1) ∧ q' ≤ q + 2 ∧ u = .int .i64 x ∧ L = srcE b vc q' sd' :: F) := by
  refine RetO.enter Try.func118 rfl Try.ntmps118 rfl hw ?_
  refine Run.seq ?_
  refine Run.region ?_
  refine Ops.pure rfl (Pure.assign rfl) ?_
  refine Ops.nil ?_
  refine Run.seq ?_
  refine Run.seq ?_
  refine Run.region ?_
  refine Ops.pure rfl (Pure.move rfl) ?_
  refine Ops.pure rfl (Pure.leq rfl rfl) ?_
  refine Ops.nil ?_
  refine Run.cond rfl (fun c7 => ?_) (fun c7 => ?_)
  · skip
    replace c7 := dT c7
    refine Run.seq ?_
    refine Run.region ?_
    refine Ops.pure rfl (Pure.assign rfl) ?_
    refine Ops.nil ?_
    refine Run.ret1 rfl rfl ?_
    exact ⟨0, q, sd, by decide, .inr ⟨rfl, c7⟩, by omega, rfl, rfl⟩
  · skip
    replace c7 := dF c7
    refine Run.skip ?_
    refine Run.seq ?_
    refine Run.region ?_
    refine Ops.pure rfl (Pure.move rfl) ?_
    refine Ops.go rfl (Loud.callO fn190 rfl (fun w hw => f_s_l00Src_next _ w b vc co q sd F hw hc hb hcl (by omega))) ?_
    rintro v9 L9 hQ9
    obtain ⟨x9, sd9, hx9, hy9, rfl, rfl⟩ := hQ9
    refine Ops.pure rfl (Pure.assign rfl) ?_
    refine Ops.nil ?_
    refine Run.seq ?_
    refine Run.seq ?_
    refine Run.region ?_
    refine Ops.pure rfl (Pure.move rfl) ?_
    refine Ops.pure rfl (Pure.gtr rfl rfl) ?_
    refine Ops.nil ?_
    refine Run.cond rfl (fun c11 => ?_) (fun c11 => ?_)
    · skip
      replace c11 := dT c11
      refine Run.region ?_
      refine Ops.pure rfl (Pure.move rfl) ?_
      refine Ops.pure rfl (Pure.mul rfl rfl (by omega) (by omega)) ?_
      refine Ops.pure rfl (Pure.move rfl) ?_
      refine Ops.go rfl (Loud.callO fn190 rfl (fun w hw => f_s_l00Src_next _ w b vc co _ _ F hw hc hb hcl (by omega))) ?_
      rintro v15 L15 hQ15
      obtain ⟨x15, sd15, hx15, hy15, rfl, rfl⟩ := hQ15
      refine Ops.pure rfl (Pure.add rfl rfl (by omega) (by omega)) ?_
      refine Ops.pure rfl (Pure.assign rfl) ?_
      refine Ops.nil ?_
      refine Run.seq ?_
      refine Run.region ?_
      refine Ops.pure rfl (Pure.move rfl) ?_
      refine Ops.pure rfl (Pure.move rfl) ?_
      refine Ops.pure rfl (Pure.rem rfl rfl (by omega) (by omega)) ?_
      refine Ops.pure rfl (Pure.assign rfl) ?_
      refine Ops.nil ?_
      refine Run.ret1 rfl rfl ?_
      exact ⟨_, _, _, (mod_bd (by first | assumption | omega) (by omega)).1, .inl (mod_bd (by first | assumption | omega) (by omega)).2, by omega, rfl, rfl⟩
    · skip
      replace c11 := dF c11
      refine Run.skip ?_
      refine Run.seq ?_
      refine Run.region ?_
      refine Ops.pure rfl (Pure.move rfl) ?_
      refine Ops.pure rfl (Pure.move rfl) ?_
      refine Ops.pure rfl (Pure.rem rfl rfl (by omega) (by omega)) ?_
      refine Ops.pure rfl (Pure.assign rfl) ?_
      refine Ops.nil ?_
      refine Run.ret1 rfl rfl ?_
      exact ⟨_, _, _, (mod_bd (by first | assumption | omega) (by omega)).1, .inl (mod_bd (by first | assumption | omega) (by omega)).2, by omega, rfl, rfl⟩

set_option maxRecDepth 4000 in
/-- spec.l12Size -/
theorem f_s_l12Size (w0 : World) (w : World) (b : Nat) (vc : Value) (co : List Int) (q : Nat) (sd : Int) (F : List Ent) (hw : Sat w0 w (srcE b vc q sd :: F)) (hc : Rd w0 vc 1 co.length (AW.bytes co)) (hb : ∀ x ∈ co, 0 ≤ x ∧ x ≤ 255) (hcl : co.length ≤ 1000000000) (hq : q ≤ 999990000) : RetO Try.prog 115 [.pointer (some ⟨b, 0, none⟩)] w0 w (fun u L => ∃ (a c : Int) (q' : Nat) (sd' : Int), 0 ≤ a ∧ a ≤ 9 ∧ 1 ≤ c ∧ c ≤ 3 ∧ q' ≤ q + 10 ∧ u = .tuple #[.int .i64 a, .int .i64 c] ∧ L = srcE b vc q' sd' :: F) := by
  refine RetO.enter Try.func115 rfl Try.ntmps115 rfl hw ?_
  refine Run.seq ?_
  refine Run.region ?_
  refine Ops.pure rfl (Pure.assign rfl) ?_
  refine Ops.pure rfl (Pure.assign rfl) ?_
  refine Ops.nil ?_
  refine Run.seq ?_
  refine Run.seq ?_
  refine Run.region ?_
  refine Ops.pure rfl (Pure.move rfl) ?_
  refine Ops.go rfl (Loud.callO fn116 rfl (fun w hw => f_s_l00Src_one _ w _ vc co _ _ _ 12 (Sat.front 0 rfl hw) hc hb hcl (by omega) (by omega))) ?_
  rintro v7 L7 hQ7
  obtain ⟨x7, q7, sd7, hq7, rfl, rfl⟩ := hQ7
  refine Ops.nil ?_
  refine Run.cond rfl (fun c7 => ?_) (fun c7 => ?_)
  · skip
    skip
    refine Run.seq ?_
    refine Run.region ?_
    refine Ops.pure rfl (Pure.move rfl) ?_
    refine Ops.go rfl (Loud.lit sl32 rfl rfl rfl (by simp [Value.oneCell'])) ?_
    rintro v9 _ rfl
    refine Ops.go rfl (Loud.callO fn117 rfl (fun w hw => f_s_l00Src_among _ w _ vc co _ _ _ _ [0, 1, 8, 9] (Sat.front 1 rfl hw) hc hb hcl (by omega) (RdL.own 1 rfl) (fun _ _ => RdL.own 1 rfl) (by decide) (by decide))) ?_
    rintro v10 L10 hQ10
    obtain ⟨x10, q10, sd10, hx10, hq10, rfl, rfl⟩ := hQ10
    have hxb10 : 0 ≤ x10 ∧ x10 ≤ 9 := by
      simp only [List.mem_cons, List.not_mem_nil, or_false] at hx10
      omega
    refine Ops.pure rfl (Pure.assign rfl) ?_
    refine Ops.nil ?_
    refine Run.seq ?_
    refine Run.region ?_
    refine Ops.pure rfl (Pure.move rfl) ?_
    refine Ops.pure rfl (Pure.move rfl) ?_
    refine Ops.go rfl (Loud.lit sl32 rfl rfl rfl (by simp [Value.oneCell'])) ?_
    rintro v13 _ rfl
    refine Ops.go rfl (Loud.callO fn117 rfl (fun w hw => f_s_l00Src_among _ w _ vc co _ _ _ _ [1, 1, 3] (Sat.front 1 rfl hw) hc hb hcl (by omega) (RdL.own 1 rfl) (fun _ _ => RdL.own 1 rfl) (by decide) (by decide))) ?_
    rintro v14 L14 hQ14
    obtain ⟨x14, q14, sd14, hx14, hq14, rfl, rfl⟩ := hQ14
    have hxb14 : 1 ≤ x14 ∧ x14 ≤ 3 := by
      simp only [List.mem_cons, List.not_mem_nil, or_false] at hx14
      omega
    refine Ops.pure rfl (Pure.assign rfl) ?_
    refine Ops.pure rfl (Pure.assign rfl) ?_
    refine Ops.nil ?_
    refine Run.ext_ (Ext.take 0 rfl (Ext.right [_, _] _)) ?_
    refine Run.ret2 rfl rfl rfl ?_
    exact ⟨x10, x14, q14, sd14, hxb10.1, hxb10.2, hxb14.1, hxb14.2, by omega, rfl, rfl⟩
  · skip
    skip
    refine Run.skip ?_
    refine Run.seq ?_
    refine Run.seq ?_
    refine Run.region ?_
    refine Ops.pure rfl (Pure.move rfl) ?_
    refine Ops.go rfl (Loud.callO fn116 rfl (fun w hw => f_s_l00Src_one _ w _ vc co _ _ _ 12 (Sat.front 0 rfl hw) hc hb hcl (by omega) (by omega))) ?_
    rintro v16 L16 hQ16
    obtain ⟨x16, q16, sd16, hq16, rfl, rfl⟩ := hQ16
    refine Ops.nil ?_
    refine Run.cond rfl (fun c16 => ?_) (fun c16 => ?_)
    · skip
      skip
      refine Run.seq ?_
      refine Run.region ?_
      refine Ops.pure rfl (Pure.assign rfl) ?_
      refine Ops.pure rfl (Pure.assign rfl) ?_
      refine Ops.nil ?_
      refine Run.ret2 rfl rfl rfl ?_
      exact ⟨2, 3, _, _, by decide, by decide, by decide, by decide, by omega, rfl, rfl⟩
    · skip
      skip
      refine Run.skip ?_
      refine Run.seq ?_
      refine Run.seq ?_
      refine Run.region ?_
      refine Ops.pure rfl (Pure.move rfl) ?_
      refine Ops.go rfl (Loud.callO fn116 rfl (fun w hw => f_s_l00Src_one _ w _ vc co _ _ _ 3 (Sat.front 0 rfl hw) hc hb hcl (by omega) (by omega))) ?_
      rintro v18 L18 hQ18
      obtain ⟨x18, q18, sd18, hq18, rfl, rfl⟩ := hQ18
      refine Ops.nil ?_
      refine Run.cond rfl (fun c18 => ?_) (fun c18 => ?_)
      · skip
        skip
        refine Run.seq ?_
        refine Run.region ?_
        refine Ops.pure rfl (Pure.assign rfl) ?_
        refine Ops.pure rfl (Pure.assign rfl) ?_
        refine Ops.nil ?_
        refine Run.ret2 rfl rfl rfl ?_
        exact ⟨2, 2, _, _, by decide, by decide, by decide, by decide, by omega, rfl, rfl⟩
      · skip
        skip
        refine Run.skip ?_
        refine Run.seq ?_
        refine Run.region ?_
        refine Ops.pure rfl (Pure.move rfl) ?_
        refine Ops.go rfl (Loud.callO fn118 rfl (fun w hw => f_s_l00Src_pick _ w _ vc co _ _ _ 6 (Sat.front 0 rfl hw) hc hb hcl (by omega) (by omega))) ?_
        rintro v20 L20 hQ20
        obtain ⟨x20, q20, sd20, hx20, hy20, hq20, rfl, rfl⟩ := hQ20
        refine Ops.pure rfl (Pure.add rfl rfl (by omega) (by omega)) ?_
        refine Ops.pure rfl (Pure.assign rfl) ?_
        refine Ops.nil ?_
        refine Run.seq ?_
        refine Run.region ?_
        refine Ops.pure rfl (Pure.move rfl) ?_
        refine Ops.pure rfl (Pure.assign rfl) ?_
        refine Ops.pure rfl (Pure.assign rfl) ?_
        refine Ops.nil ?_
        refine Run.ret2 rfl rfl rfl ?_
        exact ⟨1 + x20, 1, _, _, by omega, by omega, by decide, by decide, by omega, rfl, rfl⟩

theorem ints_set1 (l : List Int) (k : Nat) (x : Int) : (ints l).set k (.int .i64 x) = ints (l.set k x) := by rw [ints, ints, List.map_set]

set_option maxRecDepth 4000 in
set_option maxHeartbeats 800000 in
/-- spec.l02Bent -/
theorem f_s_l02Bent (w0 : World) (w : World) (b : Nat) (vc : Value) (co : List Int) (q : Nat) (sd : Int) (F : List Ent) (hw : Sat w0 w (srcE b vc q sd :: F)) (hc : Rd w0 vc 1 co.length (AW.bytes co)) (hb : ∀ x ∈ co, 0 ≤ x ∧ x ≤ 255) (hcl : co.length ≤ 1000000000) (hq : q ≤ 999980000) : RetO Try.prog 120 [.pointer (some ⟨b, 0, none⟩)] w0 w (fun u L => ∃ (a c : Int) (l : List Int) (x : Value) (q' : Nat) (sd' : Int), -9223372036854775808 ≤ a ∧ a ≤ 9 ∧ 1 ≤ c ∧ c ≤ 9 ∧ l.length ≤ 120 ∧ x.oneCell' = true ∧ q' ≤ q + 2000 ∧ u = .agg #[.int .i64 a, .int .i64 c, x] ∧ L = .row 2 1 x l.length (ints l) :: srcE b vc q' sd' :: F) := by
  refine RetO.enter Try.func120 rfl Try.ntmps120 rfl hw ?_
  refine Run.seq ?_
  refine Run.region ?_
  refine Ops.go rfl (Loud.alloc zero35 rfl) ?_
  rintro _ _ ⟨b2, rfl, rfl⟩
  refine Ops.nil ?_
  refine Run.seq ?_
  refine Run.region ?_
  refine Ops.pure rfl (Pure.move rfl) ?_
  refine Ops.go rfl (Loud.callO fn95 rfl (fun w hw => f_s_l02Draw _ w b vc co _ _ _ 5 (Sat.front 1 rfl hw) hc hb hcl (by omega) (by omega) (by omega))) ?_
  rintro v5 L5 hQ5
  obtain ⟨a5, c5, l5, x5, q5, sd5, ha5, hA5, hc5, hC5, hk5, h5, hq5, rfl, rfl⟩ := hQ5
  refine Ops.go rfl (Loud.alloc zero35 rfl) ?_
  rintro _ _ ⟨b3, rfl, rfl⟩
  refine Ops.store (Stores.box 0 rfl rfl rfl size35 (one3 h5) rfl rfl) ?_
  refine Ops.nil ?_
  refine Run.seq ?_
  refine Run.seq ?_
  have hl5 := okP_inn hk5
  have hib5 := (inn_eq (okP_size hk5)).2.1
  refine Run.region ?_
  refine Ops.pure rfl (Pure.move rfl) ?_
  refine Ops.go rfl (Loud.callO fn118 rfl (fun w hw => f_s_l00Src_pick _ w _ vc co _ _ _ 20 (Sat.front 2 rfl hw) hc hb hcl (by omega) (by omega))) ?_
  rintro v7 L7 hQ7
  obtain ⟨x7, q7, sd7, hx7, hy7, hq7, rfl, rfl⟩ := hQ7
  refine Ops.nil ?_
  refine Run.block ?_
  refine Run.seq ?_
  refine Run.region ?_
  refine Ops.pure rfl (Pure.eql rfl rfl) ?_
  refine Ops.pure rfl (Pure.assign rfl) ?_
  refine Ops.nil ?_
  refine Run.cond rfl (fun c8 => ?_) (fun c8 => ?_)
  · skip
    replace c8 := dT c8
    refine Run.region ?_
    refine Ops.pure rfl (Pure.move rfl) ?_
    refine Ops.go rfl (Loud.lit sl32 rfl rfl rfl (by simp [Value.oneCell'])) ?_
    rintro v11 _ rfl
    refine Ops.go rfl (Loud.callO fn117 rfl (fun w hw => f_s_l00Src_among _ w _ vc co _ _ _ _ [0, 8, 9, -9223372036854775808] (Sat.front 1 rfl hw) hc hb hcl (by omega) (RdL.own 1 rfl) (fun _ _ => RdL.own 1 rfl) (by decide) (by decide))) ?_
    rintro v12 L12 hQ12
    obtain ⟨x12, q12, sd12, hx12, hq12, rfl, rfl⟩ := hQ12
    have hxb12 : -9223372036854775808 ≤ x12 ∧ x12 ≤ 9 := by
      simp only [List.mem_cons, List.not_mem_nil, or_false] at hx12
      omega
    refine Ops.pure rfl (Pure.fieldAddrB fld35_0 rfl) ?_
    refine Ops.store (Stores.box 2 rfl rfl rfl size2 (allOne rfl) rfl rfl) ?_
    refine Ops.nil ?_
    refine Run.blk ?_
    refine Run.seq ?_
    first
      | refine Run.ext_ (L' := .box b3 35 [_, _, x5] :: .row 2 1 x5 _ _ :: srcE b vc _ _ :: .box b2 35 [.int .i64 0, .int .i64 0, .slice none 0 0] :: F) (Ext.take 2 rfl (Ext.take 2 rfl (Ext.take 0 rfl (Ext.right [_] _)))) ?_
      | refine Run.ext_ (L' := .box b3 35 [_, _, v19] :: .row 2 1 v19 _ _ :: srcE b vc _ _ :: .box b2 35 [.int .i64 0, .int .i64 0, .slice none 0 0] :: F) (Ext.take 2 rfl (Ext.take 2 rfl (Ext.take 1 rfl (Ext.right [_] _)))) ?_
      | refine Run.ext_ (L' := .box b3 35 [_, _, x5] :: .row 2 1 x5 _ _ :: srcE b vc _ _ :: .box b2 35 [.int .i64 0, .int .i64 0, .slice none 0 0] :: F) (Ext.take 1 rfl (Ext.take 1 rfl (Ext.take 0 rfl (Ext.right [] _)))) ?_
      | refine Run.ext_ (L' := .box b3 35 [_, _, x40] :: .row 2 1 x40 _ _ :: srcE b vc _ _ :: .box b2 35 [.int .i64 0, .int .i64 0, .slice none 0 0] :: F) (Ext.take 2 rfl (Ext.take 0 rfl (Ext.take 0 rfl (Ext.right [_] _)))) ?_
    refine Run.region ?_
    refine Ops.pure rfl (Pure.ldBA 0 rfl cell35 rfl rfl rfl) ?_
    first
      | refine Ops.store (Stores.box 3 rfl rfl rfl size35 (one3 h5) rfl rfl) ?_
      | refine Ops.store (Stores.box 3 rfl rfl rfl size35 (one3 h19) rfl rfl) ?_
      | refine Ops.store (Stores.box 3 rfl rfl rfl size35 (one3 h40) rfl rfl) ?_
    refine Ops.nil ?_
    refine Run.retCx 3 rfl rfl rfl cell35 rfl (Ext.take 1 rfl (Ext.take 1 rfl (Ext.right [_, _] _))) ?_
    first
      | exact ⟨x12, c5, l5, x5, q12, sd12, hxb12.1, hxb12.2, by omega, by omega, by omega, h5, by omega, rfl, rfl⟩
      | exact ⟨a5, c5, l5 ++ [0], v19, q7, sd7, by omega, by omega, by omega, by omega, by rw [List.length_append, List.length_singleton]; omega, h19, by omega, rfl, by rw [List.length_append, List.length_singleton, ints, ints, List.map_append]; rfl⟩
      | exact ⟨a5, c5, l5.set n33 x36, x5, q36, sd36, by omega, by omega, by omega, by omega, by rw [List.length_set]; omega, h5, by omega, rfl, by rw [List.length_set, ints_set1]⟩
      | exact ⟨a5, c5, l5, x5, q7, sd7, by omega, by omega, by omega, by omega, by omega, h5, by omega, rfl, rfl⟩
      | exact ⟨8, 8, List.replicate (inn 8 8) 0, x40, q7, sd7, by omega, by omega, by omega, by omega, by rw [List.length_replicate]; decide, h40, by omega, rfl, by rw [List.length_replicate]⟩
  · skip
    replace c8 := dF c8
    refine Run.seq ?_
    refine Run.region ?_
    refine Ops.pure rfl (Pure.eql rfl rfl) ?_
    refine Ops.pure rfl (Pure.assign rfl) ?_
    refine Ops.nil ?_
    refine Run.cond rfl (fun c14 => ?_) (fun c14 => ?_)
    · skip
      replace c14 := dT c14
      refine Run.region ?_
      refine Ops.pure rfl (Pure.fieldAddrB fld35_2 rfl) ?_
      refine Ops.pure rfl (Pure.ldB 1 rfl cell32 rfl rfl) ?_
      refine Ops.go rfl (Loud.lit sl32 rfl rfl rfl (by simp [Value.oneCell'])) ?_
      rintro v18 _ rfl
      refine Ops.go rfl (Loud.append 3 rfl sl32 rfl rfl (RdL.own 0 rfl) (by simp [Value.oneCell']) (by omega) (by omega)) ?_
      rintro v19 _ rfl
      refine Ops.pure rfl (Pure.fieldAddrB fld35_2 rfl) ?_
      refine Ops.have_ (fun w hw => row_one 3 hw rfl) (fun h19 => ?_)
      refine Ops.store (Stores.box1 2 rfl rfl rfl size32 h19 rfl) ?_
      refine Ops.nil ?_
      refine Run.blk ?_
      refine Run.seq ?_
      first
        | refine Run.ext_ (L' := .box b3 35 [_, _, x5] :: .row 2 1 x5 _ _ :: srcE b vc _ _ :: .box b2 35 [.int .i64 0, .int .i64 0, .slice none 0 0] :: F) (Ext.take 2 rfl (Ext.take 2 rfl (Ext.take 0 rfl (Ext.right [_] _)))) ?_
        | refine Run.ext_ (L' := .box b3 35 [_, _, v19] :: .row 2 1 v19 _ _ :: srcE b vc _ _ :: .box b2 35 [.int .i64 0, .int .i64 0, .slice none 0 0] :: F) (Ext.take 2 rfl (Ext.take 2 rfl (Ext.take 1 rfl (Ext.right [_] _)))) ?_
        | refine Run.ext_ (L' := .box b3 35 [_, _, x5] :: .row 2 1 x5 _ _ :: srcE b vc _ _ :: .box b2 35 [.int .i64 0, .int .i64 0, .slice none 0 0] :: F) (Ext.take 1 rfl (Ext.take 1 rfl (Ext.take 0 rfl (Ext.right [] _)))) ?_
        | refine Run.ext_ (L' := .box b3 35 [_, _, x40] :: .row 2 1 x40 _ _ :: srcE b vc _ _ :: .box b2 35 [.int .i64 0, .int .i64 0, .slice none 0 0] :: F) (Ext.take 2 rfl (Ext.take 0 rfl (Ext.take 0 rfl (Ext.right [_] _)))) ?_
      refine Run.region ?_
      refine Ops.pure rfl (Pure.ldBA 0 rfl cell35 rfl rfl rfl) ?_
      first
        | refine Ops.store (Stores.box 3 rfl rfl rfl size35 (one3 h5) rfl rfl) ?_
        | refine Ops.store (Stores.box 3 rfl rfl rfl size35 (one3 h19) rfl rfl) ?_
        | refine Ops.store (Stores.box 3 rfl rfl rfl size35 (one3 h40) rfl rfl) ?_
      refine Ops.nil ?_
      refine Run.retCx 3 rfl rfl rfl cell35 rfl (Ext.take 1 rfl (Ext.take 1 rfl (Ext.right [_, _] _))) ?_
      first
        | exact ⟨x12, c5, l5, x5, q12, sd12, hxb12.1, hxb12.2, by omega, by omega, by omega, h5, by omega, rfl, rfl⟩
        | exact ⟨a5, c5, l5 ++ [0], v19, q7, sd7, by omega, by omega, by omega, by omega, by rw [List.length_append, List.length_singleton]; omega, h19, by omega, rfl, by rw [List.length_append, List.length_singleton, ints, ints, List.map_append]; rfl⟩
        | exact ⟨a5, c5, l5.set n33 x36, x5, q36, sd36, by omega, by omega, by omega, by omega, by rw [List.length_set]; omega, h5, by omega, rfl, by rw [List.length_set, ints_set1]⟩
        | exact ⟨a5, c5, l5, x5, q7, sd7, by omega, by omega, by omega, by omega, by omega, h5, by omega, rfl, rfl⟩
        | exact ⟨8, 8, List.replicate (inn 8 8) 0, x40, q7, sd7, by omega, by omega, by omega, by omega, by rw [List.length_replicate]; decide, h40, by omega, rfl, by rw [List.length_replicate]⟩
    · skip
      replace c14 := dF c14
      refine Run.seq ?_
      refine Run.region ?_
      refine Ops.pure rfl (Pure.eql rfl rfl) ?_
      refine Ops.pure rfl (Pure.assign rfl) ?_
      refine Ops.nil ?_
      refine Run.cond rfl (fun c21 => ?_) (fun c21 => ?_)
      · skip
        replace c21 := dT c21
        refine Run.seq ?_
        refine Run.region ?_
        refine Ops.pure rfl (Pure.fieldAddrB fld35_2 rfl) ?_
        refine Ops.pure rfl (Pure.ldB 1 rfl cell32 rfl rfl) ?_
        refine Ops.pure rfl (Pure.len sl32 (RdL.own 2 rfl) rfl) ?_
        refine Ops.pure rfl (Pure.gtr rfl rfl) ?_
        refine Ops.nil ?_
        refine Run.cond rfl (fun c26 => ?_) (fun c26 => ?_)
        · skip
          replace c26 := dT c26
          refine AnyK.start ([.box b3 35 [.int .i64 a5, .int .i64 c5, x5]]) follows (Ext.take 1 rfl (Ext.nil _)) ?_
          refine AnyK.take 0 rfl (by kernel_rfl) rfl (QOp.pure (Pure.fieldAddrB fld35_2 rfl)) ?_
          refine AnyK.take 1 rfl (by kernel_rfl) rfl (QOp.pure (Pure.ldB 0 rfl cell32 rfl rfl)) ?_
          refine AnyK.take 2 rfl (by kernel_rfl) rfl (QOp.pure (Pure.move rfl)) ?_
          refine AnyK.take 3 rfl (by kernel_rfl) rfl (QOp.pure (Pure.fieldAddrB fld35_2 rfl)) ?_
          refine AnyK.take 4 rfl (by kernel_rfl) rfl (QOp.pure (Pure.ldB 0 rfl cell32 rfl rfl)) ?_
          refine AnyK.take 7 rfl (by kernel_rfl) rfl (QOp.pure (Pure.move rfl)) ?_
          refine AnyK.two 5 8 (by kernel_rfl) ?_ ?_
          · skip
            refine OneK.q rfl rfl (QOp.pure (Pure.len sl32 (RdL.own 2 rfl) rfl)) ?_
            refine AnyK.two 6 8 (by kernel_rfl) ?_ ?_
            · skip
              refine OneK.loud rfl rfl (Loud.callO fn118 rfl (fun w hw => f_s_l00Src_pick _ w _ vc co _ _ _ l5.length (by first | exact Sat.front 0 rfl hw | exact Sat.front 1 rfl hw) hc hb hcl (by omega) (by omega))) ?_
              rintro v33 L33 hQ33
              obtain ⟨x33, q33, sd33, hx33, hy33, hq33, rfl, rfl⟩ := hQ33
              obtain ⟨n33, rfl⟩ := Int.eq_ofNat_of_zero_le hx33
              have hn33 : n33 < l5.length := by omega
              have hil : (ints l5).length = l5.length := by rw [ints, List.length_map]
              refine ⟨(by first | exact Ext.take 0 rfl (Ext.nil _) | exact Ext.take 1 rfl (Ext.nil _) | exact Ext.take 2 rfl (Ext.nil _)), ?_⟩
              refine AnyK.one 8 (by kernel_rfl) ?_
              refine OneK.loud rfl rfl (Loud.lit sl32 rfl rfl rfl (by simp [Value.oneCell'])) ?_
              rintro v35 _ rfl
              refine ⟨(by first | exact Ext.take 0 rfl (Ext.nil _) | exact Ext.take 1 rfl (Ext.nil _) | exact Ext.take 2 rfl (Ext.nil _)), ?_⟩
              refine AnyK.one 9 (by kernel_rfl) ?_
              refine OneK.loud rfl rfl (Loud.callO fn117 rfl (fun w hw => f_s_l00Src_among _ w _ vc co _ _ _ _ [-1, 2, 3] (by first | exact Sat.front 0 rfl hw | exact Sat.front 1 rfl hw) hc hb hcl (by omega) (RdL.own 1 rfl) (fun _ _ => RdL.own 1 rfl) (by decide) (by decide))) ?_
              rintro v36 L36 hQ36
              obtain ⟨x36, q36, sd36, hx36, hq36, rfl, rfl⟩ := hQ36
              have hxb36 : -1 ≤ x36 ∧ x36 ≤ 3 := by
                simp only [List.mem_cons, List.not_mem_nil, or_false] at hx36
                omega
              refine ⟨(by first | exact Ext.take 0 rfl (Ext.nil _) | exact Ext.take 1 rfl (Ext.nil _) | exact Ext.take 2 rfl (Ext.nil _)), ?_⟩
              refine AnyK.one 10 (by kernel_rfl) ?_
              refine OneK.q rfl rfl (QOp.pure (Pure.idx1N sl32 (RdL.own 3 rfl) rfl rfl (by first | assumption | omega | (simp; omega)))) ?_
              refine AnyK.one 11 (by kernel_rfl) ?_
              refine OneK.store rfl (Stores.row1 3 rfl size2 rfl rfl rfl (by first | assumption | omega | (simp; omega))) (by first | exact Ext.take 0 rfl (Ext.nil _) | exact Ext.take 1 rfl (Ext.nil _) | exact Ext.take 2 rfl (Ext.nil _)) ?_
              refine AnyK.done (by kernel_rfl) ?_
              refine Run.blk ?_
              refine Run.seq ?_
              first
                | refine Run.ext_ (L' := .box b3 35 [_, _, x5] :: .row 2 1 x5 _ _ :: srcE b vc _ _ :: .box b2 35 [.int .i64 0, .int .i64 0, .slice none 0 0] :: F) (Ext.take 2 rfl (Ext.take 2 rfl (Ext.take 0 rfl (Ext.right [_] _)))) ?_
                | refine Run.ext_ (L' := .box b3 35 [_, _, v19] :: .row 2 1 v19 _ _ :: srcE b vc _ _ :: .box b2 35 [.int .i64 0, .int .i64 0, .slice none 0 0] :: F) (Ext.take 2 rfl (Ext.take 2 rfl (Ext.take 1 rfl (Ext.right [_] _)))) ?_
                | refine Run.ext_ (L' := .box b3 35 [_, _, x5] :: .row 2 1 x5 _ _ :: srcE b vc _ _ :: .box b2 35 [.int .i64 0, .int .i64 0, .slice none 0 0] :: F) (Ext.take 1 rfl (Ext.take 1 rfl (Ext.take 0 rfl (Ext.right [] _)))) ?_
                | refine Run.ext_ (L' := .box b3 35 [_, _, x40] :: .row 2 1 x40 _ _ :: srcE b vc _ _ :: .box b2 35 [.int .i64 0, .int .i64 0, .slice none 0 0] :: F) (Ext.take 2 rfl (Ext.take 0 rfl (Ext.take 0 rfl (Ext.right [_] _)))) ?_
              refine Run.region ?_
              refine Ops.pure rfl (Pure.ldBA 0 rfl cell35 rfl rfl rfl) ?_
              first
                | refine Ops.store (Stores.box 3 rfl rfl rfl size35 (one3 h5) rfl rfl) ?_
                | refine Ops.store (Stores.box 3 rfl rfl rfl size35 (one3 h19) rfl rfl) ?_
                | refine Ops.store (Stores.box 3 rfl rfl rfl size35 (one3 h40) rfl rfl) ?_
              refine Ops.nil ?_
              refine Run.retCx 3 rfl rfl rfl cell35 rfl (Ext.take 1 rfl (Ext.take 1 rfl (Ext.right [_, _] _))) ?_
              first
                | exact ⟨x12, c5, l5, x5, q12, sd12, hxb12.1, hxb12.2, by omega, by omega, by omega, h5, by omega, rfl, rfl⟩
                | exact ⟨a5, c5, l5 ++ [0], v19, q7, sd7, by omega, by omega, by omega, by omega, by rw [List.length_append, List.length_singleton]; omega, h19, by omega, rfl, by rw [List.length_append, List.length_singleton, ints, ints, List.map_append]; rfl⟩
                | exact ⟨a5, c5, l5.set n33 x36, x5, q36, sd36, by omega, by omega, by omega, by omega, by rw [List.length_set]; omega, h5, by omega, rfl, by rw [List.length_set, ints_set1]⟩
                | exact ⟨a5, c5, l5, x5, q7, sd7, by omega, by omega, by omega, by omega, by omega, h5, by omega, rfl, rfl⟩
                | exact ⟨8, 8, List.replicate (inn 8 8) 0, x40, q7, sd7, by omega, by omega, by omega, by omega, by rw [List.length_replicate]; decide, h40, by omega, rfl, by rw [List.length_replicate]⟩
            · skip
              refine OneK.loud rfl rfl (Loud.lit sl32 rfl rfl rfl (by simp [Value.oneCell'])) ?_
              rintro v35 _ rfl
              refine ⟨(by first | exact Ext.take 0 rfl (Ext.nil _) | exact Ext.take 1 rfl (Ext.nil _) | exact Ext.take 2 rfl (Ext.nil _)), ?_⟩
              refine AnyK.one 6 (by kernel_rfl) ?_
              refine OneK.loud rfl rfl (Loud.callO fn118 rfl (fun w hw => f_s_l00Src_pick _ w _ vc co _ _ _ l5.length (by first | exact Sat.front 0 rfl hw | exact Sat.front 1 rfl hw) hc hb hcl (by omega) (by omega))) ?_
              rintro v33 L33 hQ33
              obtain ⟨x33, q33, sd33, hx33, hy33, hq33, rfl, rfl⟩ := hQ33
              obtain ⟨n33, rfl⟩ := Int.eq_ofNat_of_zero_le hx33
              have hn33 : n33 < l5.length := by omega
              have hil : (ints l5).length = l5.length := by rw [ints, List.length_map]
              refine ⟨(by first | exact Ext.take 0 rfl (Ext.nil _) | exact Ext.take 1 rfl (Ext.nil _) | exact Ext.take 2 rfl (Ext.nil _)), ?_⟩
              refine AnyK.one 9 (by kernel_rfl) ?_
              refine OneK.loud rfl rfl (Loud.callO fn117 rfl (fun w hw => f_s_l00Src_among _ w _ vc co _ _ _ _ [-1, 2, 3] (by first | exact Sat.front 0 rfl hw | exact Sat.front 1 rfl hw) hc hb hcl (by omega) (RdL.own 1 rfl) (fun _ _ => RdL.own 1 rfl) (by decide) (by decide))) ?_
              rintro v36 L36 hQ36
              obtain ⟨x36, q36, sd36, hx36, hq36, rfl, rfl⟩ := hQ36
              have hxb36 : -1 ≤ x36 ∧ x36 ≤ 3 := by
                simp only [List.mem_cons, List.not_mem_nil, or_false] at hx36
                omega
              refine ⟨(by first | exact Ext.take 0 rfl (Ext.nil _) | exact Ext.take 1 rfl (Ext.nil _) | exact Ext.take 2 rfl (Ext.nil _)), ?_⟩
              refine AnyK.one 10 (by kernel_rfl) ?_
              refine OneK.q rfl rfl (QOp.pure (Pure.idx1N sl32 (RdL.own 3 rfl) rfl rfl (by first | assumption | omega | (simp; omega)))) ?_
              refine AnyK.one 11 (by kernel_rfl) ?_
              refine OneK.store rfl (Stores.row1 3 rfl size2 rfl rfl rfl (by first | assumption | omega | (simp; omega))) (by first | exact Ext.take 0 rfl (Ext.nil _) | exact Ext.take 1 rfl (Ext.nil _) | exact Ext.take 2 rfl (Ext.nil _)) ?_
              refine AnyK.done (by kernel_rfl) ?_
              refine Run.blk ?_
              refine Run.seq ?_
              first
                | refine Run.ext_ (L' := .box b3 35 [_, _, x5] :: .row 2 1 x5 _ _ :: srcE b vc _ _ :: .box b2 35 [.int .i64 0, .int .i64 0, .slice none 0 0] :: F) (Ext.take 2 rfl (Ext.take 2 rfl (Ext.take 0 rfl (Ext.right [_] _)))) ?_
                | refine Run.ext_ (L' := .box b3 35 [_, _, v19] :: .row 2 1 v19 _ _ :: srcE b vc _ _ :: .box b2 35 [.int .i64 0, .int .i64 0, .slice none 0 0] :: F) (Ext.take 2 rfl (Ext.take 2 rfl (Ext.take 1 rfl (Ext.right [_] _)))) ?_
                | refine Run.ext_ (L' := .box b3 35 [_, _, x5] :: .row 2 1 x5 _ _ :: srcE b vc _ _ :: .box b2 35 [.int .i64 0, .int .i64 0, .slice none 0 0] :: F) (Ext.take 1 rfl (Ext.take 1 rfl (Ext.take 0 rfl (Ext.right [] _)))) ?_
                | refine Run.ext_ (L' := .box b3 35 [_, _, x40] :: .row 2 1 x40 _ _ :: srcE b vc _ _ :: .box b2 35 [.int .i64 0, .int .i64 0, .slice none 0 0] :: F) (Ext.take 2 rfl (Ext.take 0 rfl (Ext.take 0 rfl (Ext.right [_] _)))) ?_
              refine Run.region ?_
              refine Ops.pure rfl (Pure.ldBA 0 rfl cell35 rfl rfl rfl) ?_
              first
                | refine Ops.store (Stores.box 3 rfl rfl rfl size35 (one3 h5) rfl rfl) ?_
                | refine Ops.store (Stores.box 3 rfl rfl rfl size35 (one3 h19) rfl rfl) ?_
                | refine Ops.store (Stores.box 3 rfl rfl rfl size35 (one3 h40) rfl rfl) ?_
              refine Ops.nil ?_
              refine Run.retCx 3 rfl rfl rfl cell35 rfl (Ext.take 1 rfl (Ext.take 1 rfl (Ext.right [_, _] _))) ?_
              first
                | exact ⟨x12, c5, l5, x5, q12, sd12, hxb12.1, hxb12.2, by omega, by omega, by omega, h5, by omega, rfl, rfl⟩
                | exact ⟨a5, c5, l5 ++ [0], v19, q7, sd7, by omega, by omega, by omega, by omega, by rw [List.length_append, List.length_singleton]; omega, h19, by omega, rfl, by rw [List.length_append, List.length_singleton, ints, ints, List.map_append]; rfl⟩
                | exact ⟨a5, c5, l5.set n33 x36, x5, q36, sd36, by omega, by omega, by omega, by omega, by rw [List.length_set]; omega, h5, by omega, rfl, by rw [List.length_set, ints_set1]⟩
                | exact ⟨a5, c5, l5, x5, q7, sd7, by omega, by omega, by omega, by omega, by omega, h5, by omega, rfl, rfl⟩
                | exact ⟨8, 8, List.replicate (inn 8 8) 0, x40, q7, sd7, by omega, by omega, by omega, by omega, by rw [List.length_replicate]; decide, h40, by omega, rfl, by rw [List.length_replicate]⟩
          · skip
            refine OneK.loud rfl rfl (Loud.lit sl32 rfl rfl rfl (by simp [Value.oneCell'])) ?_
            rintro v35 _ rfl
            refine ⟨(by first | exact Ext.take 0 rfl (Ext.nil _) | exact Ext.take 1 rfl (Ext.nil _) | exact Ext.take 2 rfl (Ext.nil _)), ?_⟩
            refine AnyK.one 5 (by kernel_rfl) ?_
            refine OneK.q rfl rfl (QOp.pure (Pure.len sl32 (RdL.own 3 rfl) rfl)) ?_
            refine AnyK.one 6 (by kernel_rfl) ?_
            refine OneK.loud rfl rfl (Loud.callO fn118 rfl (fun w hw => f_s_l00Src_pick _ w _ vc co _ _ _ l5.length (by first | exact Sat.front 0 rfl hw | exact Sat.front 1 rfl hw) hc hb hcl (by omega) (by omega))) ?_
            rintro v33 L33 hQ33
            obtain ⟨x33, q33, sd33, hx33, hy33, hq33, rfl, rfl⟩ := hQ33
            obtain ⟨n33, rfl⟩ := Int.eq_ofNat_of_zero_le hx33
            have hn33 : n33 < l5.length := by omega
            have hil : (ints l5).length = l5.length := by rw [ints, List.length_map]
            refine ⟨(by first | exact Ext.take 0 rfl (Ext.nil _) | exact Ext.take 1 rfl (Ext.nil _) | exact Ext.take 2 rfl (Ext.nil _)), ?_⟩
            refine AnyK.one 9 (by kernel_rfl) ?_
            refine OneK.loud rfl rfl (Loud.callO fn117 rfl (fun w hw => f_s_l00Src_among _ w _ vc co _ _ _ _ [-1, 2, 3] (by first | exact Sat.front 0 rfl hw | exact Sat.front 1 rfl hw) hc hb hcl (by omega) (RdL.own 1 rfl) (fun _ _ => RdL.own 1 rfl) (by decide) (by decide))) ?_
            rintro v36 L36 hQ36
            obtain ⟨x36, q36, sd36, hx36, hq36, rfl, rfl⟩ := hQ36
            have hxb36 : -1 ≤ x36 ∧ x36 ≤ 3 := by
              simp only [List.mem_cons, List.not_mem_nil, or_false] at hx36
              omega
            refine ⟨(by first | exact Ext.take 0 rfl (Ext.nil _) | exact Ext.take 1 rfl (Ext.nil _) | exact Ext.take 2 rfl (Ext.nil _)), ?_⟩
            refine AnyK.one 10 (by kernel_rfl) ?_
            refine OneK.q rfl rfl (QOp.pure (Pure.idx1N sl32 (RdL.own 3 rfl) rfl rfl (by first | assumption | omega | (simp; omega)))) ?_
            refine AnyK.one 11 (by kernel_rfl) ?_
            refine OneK.store rfl (Stores.row1 3 rfl size2 rfl rfl rfl (by first | assumption | omega | (simp; omega))) (by first | exact Ext.take 0 rfl (Ext.nil _) | exact Ext.take 1 rfl (Ext.nil _) | exact Ext.take 2 rfl (Ext.nil _)) ?_
            refine AnyK.done (by kernel_rfl) ?_
            refine Run.blk ?_
            refine Run.seq ?_
            first
              | refine Run.ext_ (L' := .box b3 35 [_, _, x5] :: .row 2 1 x5 _ _ :: srcE b vc _ _ :: .box b2 35 [.int .i64 0, .int .i64 0, .slice none 0 0] :: F) (Ext.take 2 rfl (Ext.take 2 rfl (Ext.take 0 rfl (Ext.right [_] _)))) ?_
              | refine Run.ext_ (L' := .box b3 35 [_, _, v19] :: .row 2 1 v19 _ _ :: srcE b vc _ _ :: .box b2 35 [.int .i64 0, .int .i64 0, .slice none 0 0] :: F) (Ext.take 2 rfl (Ext.take 2 rfl (Ext.take 1 rfl (Ext.right [_] _)))) ?_
              | refine Run.ext_ (L' := .box b3 35 [_, _, x5] :: .row 2 1 x5 _ _ :: srcE b vc _ _ :: .box b2 35 [.int .i64 0, .int .i64 0, .slice none 0 0] :: F) (Ext.take 1 rfl (Ext.take 1 rfl (Ext.take 0 rfl (Ext.right [] _)))) ?_
              | refine Run.ext_ (L' := .box b3 35 [_, _, x40] :: .row 2 1 x40 _ _ :: srcE b vc _ _ :: .box b2 35 [.int .i64 0, .int .i64 0, .slice none 0 0] :: F) (Ext.take 2 rfl (Ext.take 0 rfl (Ext.take 0 rfl (Ext.right [_] _)))) ?_
            refine Run.region ?_
            refine Ops.pure rfl (Pure.ldBA 0 rfl cell35 rfl rfl rfl) ?_
            first
              | refine Ops.store (Stores.box 3 rfl rfl rfl size35 (one3 h5) rfl rfl) ?_
              | refine Ops.store (Stores.box 3 rfl rfl rfl size35 (one3 h19) rfl rfl) ?_
              | refine Ops.store (Stores.box 3 rfl rfl rfl size35 (one3 h40) rfl rfl) ?_
            refine Ops.nil ?_
            refine Run.retCx 3 rfl rfl rfl cell35 rfl (Ext.take 1 rfl (Ext.take 1 rfl (Ext.right [_, _] _))) ?_
            first
              | exact ⟨x12, c5, l5, x5, q12, sd12, hxb12.1, hxb12.2, by omega, by omega, by omega, h5, by omega, rfl, rfl⟩
              | exact ⟨a5, c5, l5 ++ [0], v19, q7, sd7, by omega, by omega, by omega, by omega, by rw [List.length_append, List.length_singleton]; omega, h19, by omega, rfl, by rw [List.length_append, List.length_singleton, ints, ints, List.map_append]; rfl⟩
              | exact ⟨a5, c5, l5.set n33 x36, x5, q36, sd36, by omega, by omega, by omega, by omega, by rw [List.length_set]; omega, h5, by omega, rfl, by rw [List.length_set, ints_set1]⟩
              | exact ⟨a5, c5, l5, x5, q7, sd7, by omega, by omega, by omega, by omega, by omega, h5, by omega, rfl, rfl⟩
              | exact ⟨8, 8, List.replicate (inn 8 8) 0, x40, q7, sd7, by omega, by omega, by omega, by omega, by rw [List.length_replicate]; decide, h40, by omega, rfl, by rw [List.length_replicate]⟩
        · skip
          replace c26 := dF c26
          refine Run.skip ?_
          refine Run.blk ?_
          refine Run.seq ?_
          first
            | refine Run.ext_ (L' := .box b3 35 [_, _, x5] :: .row 2 1 x5 _ _ :: srcE b vc _ _ :: .box b2 35 [.int .i64 0, .int .i64 0, .slice none 0 0] :: F) (Ext.take 2 rfl (Ext.take 2 rfl (Ext.take 0 rfl (Ext.right [_] _)))) ?_
            | refine Run.ext_ (L' := .box b3 35 [_, _, v19] :: .row 2 1 v19 _ _ :: srcE b vc _ _ :: .box b2 35 [.int .i64 0, .int .i64 0, .slice none 0 0] :: F) (Ext.take 2 rfl (Ext.take 2 rfl (Ext.take 1 rfl (Ext.right [_] _)))) ?_
            | refine Run.ext_ (L' := .box b3 35 [_, _, x5] :: .row 2 1 x5 _ _ :: srcE b vc _ _ :: .box b2 35 [.int .i64 0, .int .i64 0, .slice none 0 0] :: F) (Ext.take 1 rfl (Ext.take 1 rfl (Ext.take 0 rfl (Ext.right [] _)))) ?_
            | refine Run.ext_ (L' := .box b3 35 [_, _, x40] :: .row 2 1 x40 _ _ :: srcE b vc _ _ :: .box b2 35 [.int .i64 0, .int .i64 0, .slice none 0 0] :: F) (Ext.take 2 rfl (Ext.take 0 rfl (Ext.take 0 rfl (Ext.right [_] _)))) ?_
          refine Run.region ?_
          refine Ops.pure rfl (Pure.ldBA 0 rfl cell35 rfl rfl rfl) ?_
          first
            | refine Ops.store (Stores.box 3 rfl rfl rfl size35 (one3 h5) rfl rfl) ?_
            | refine Ops.store (Stores.box 3 rfl rfl rfl size35 (one3 h19) rfl rfl) ?_
            | refine Ops.store (Stores.box 3 rfl rfl rfl size35 (one3 h40) rfl rfl) ?_
          refine Ops.nil ?_
          refine Run.retCx 3 rfl rfl rfl cell35 rfl (Ext.take 1 rfl (Ext.take 1 rfl (Ext.right [_, _] _))) ?_
          first
            | exact ⟨x12, c5, l5, x5, q12, sd12, hxb12.1, hxb12.2, by omega, by omega, by omega, h5, by omega, rfl, rfl⟩
            | exact ⟨a5, c5, l5 ++ [0], v19, q7, sd7, by omega, by omega, by omega, by omega, by rw [List.length_append, List.length_singleton]; omega, h19, by omega, rfl, by rw [List.length_append, List.length_singleton, ints, ints, List.map_append]; rfl⟩
            | exact ⟨a5, c5, l5.set n33 x36, x5, q36, sd36, by omega, by omega, by omega, by omega, by rw [List.length_set]; omega, h5, by omega, rfl, by rw [List.length_set, ints_set1]⟩
            | exact ⟨a5, c5, l5, x5, q7, sd7, by omega, by omega, by omega, by omega, by omega, h5, by omega, rfl, rfl⟩
            | exact ⟨8, 8, List.replicate (inn 8 8) 0, x40, q7, sd7, by omega, by omega, by omega, by omega, by rw [List.length_replicate]; decide, h40, by omega, rfl, by rw [List.length_replicate]⟩
      · skip
        replace c21 := dF c21
        refine Run.seq ?_
        refine Run.region ?_
        refine Ops.pure rfl (Pure.eql rfl rfl) ?_
        refine Ops.pure rfl (Pure.assign rfl) ?_
        refine Ops.nil ?_
        refine Run.cond rfl (fun c38 => ?_) (fun c38 => ?_)
        · skip
          replace c38 := dT c38
          refine Run.region ?_
          refine Ops.go rfl (Loud.callR fn170 rfl (fun w hw => f_s_l02New w 8 8 (by unfold SizeOk; omega))) ?_
          rintro v40 _ ⟨L40, hQ40, rfl⟩
          obtain ⟨x40, h40, rfl, rfl⟩ := hQ40
          refine Ops.store (Stores.box 2 rfl rfl rfl size35 (one3 h40) rfl rfl) ?_
          refine Ops.nil ?_
          refine Run.blk ?_
          refine Run.seq ?_
          first
            | refine Run.ext_ (L' := .box b3 35 [_, _, x5] :: .row 2 1 x5 _ _ :: srcE b vc _ _ :: .box b2 35 [.int .i64 0, .int .i64 0, .slice none 0 0] :: F) (Ext.take 2 rfl (Ext.take 2 rfl (Ext.take 0 rfl (Ext.right [_] _)))) ?_
            | refine Run.ext_ (L' := .box b3 35 [_, _, v19] :: .row 2 1 v19 _ _ :: srcE b vc _ _ :: .box b2 35 [.int .i64 0, .int .i64 0, .slice none 0 0] :: F) (Ext.take 2 rfl (Ext.take 2 rfl (Ext.take 1 rfl (Ext.right [_] _)))) ?_
            | refine Run.ext_ (L' := .box b3 35 [_, _, x5] :: .row 2 1 x5 _ _ :: srcE b vc _ _ :: .box b2 35 [.int .i64 0, .int .i64 0, .slice none 0 0] :: F) (Ext.take 1 rfl (Ext.take 1 rfl (Ext.take 0 rfl (Ext.right [] _)))) ?_
            | refine Run.ext_ (L' := .box b3 35 [_, _, x40] :: .row 2 1 x40 _ _ :: srcE b vc _ _ :: .box b2 35 [.int .i64 0, .int .i64 0, .slice none 0 0] :: F) (Ext.take 2 rfl (Ext.take 0 rfl (Ext.take 0 rfl (Ext.right [_] _)))) ?_
          refine Run.region ?_
          refine Ops.pure rfl (Pure.ldBA 0 rfl cell35 rfl rfl rfl) ?_
          first
            | refine Ops.store (Stores.box 3 rfl rfl rfl size35 (one3 h5) rfl rfl) ?_
            | refine Ops.store (Stores.box 3 rfl rfl rfl size35 (one3 h19) rfl rfl) ?_
            | refine Ops.store (Stores.box 3 rfl rfl rfl size35 (one3 h40) rfl rfl) ?_
          refine Ops.nil ?_
          refine Run.retCx 3 rfl rfl rfl cell35 rfl (Ext.take 1 rfl (Ext.take 1 rfl (Ext.right [_, _] _))) ?_
          first
            | exact ⟨x12, c5, l5, x5, q12, sd12, hxb12.1, hxb12.2, by omega, by omega, by omega, h5, by omega, rfl, rfl⟩
            | exact ⟨a5, c5, l5 ++ [0], v19, q7, sd7, by omega, by omega, by omega, by omega, by rw [List.length_append, List.length_singleton]; omega, h19, by omega, rfl, by rw [List.length_append, List.length_singleton, ints, ints, List.map_append]; rfl⟩
            | exact ⟨a5, c5, l5.set n33 x36, x5, q36, sd36, by omega, by omega, by omega, by omega, by rw [List.length_set]; omega, h5, by omega, rfl, by rw [List.length_set, ints_set1]⟩
            | exact ⟨a5, c5, l5, x5, q7, sd7, by omega, by omega, by omega, by omega, by omega, h5, by omega, rfl, rfl⟩
            | exact ⟨8, 8, List.replicate (inn 8 8) 0, x40, q7, sd7, by omega, by omega, by omega, by omega, by rw [List.length_replicate]; decide, h40, by omega, rfl, by rw [List.length_replicate]⟩
        · skip
          replace c38 := dF c38
          refine Run.skip ?_
          refine Run.blk ?_
          refine Run.seq ?_
          first
            | refine Run.ext_ (L' := .box b3 35 [_, _, x5] :: .row 2 1 x5 _ _ :: srcE b vc _ _ :: .box b2 35 [.int .i64 0, .int .i64 0, .slice none 0 0] :: F) (Ext.take 2 rfl (Ext.take 2 rfl (Ext.take 0 rfl (Ext.right [_] _)))) ?_
            | refine Run.ext_ (L' := .box b3 35 [_, _, v19] :: .row 2 1 v19 _ _ :: srcE b vc _ _ :: .box b2 35 [.int .i64 0, .int .i64 0, .slice none 0 0] :: F) (Ext.take 2 rfl (Ext.take 2 rfl (Ext.take 1 rfl (Ext.right [_] _)))) ?_
            | refine Run.ext_ (L' := .box b3 35 [_, _, x5] :: .row 2 1 x5 _ _ :: srcE b vc _ _ :: .box b2 35 [.int .i64 0, .int .i64 0, .slice none 0 0] :: F) (Ext.take 1 rfl (Ext.take 1 rfl (Ext.take 0 rfl (Ext.right [] _)))) ?_
            | refine Run.ext_ (L' := .box b3 35 [_, _, x40] :: .row 2 1 x40 _ _ :: srcE b vc _ _ :: .box b2 35 [.int .i64 0, .int .i64 0, .slice none 0 0] :: F) (Ext.take 2 rfl (Ext.take 0 rfl (Ext.take 0 rfl (Ext.right [_] _)))) ?_
          refine Run.region ?_
          refine Ops.pure rfl (Pure.ldBA 0 rfl cell35 rfl rfl rfl) ?_
          first
            | refine Ops.store (Stores.box 3 rfl rfl rfl size35 (one3 h5) rfl rfl) ?_
            | refine Ops.store (Stores.box 3 rfl rfl rfl size35 (one3 h19) rfl rfl) ?_
            | refine Ops.store (Stores.box 3 rfl rfl rfl size35 (one3 h40) rfl rfl) ?_
          refine Ops.nil ?_
          refine Run.retCx 3 rfl rfl rfl cell35 rfl (Ext.take 1 rfl (Ext.take 1 rfl (Ext.right [_, _] _))) ?_
          first
            | exact ⟨x12, c5, l5, x5, q12, sd12, hxb12.1, hxb12.2, by omega, by omega, by omega, h5, by omega, rfl, rfl⟩
            | exact ⟨a5, c5, l5 ++ [0], v19, q7, sd7, by omega, by omega, by omega, by omega, by rw [List.length_append, List.length_singleton]; omega, h19, by omega, rfl, by rw [List.length_append, List.length_singleton, ints, ints, List.map_append]; rfl⟩
            | exact ⟨a5, c5, l5.set n33 x36, x5, q36, sd36, by omega, by omega, by omega, by omega, by rw [List.length_set]; omega, h5, by omega, rfl, by rw [List.length_set, ints_set1]⟩
            | exact ⟨a5, c5, l5, x5, q7, sd7, by omega, by omega, by omega, by omega, by omega, h5, by omega, rfl, rfl⟩
            | exact ⟨8, 8, List.replicate (inn 8 8) 0, x40, q7, sd7, by omega, by omega, by omega, by omega, by rw [List.length_replicate]; decide, h40, by omega, rfl, by rw [List.length_replicate]⟩

set_option maxRecDepth 4000 in
set_option maxHeartbeats 800000 in
/-- spec.l02DrawPoint -/
theorem f_s_l02DrawPoint (w0 : World) (w : World) (b : Nat) (vc : Value) (co : List Int) (q : Nat) (sd : Int) (F : List Ent) (p : Nat) (a : Int) (c : Int) (v : Value) (l : List Int) (hw : Sat w0 w (srcE b vc q sd :: F)) (hc : Rd w0 vc 1 co.length (AW.bytes co)) (hb : ∀ x ∈ co, 0 ≤ x ∧ x ≤ 255) (hcl : co.length ≤ 1000000000) (hp : RdL w0 F (boxS p) 3 1 [.int .i64 a, .int .i64 c, v]) (hv : RdL w0 F v 1 l.length (ints l)) (hl : l.length ≤ 120) (a0 : -9223372036854775808 ≤ a) (a1 : a ≤ 9223372036854775807) (c0 : -9223372036854775808 ≤ c) (c1 : c ≤ 9223372036854775807) (hq : q ≤ 999980000) : RetO Try.prog 137 [.pointer (some ⟨b, 0, none⟩), .pointer (some ⟨p, 0, none⟩)] w0 w (fun u L => ∃ (x y : Int) (q' : Nat) (sd' : Int), -9223372036854775808 ≤ x ∧ x ≤ 9223372036854775807 ∧ -1 ≤ y ∧ y ≤ 16 ∧ q' ≤ q + 20 ∧ u = .agg #[.int .i64 x, .int .i64 y] ∧ L = srcE b vc q' sd' :: F) := by
  refine RetO.enter Try.func137 rfl Try.ntmps137 rfl hw ?_
  refine Run.seq ?_
  refine Run.region ?_
  refine Ops.go rfl (Loud.alloc zero72 rfl) ?_
  rintro _ _ ⟨b4, rfl, rfl⟩
  refine Ops.nil ?_
  refine Run.seq ?_
  refine Run.seq ?_
  refine Run.region ?_
  refine Ops.pure rfl (Pure.move rfl) ?_
  refine Ops.q rfl (QOp.call fn99 rfl (fun w hw => f_s_l02Ok w p a c v l (RdL.ext hp (by repeat (first | exact Ext.refl _ | apply Ext.skipc')) w hw) (RdL.ext hv (by repeat (first | exact Ext.refl _ | apply Ext.skipc')) w hw) (by omega) a0 a1 c0 c1)) ?_
  refine Ops.pure rfl (Pure.move rfl) ?_
  refine Ops.guard rfl rfl rfl rfl (fun c9 => ?_) (fun c9 => ?_)
  · skip
    have c9' := c9
    refine Ops.pure rfl (Pure.move rfl) ?_
    refine Ops.guardY rfl rfl rfl c9 ?_
    refine Ops.pure rfl (Pure.nilchk rfl) ?_
    refine Ops.guardY rfl rfl rfl c9 ?_
    refine Ops.pure rfl (Pure.fieldAddrB fld35_2 rfl) ?_
    refine Ops.guardY rfl rfl rfl c9 ?_
    refine Ops.pure rfl (Pure.ldP cell32 rfl (RdL.ext hp (by repeat (first | exact Ext.refl _ | apply Ext.skipc'))) rfl) ?_
    refine Ops.guardY rfl rfl rfl c9 ?_
    refine Ops.pure rfl (Pure.len sl32 (RdL.ext hv (by repeat (first | exact Ext.refl _ | apply Ext.skipc'))) rfl) ?_
    refine Ops.guardY rfl rfl rfl c9 ?_
    refine Ops.pure rfl (Pure.gtr rfl rfl) ?_
    refine Ops.pure rfl (Pure.pickT rfl c9 rfl) ?_
    refine Ops.pure rfl (Pure.move rfl) ?_
    refine Ops.guard rfl rfl rfl rfl (fun c17 => ?_) (fun c17 => ?_)
    · skip
      have c17' := dT c17
      refine Ops.pure rfl (Pure.move rfl) ?_
      refine Ops.guardY rfl rfl rfl c17 ?_
      refine Ops.go rfl (Loud.callO fn116 rfl (fun w hw => f_s_l00Src_one _ w b vc co _ _ _ 2 (Sat.front 1 rfl hw) hc hb hcl (by omega) (by omega))) ?_
      rintro v19 L19 hQ19
      obtain ⟨x19, q19, sd19, hq19, rfl, rfl⟩ := hQ19
      refine Ops.pure rfl (Pure.pickT rfl c17 rfl) ?_
      refine Ops.nil ?_
      refine Run.cond rfl (fun c20 => ?_) (fun c20 => ?_)
      · skip
        skip
        refine Run.seq ?_
        have hs := okP_size c9
        have hli := okP_inn c9
        refine Run.region ?_
        refine Ops.pure rfl (Pure.move rfl) ?_
        refine Ops.pure rfl (Pure.move rfl) ?_
        refine Ops.pure rfl (Pure.move rfl) ?_
        refine Ops.pure rfl (Pure.nilchk rfl) ?_
        refine Ops.pure rfl (Pure.fieldAddrB fld35_2 rfl) ?_
        refine Ops.pure rfl (Pure.ldP cell32 rfl (RdL.ext hp (by repeat (first | exact Ext.refl _ | apply Ext.skipc'))) rfl) ?_
        refine Ops.pure rfl (Pure.len sl32 (RdL.ext hv (by repeat (first | exact Ext.refl _ | apply Ext.skipc'))) rfl) ?_
        refine Ops.go rfl (Loud.callO fn118 rfl (fun w hw => f_s_l00Src_pick _ w b vc co _ _ _ l.length (Sat.front 0 rfl hw) hc hb hcl (by omega) (by omega))) ?_
        rintro v28 L28 hQ28
        obtain ⟨x28, q28, sd28, hx28, hy28, hq28, rfl, rfl⟩ := hQ28
        obtain ⟨n28, rfl⟩ := Int.eq_ofNat_of_zero_le hx28
        have hlp : 0 < l.length := by
          first
            | omega
            | (simp_all; omega)
        have hn28 : n28 < l.length := by omega
        obtain ⟨p1, p2, p3⟩ := pt_spec (k := (n28 : Int)) hs (by omega) (by omega)
        have hpm := ptOk_mid hs p1
        refine Ops.q rfl (QOp.call fn185 rfl (fun w hw => f_s_l02Point w p a c v n28 (RdL.ext hp (by repeat (first | exact Ext.refl _ | apply Ext.skipc')) w hw) hs (by omega))) ?_
        refine Ops.store (Stores.box 1 rfl rfl rfl size72 (allOne rfl) rfl rfl) ?_
        refine Ops.nil ?_
        refine Run.retCx 1 rfl rfl rfl cell72 rfl (Ext.take 0 rfl (Ext.right [_] _)) ?_
        exact ⟨_, _, q28, sd28, by omega, by omega, by omega, by omega, by omega, rfl, rfl⟩
      · skip
        skip
        refine Run.skip ?_
        refine Run.seq ?_
        refine Run.region ?_
        refine Ops.pure rfl (Pure.move rfl) ?_
        refine Ops.go rfl (Loud.callO fn118 rfl (fun w hw => f_s_l00Src_pick _ w b vc co _ _ _ 12 (by first | exact Sat.front 0 rfl hw | exact Sat.front 1 rfl hw) hc hb hcl (by omega) (by omega))) ?_
        rintro v31 L31 hQ31
        obtain ⟨x31, q31, sd31, hx31, hy31, hq31, rfl, rfl⟩ := hQ31
        refine Ops.pure rfl (Pure.sub rfl rfl (by omega) (by omega)) ?_
        refine Ops.pure rfl (Pure.assign rfl) ?_
        refine Ops.nil ?_
        refine Run.seq ?_
        refine Run.region ?_
        refine Ops.pure rfl (Pure.move rfl) ?_
        refine Ops.pure rfl (Pure.move rfl) ?_
        refine Ops.go rfl (Loud.callO fn118 rfl (fun w hw => f_s_l00Src_pick _ w b vc co _ _ _ 12 (Sat.front 0 rfl hw) hc hb hcl (by omega) (by omega))) ?_
        rintro v35 L35 hQ35
        obtain ⟨x35, q35, sd35, hx35, hy35, hq35, rfl, rfl⟩ := hQ35
        refine Ops.pure rfl (Pure.sub rfl rfl (by omega) (by omega)) ?_
        refine Ops.pure rfl (Pure.build rfl (bld72_2 _ _ (by first | rfl | assumption) (by first | rfl | assumption))) ?_
        refine Ops.go rfl (Loud.alloc zero72 rfl) ?_
        rintro _ _ ⟨b6, rfl, rfl⟩
        refine Ops.store (Stores.box 0 rfl rfl rfl size72 (allOne rfl) rfl rfl) ?_
        refine Ops.nil ?_
        refine Run.seq ?_
        refine Run.seq ?_
        refine Run.region ?_
        refine Ops.pure rfl (Pure.move rfl) ?_
        refine Ops.go rfl (Loud.callO fn116 rfl (fun w hw => f_s_l00Src_one _ w b vc co _ _ _ 20 (Sat.front 1 rfl hw) hc hb hcl (by omega) (by omega))) ?_
        rintro v39 L39 hQ39
        obtain ⟨x39, q39, sd39, hq39, rfl, rfl⟩ := hQ39
        refine Ops.nil ?_
        refine Run.cond rfl (fun c39 => ?_) (fun c39 => ?_)
        · skip
          skip
          refine Run.region ?_
          refine Ops.pure rfl (Pure.move rfl) ?_
          refine Ops.go rfl (Loud.lit sl32 rfl rfl rfl (by simp [Value.oneCell'])) ?_
          rintro v41 _ rfl
          refine Ops.go rfl (Loud.callO fn117 rfl (fun w hw => f_s_l00Src_among _ w _ vc co _ _ _ _ [-9223372036854775808, 9223372036854775807] (Sat.front 1 rfl hw) hc hb hcl (by omega) (RdL.own 1 rfl) (fun _ _ => RdL.own 1 rfl) (by decide) (by decide))) ?_
          rintro v42 L42 hQ42
          obtain ⟨x42, q42, sd42, hx42, hq42, rfl, rfl⟩ := hQ42
          have hxb42 : -9223372036854775808 ≤ x42 ∧ x42 ≤ 9223372036854775807 := by
            simp only [List.mem_cons, List.not_mem_nil, or_false] at hx42
            omega
          refine Ops.pure rfl (Pure.fieldAddrB fld72_0 rfl) ?_
          refine Ops.store (Stores.box 2 rfl rfl rfl size2 (allOne rfl) rfl rfl) ?_
          refine Ops.nil ?_
          refine Run.seq ?_
          refine Run.region ?_
          refine Ops.pure rfl (Pure.ldBA 2 rfl cell72 rfl rfl rfl) ?_
          refine Ops.store (Stores.box 3 rfl rfl rfl size72 (allOne rfl) rfl rfl) ?_
          refine Ops.nil ?_
          first
            | refine Run.ext_ (L' := _ :: .box b4 72 _ :: F) (Ext.take 0 rfl (Ext.right [_] _)) ?_
            | refine Run.ext_ (L' := _ :: .box b4 72 _ :: F) (Ext.take 0 rfl (Ext.right [_, _] _)) ?_
          refine Run.retCx 1 rfl rfl rfl cell72 rfl (Ext.take 0 rfl (Ext.right [_] _)) ?_
          first
            | exact ⟨x42, x35 - 1, q42, sd42, hxb42.1, hxb42.2, by omega, by omega, by omega, rfl, rfl⟩
            | exact ⟨x31 - 1, x35 - 1, q39, sd39, by omega, by omega, by omega, by omega, by omega, rfl, rfl⟩
        · skip
          skip
          refine Run.skip ?_
          refine Run.seq ?_
          refine Run.region ?_
          refine Ops.pure rfl (Pure.ldBA 1 rfl cell72 rfl rfl rfl) ?_
          refine Ops.store (Stores.box 2 rfl rfl rfl size72 (allOne rfl) rfl rfl) ?_
          refine Ops.nil ?_
          first
            | refine Run.ext_ (L' := _ :: .box b4 72 _ :: F) (Ext.take 0 rfl (Ext.right [_] _)) ?_
            | refine Run.ext_ (L' := _ :: .box b4 72 _ :: F) (Ext.take 0 rfl (Ext.right [_, _] _)) ?_
          refine Run.retCx 1 rfl rfl rfl cell72 rfl (Ext.take 0 rfl (Ext.right [_] _)) ?_
          first
            | exact ⟨x42, x35 - 1, q42, sd42, hxb42.1, hxb42.2, by omega, by omega, by omega, rfl, rfl⟩
            | exact ⟨x31 - 1, x35 - 1, q39, sd39, by omega, by omega, by omega, by omega, by omega, rfl, rfl⟩
    · skip
      replace c17 := Bool.eq_false_of_ne c17
      have c17' := dF c17
      refine Ops.guardN rfl rfl rfl rfl (by rw [c17]; decide) ?_
      refine Ops.pure rfl (Pure.pickF rfl c17 rfl) ?_
      refine Ops.nil ?_
      refine Run.condEF rfl rfl ?_
      refine Run.skip ?_
      refine Run.seq ?_
      refine Run.region ?_
      refine Ops.pure rfl (Pure.move rfl) ?_
      refine Ops.go rfl (Loud.callO fn118 rfl (fun w hw => f_s_l00Src_pick _ w b vc co _ _ _ 12 (by first | exact Sat.front 0 rfl hw | exact Sat.front 1 rfl hw) hc hb hcl (by omega) (by omega))) ?_
      rintro v31 L31 hQ31
      obtain ⟨x31, q31, sd31, hx31, hy31, hq31, rfl, rfl⟩ := hQ31
      refine Ops.pure rfl (Pure.sub rfl rfl (by omega) (by omega)) ?_
      refine Ops.pure rfl (Pure.assign rfl) ?_
      refine Ops.nil ?_
      refine Run.seq ?_
      refine Run.region ?_
      refine Ops.pure rfl (Pure.move rfl) ?_
      refine Ops.pure rfl (Pure.move rfl) ?_
      refine Ops.go rfl (Loud.callO fn118 rfl (fun w hw => f_s_l00Src_pick _ w b vc co _ _ _ 12 (Sat.front 0 rfl hw) hc hb hcl (by omega) (by omega))) ?_
      rintro v35 L35 hQ35
      obtain ⟨x35, q35, sd35, hx35, hy35, hq35, rfl, rfl⟩ := hQ35
      refine Ops.pure rfl (Pure.sub rfl rfl (by omega) (by omega)) ?_
      refine Ops.pure rfl (Pure.build rfl (bld72_2 _ _ (by first | rfl | assumption) (by first | rfl | assumption))) ?_
      refine Ops.go rfl (Loud.alloc zero72 rfl) ?_
      rintro _ _ ⟨b6, rfl, rfl⟩
      refine Ops.store (Stores.box 0 rfl rfl rfl size72 (allOne rfl) rfl rfl) ?_
      refine Ops.nil ?_
      refine Run.seq ?_
      refine Run.seq ?_
      refine Run.region ?_
      refine Ops.pure rfl (Pure.move rfl) ?_
      refine Ops.go rfl (Loud.callO fn116 rfl (fun w hw => f_s_l00Src_one _ w b vc co _ _ _ 20 (Sat.front 1 rfl hw) hc hb hcl (by omega) (by omega))) ?_
      rintro v39 L39 hQ39
      obtain ⟨x39, q39, sd39, hq39, rfl, rfl⟩ := hQ39
      refine Ops.nil ?_
      refine Run.cond rfl (fun c39 => ?_) (fun c39 => ?_)
      · skip
        skip
        refine Run.region ?_
        refine Ops.pure rfl (Pure.move rfl) ?_
        refine Ops.go rfl (Loud.lit sl32 rfl rfl rfl (by simp [Value.oneCell'])) ?_
        rintro v41 _ rfl
        refine Ops.go rfl (Loud.callO fn117 rfl (fun w hw => f_s_l00Src_among _ w _ vc co _ _ _ _ [-9223372036854775808, 9223372036854775807] (Sat.front 1 rfl hw) hc hb hcl (by omega) (RdL.own 1 rfl) (fun _ _ => RdL.own 1 rfl) (by decide) (by decide))) ?_
        rintro v42 L42 hQ42
        obtain ⟨x42, q42, sd42, hx42, hq42, rfl, rfl⟩ := hQ42
        have hxb42 : -9223372036854775808 ≤ x42 ∧ x42 ≤ 9223372036854775807 := by
          simp only [List.mem_cons, List.not_mem_nil, or_false] at hx42
          omega
        refine Ops.pure rfl (Pure.fieldAddrB fld72_0 rfl) ?_
        refine Ops.store (Stores.box 2 rfl rfl rfl size2 (allOne rfl) rfl rfl) ?_
        refine Ops.nil ?_
        refine Run.seq ?_
        refine Run.region ?_
        refine Ops.pure rfl (Pure.ldBA 2 rfl cell72 rfl rfl rfl) ?_
        refine Ops.store (Stores.box 3 rfl rfl rfl size72 (allOne rfl) rfl rfl) ?_
        refine Ops.nil ?_
        first
          | refine Run.ext_ (L' := _ :: .box b4 72 _ :: F) (Ext.take 0 rfl (Ext.right [_] _)) ?_
          | refine Run.ext_ (L' := _ :: .box b4 72 _ :: F) (Ext.take 0 rfl (Ext.right [_, _] _)) ?_
        refine Run.retCx 1 rfl rfl rfl cell72 rfl (Ext.take 0 rfl (Ext.right [_] _)) ?_
        first
          | exact ⟨x42, x35 - 1, q42, sd42, hxb42.1, hxb42.2, by omega, by omega, by omega, rfl, rfl⟩
          | exact ⟨x31 - 1, x35 - 1, q39, sd39, by omega, by omega, by omega, by omega, by omega, rfl, rfl⟩
      · skip
        skip
        refine Run.skip ?_
        refine Run.seq ?_
        refine Run.region ?_
        refine Ops.pure rfl (Pure.ldBA 1 rfl cell72 rfl rfl rfl) ?_
        refine Ops.store (Stores.box 2 rfl rfl rfl size72 (allOne rfl) rfl rfl) ?_
        refine Ops.nil ?_
        first
          | refine Run.ext_ (L' := _ :: .box b4 72 _ :: F) (Ext.take 0 rfl (Ext.right [_] _)) ?_
          | refine Run.ext_ (L' := _ :: .box b4 72 _ :: F) (Ext.take 0 rfl (Ext.right [_, _] _)) ?_
        refine Run.retCx 1 rfl rfl rfl cell72 rfl (Ext.take 0 rfl (Ext.right [_] _)) ?_
        first
          | exact ⟨x42, x35 - 1, q42, sd42, hxb42.1, hxb42.2, by omega, by omega, by omega, rfl, rfl⟩
          | exact ⟨x31 - 1, x35 - 1, q39, sd39, by omega, by omega, by omega, by omega, by omega, rfl, rfl⟩
  · skip
    replace c9 := Bool.eq_false_of_ne c9
    have c9' := c9
    refine Ops.guardN rfl rfl rfl rfl (by rw [c9]; decide) ?_
    refine Ops.guardN rfl rfl rfl rfl (by rw [c9]; decide) ?_
    refine Ops.guardN rfl rfl rfl rfl (by rw [c9]; decide) ?_
    refine Ops.guardN rfl rfl rfl rfl (by rw [c9]; decide) ?_
    refine Ops.guardN rfl rfl rfl rfl (by rw [c9]; decide) ?_
    refine Ops.pure rfl (Pure.pickF rfl c9 rfl) ?_
    refine Ops.pure rfl (Pure.move rfl) ?_
    refine Ops.guardN rfl rfl rfl rfl (by decide) ?_
    refine Ops.guardN rfl rfl rfl rfl (by decide) ?_
    refine Ops.pure rfl (Pure.pickF rfl rfl rfl) ?_
    refine Ops.nil ?_
    refine Run.condEF rfl rfl ?_
    refine Run.skip ?_
    refine Run.seq ?_
    refine Run.region ?_
    refine Ops.pure rfl (Pure.move rfl) ?_
    refine Ops.go rfl (Loud.callO fn118 rfl (fun w hw => f_s_l00Src_pick _ w b vc co _ _ _ 12 (by first | exact Sat.front 0 rfl hw | exact Sat.front 1 rfl hw) hc hb hcl (by omega) (by omega))) ?_
    rintro v31 L31 hQ31
    obtain ⟨x31, q31, sd31, hx31, hy31, hq31, rfl, rfl⟩ := hQ31
    refine Ops.pure rfl (Pure.sub rfl rfl (by omega) (by omega)) ?_
    refine Ops.pure rfl (Pure.assign rfl) ?_
    refine Ops.nil ?_
    refine Run.seq ?_
    refine Run.region ?_
    refine Ops.pure rfl (Pure.move rfl) ?_
    refine Ops.pure rfl (Pure.move rfl) ?_
    refine Ops.go rfl (Loud.callO fn118 rfl (fun w hw => f_s_l00Src_pick _ w b vc co _ _ _ 12 (Sat.front 0 rfl hw) hc hb hcl (by omega) (by omega))) ?_
    rintro v35 L35 hQ35
    obtain ⟨x35, q35, sd35, hx35, hy35, hq35, rfl, rfl⟩ := hQ35
    refine Ops.pure rfl (Pure.sub rfl rfl (by omega) (by omega)) ?_
    refine Ops.pure rfl (Pure.build rfl (bld72_2 _ _ (by first | rfl | assumption) (by first | rfl | assumption))) ?_
    refine Ops.go rfl (Loud.alloc zero72 rfl) ?_
    rintro _ _ ⟨b6, rfl, rfl⟩
    refine Ops.store (Stores.box 0 rfl rfl rfl size72 (allOne rfl) rfl rfl) ?_
    refine Ops.nil ?_
    refine Run.seq ?_
    refine Run.seq ?_
    refine Run.region ?_
    refine Ops.pure rfl (Pure.move rfl) ?_
    refine Ops.go rfl (Loud.callO fn116 rfl (fun w hw => f_s_l00Src_one _ w b vc co _ _ _ 20 (Sat.front 1 rfl hw) hc hb hcl (by omega) (by omega))) ?_
    rintro v39 L39 hQ39
    obtain ⟨x39, q39, sd39, hq39, rfl, rfl⟩ := hQ39
    refine Ops.nil ?_
    refine Run.cond rfl (fun c39 => ?_) (fun c39 => ?_)
    · skip
      skip
      refine Run.region ?_
      refine Ops.pure rfl (Pure.move rfl) ?_
      refine Ops.go rfl (Loud.lit sl32 rfl rfl rfl (by simp [Value.oneCell'])) ?_
      rintro v41 _ rfl
      refine Ops.go rfl (Loud.callO fn117 rfl (fun w hw => f_s_l00Src_among _ w _ vc co _ _ _ _ [-9223372036854775808, 9223372036854775807] (Sat.front 1 rfl hw) hc hb hcl (by omega) (RdL.own 1 rfl) (fun _ _ => RdL.own 1 rfl) (by decide) (by decide))) ?_
      rintro v42 L42 hQ42
      obtain ⟨x42, q42, sd42, hx42, hq42, rfl, rfl⟩ := hQ42
      have hxb42 : -9223372036854775808 ≤ x42 ∧ x42 ≤ 9223372036854775807 := by
        simp only [List.mem_cons, List.not_mem_nil, or_false] at hx42
        omega
      refine Ops.pure rfl (Pure.fieldAddrB fld72_0 rfl) ?_
      refine Ops.store (Stores.box 2 rfl rfl rfl size2 (allOne rfl) rfl rfl) ?_
      refine Ops.nil ?_
      refine Run.seq ?_
      refine Run.region ?_
      refine Ops.pure rfl (Pure.ldBA 2 rfl cell72 rfl rfl rfl) ?_
      refine Ops.store (Stores.box 3 rfl rfl rfl size72 (allOne rfl) rfl rfl) ?_
      refine Ops.nil ?_
      first
        | refine Run.ext_ (L' := _ :: .box b4 72 _ :: F) (Ext.take 0 rfl (Ext.right [_] _)) ?_
        | refine Run.ext_ (L' := _ :: .box b4 72 _ :: F) (Ext.take 0 rfl (Ext.right [_, _] _)) ?_
      refine Run.retCx 1 rfl rfl rfl cell72 rfl (Ext.take 0 rfl (Ext.right [_] _)) ?_
      first
        | exact ⟨x42, x35 - 1, q42, sd42, hxb42.1, hxb42.2, by omega, by omega, by omega, rfl, rfl⟩
        | exact ⟨x31 - 1, x35 - 1, q39, sd39, by omega, by omega, by omega, by omega, by omega, rfl, rfl⟩
    · skip
      skip
      refine Run.skip ?_
      refine Run.seq ?_
      refine Run.region ?_
      refine Ops.pure rfl (Pure.ldBA 1 rfl cell72 rfl rfl rfl) ?_
      refine Ops.store (Stores.box 2 rfl rfl rfl size72 (allOne rfl) rfl rfl) ?_
      refine Ops.nil ?_
      first
        | refine Run.ext_ (L' := _ :: .box b4 72 _ :: F) (Ext.take 0 rfl (Ext.right [_] _)) ?_
        | refine Run.ext_ (L' := _ :: .box b4 72 _ :: F) (Ext.take 0 rfl (Ext.right [_, _] _)) ?_
      refine Run.retCx 1 rfl rfl rfl cell72 rfl (Ext.take 0 rfl (Ext.right [_] _)) ?_
      first
        | exact ⟨x42, x35 - 1, q42, sd42, hxb42.1, hxb42.2, by omega, by omega, by omega, rfl, rfl⟩
        | exact ⟨x31 - 1, x35 - 1, q39, sd39, by omega, by omega, by omega, by omega, by omega, rfl, rfl⟩

set_option maxRecDepth 4000 in
/-- spec.DrawPanelWith -/
theorem f_s_DrawPanelWith (w : World) (vc : Value) (co : List Int) (hc : Rd w vc 1 co.length (AW.bytes co)) (hb : ∀ x ∈ co, 0 ≤ x ∧ x ≤ 255) (hcl : co.length ≤ 1000000000) : Ret Try.prog 32 [vc] w (fun u L => ∃ (a c n : Int), 0 ≤ a ∧ a ≤ 9 ∧ 1 ≤ c ∧ c ≤ 3 ∧ -1 ≤ n ∧ n ≤ 2187 ∧ u = .tuple #[.int .i64 a, .int .i64 c, .int .i64 n] ∧ L = []) := by
  have hv1 := hc.one
  refine Ret.enter Try.func32 rfl Try.ntmps32 rfl ?_
  refine Run.seq ?_
  refine Run.region ?_
  refine Ops.pure rfl (Pure.assign rfl) ?_
  refine Ops.pure rfl (Pure.assign rfl) ?_
  refine Ops.pure rfl (Pure.assign rfl) ?_
  refine Ops.nil ?_
  refine Run.seq ?_
  refine Run.region ?_
  refine Ops.pure rfl (Pure.move rfl) ?_
  refine Ops.go rfl (Loud.callR fn87 rfl (fun w hw => f_s_l00From w vc co hv1)) ?_
  rintro v9 _ ⟨L9, hQ9, rfl⟩
  obtain ⟨s9, rfl, rfl⟩ := hQ9
  refine Ops.pure rfl (Pure.assign rfl) ?_
  refine Ops.nil ?_
  refine Run.seq ?_
  refine Run.region ?_
  refine Ops.pure rfl (Pure.move rfl) ?_
  refine Ops.go rfl (Loud.callO fn115 rfl (fun w hw => f_s_l12Size _ w _ vc co _ _ _ (Sat.front 0 rfl hw) hc hb hcl (by omega))) ?_
  rintro v12 L12 hQ12
  obtain ⟨a12, c12, q12, sd12, ha12, hA12, hc12, hC12, hq12, rfl, rfl⟩ := hQ12
  refine Ops.pure rfl (Pure.move rfl) ?_
  refine Ops.pure rfl (Pure.extract rfl rfl) ?_
  refine Ops.pure rfl (Pure.extract rfl rfl) ?_
  refine Ops.pure rfl (Pure.assign rfl) ?_
  refine Ops.pure rfl (Pure.assign rfl) ?_
  refine Ops.nil ?_
  refine Run.seq ?_
  refine Run.seq ?_
  refine Run.region ?_
  refine Ops.pure rfl (Pure.move rfl) ?_
  refine Ops.go rfl (Loud.callO fn116 rfl (fun w hw => f_s_l00Src_one _ w _ vc co _ _ _ 10 (Sat.front 0 rfl hw) hc hb hcl (by omega) (by omega))) ?_
  rintro v16 L16 hQ16
  obtain ⟨x16, q16, sd16, hq16, rfl, rfl⟩ := hQ16
  refine Ops.nil ?_
  refine Run.cond rfl (fun c16 => ?_) (fun c16 => ?_)
  · skip
    skip
    refine Run.seq ?_
    refine Run.region ?_
    refine Ops.pure rfl (Pure.move rfl) ?_
    refine Ops.pure rfl (Pure.move rfl) ?_
    refine Ops.pure rfl (Pure.move rfl) ?_
    refine Ops.go rfl (Loud.lit sl32 rfl rfl rfl (by simp [Value.oneCell'])) ?_
    rintro v20 _ rfl
    refine Ops.go rfl (Loud.callO fn117 rfl (fun w hw => f_s_l00Src_among _ w _ vc co _ _ _ _ [-1, 81, 2187, 3, 1] (Sat.front 1 rfl hw) hc hb hcl (by omega) (RdL.own 1 rfl) (fun _ _ => RdL.own 1 rfl) (by decide) (by decide))) ?_
    rintro v21 L21 hQ21
    obtain ⟨x21, q21, sd21, hx21, hq21, rfl, rfl⟩ := hQ21
    have hxb21 : -1 ≤ x21 ∧ x21 ≤ 2187 := by
      simp only [List.mem_cons, List.not_mem_nil, or_false] at hx21
      omega
    refine Ops.pure rfl (Pure.assign rfl) ?_
    refine Ops.pure rfl (Pure.assign rfl) ?_
    refine Ops.pure rfl (Pure.assign rfl) ?_
    refine Ops.nil ?_
    refine Run.ext_ (Ext.nil _) ?_
    refine Run.ret3 rfl rfl rfl rfl ?_
    first
      | exact ⟨_, _, x21, ha12, hA12, hc12, hC12, hxb21.1, hxb21.2, rfl, rfl⟩
      | exact ⟨_, _, x25, ha12, hA12, hc12, hC12, by omega, by omega, rfl, rfl⟩
  · skip
    skip
    refine Run.skip ?_
    refine Run.seq ?_
    refine Run.region ?_
    refine Ops.pure rfl (Pure.move rfl) ?_
    refine Ops.pure rfl (Pure.move rfl) ?_
    refine Ops.pure rfl (Pure.move rfl) ?_
    refine Ops.go rfl (Loud.callO fn118 rfl (fun w hw => f_s_l00Src_pick _ w _ vc co _ _ _ 90 (Sat.front 0 rfl hw) hc hb hcl (by omega) (by omega))) ?_
    rintro v25 L25 hQ25
    obtain ⟨x25, q25, sd25, hx25, hy25, hq25, rfl, rfl⟩ := hQ25
    refine Ops.pure rfl (Pure.assign rfl) ?_
    refine Ops.pure rfl (Pure.assign rfl) ?_
    refine Ops.pure rfl (Pure.assign rfl) ?_
    refine Ops.nil ?_
    refine Run.ext_ (Ext.nil _) ?_
    refine Run.ret3 rfl rfl rfl rfl ?_
    first
      | exact ⟨_, _, x21, ha12, hA12, hc12, hC12, hxb21.1, hxb21.2, rfl, rfl⟩
      | exact ⟨_, _, x25, ha12, hA12, hc12, hC12, by omega, by omega, rfl, rfl⟩

set_option maxRecDepth 4000 in
/-- spec.DrawFirstWith -/
theorem f_s_DrawFirstWith (w : World) (vc : Value) (co : List Int) (hc : Rd w vc 1 co.length (AW.bytes co)) (hb : ∀ x ∈ co, 0 ≤ x ∧ x ≤ 255) (hcl : co.length ≤ 1000000000) : Ret Try.prog 41 [vc] w (fun u L => ∃ (a c n : Int), 0 ≤ a ∧ a ≤ 9 ∧ 1 ≤ c ∧ c ≤ 3 ∧ -1 ≤ n ∧ n ≤ 2187 ∧ u = .tuple #[.int .i64 a, .int .i64 c, .int .i64 n] ∧ L = []) := by
  have hv1 := hc.one
  refine Ret.enter Try.func41 rfl Try.ntmps41 rfl ?_
  refine Run.seq ?_
  refine Run.region ?_
  refine Ops.pure rfl (Pure.assign rfl) ?_
  refine Ops.pure rfl (Pure.assign rfl) ?_
  refine Ops.pure rfl (Pure.assign rfl) ?_
  refine Ops.nil ?_
  refine Run.seq ?_
  refine Run.region ?_
  refine Ops.pure rfl (Pure.move rfl) ?_
  refine Ops.go rfl (Loud.callR fn87 rfl (fun w hw => f_s_l00From w vc co hv1)) ?_
  rintro v9 _ ⟨L9, hQ9, rfl⟩
  obtain ⟨s9, rfl, rfl⟩ := hQ9
  refine Ops.pure rfl (Pure.assign rfl) ?_
  refine Ops.nil ?_
  refine Run.seq ?_
  refine Run.region ?_
  refine Ops.pure rfl (Pure.move rfl) ?_
  refine Ops.go rfl (Loud.callO fn115 rfl (fun w hw => f_s_l12Size _ w _ vc co _ _ _ (Sat.front 0 rfl hw) hc hb hcl (by omega))) ?_
  rintro v12 L12 hQ12
  obtain ⟨a12, c12, q12, sd12, ha12, hA12, hc12, hC12, hq12, rfl, rfl⟩ := hQ12
  refine Ops.pure rfl (Pure.move rfl) ?_
  refine Ops.pure rfl (Pure.extract rfl rfl) ?_
  refine Ops.pure rfl (Pure.extract rfl rfl) ?_
  refine Ops.pure rfl (Pure.assign rfl) ?_
  refine Ops.pure rfl (Pure.assign rfl) ?_
  refine Ops.nil ?_
  refine Run.seq ?_
  refine Run.region ?_
  refine Ops.pure rfl (Pure.move rfl) ?_
  refine Ops.pure rfl (Pure.move rfl) ?_
  refine Ops.pure rfl (Pure.move rfl) ?_
  refine Ops.go rfl (Loud.callO fn118 rfl (fun w hw => f_s_l00Src_pick _ w _ vc co _ _ _ 8 (Sat.front 0 rfl hw) hc hb hcl (by omega) (by omega))) ?_
  rintro v18 L18 hQ18
  obtain ⟨x18, q18, sd18, hx18, hy18, hq18, rfl, rfl⟩ := hQ18
  refine Ops.pure rfl (Pure.assign rfl) ?_
  refine Ops.pure rfl (Pure.assign rfl) ?_
  refine Ops.pure rfl (Pure.assign rfl) ?_
  refine Ops.nil ?_
  refine Run.ext_ (Ext.nil _) ?_
  refine Run.ret3 rfl rfl rfl rfl ?_
  exact ⟨_, _, x18, ha12, hA12, hc12, hC12, by omega, by omega, rfl, rfl⟩

set_option maxRecDepth 4000 in
/-- spec.DrawPanelCount -/
theorem f_s_DrawPanelCount (w : World) (vc : Value) (co : List Int) (hc : Rd w vc 1 co.length (AW.bytes co)) (hb : ∀ x ∈ co, 0 ≤ x ∧ x ≤ 255) (hcl : co.length ≤ 1000000000) : Ret Try.prog 38 [vc] w (fun u L => ∃ (a c : Int), 0 ≤ a ∧ a ≤ 9 ∧ 1 ≤ c ∧ c ≤ 3 ∧ u = .tuple #[.int .i64 a, .int .i64 c] ∧ L = []) := by
  have hv1 := hc.one
  refine Ret.enter Try.func38 rfl Try.ntmps38 rfl ?_
  refine Run.seq ?_
  refine Run.region ?_
  refine Ops.pure rfl (Pure.assign rfl) ?_
  refine Ops.pure rfl (Pure.assign rfl) ?_
  refine Ops.nil ?_
  refine Run.seq ?_
  refine Run.region ?_
  refine Ops.pure rfl (Pure.move rfl) ?_
  refine Ops.go rfl (Loud.callR fn87 rfl (fun w hw => f_s_l00From w vc co hv1)) ?_
  rintro v5 _ ⟨L5, hQ5, rfl⟩
  obtain ⟨s5, rfl, rfl⟩ := hQ5
  refine Ops.go rfl (Loud.callO fn115 rfl (fun w hw => f_s_l12Size _ w _ vc co _ _ _ (Sat.front 0 rfl hw) hc hb hcl (by omega))) ?_
  rintro v6 L6 hQ6
  obtain ⟨a6, c6, q6, sd6, ha6, hA6, hc6, hC6, hq6, rfl, rfl⟩ := hQ6
  refine Ops.pure rfl (Pure.extract rfl rfl) ?_
  refine Ops.pure rfl (Pure.extract rfl rfl) ?_
  refine Ops.pure rfl (Pure.assign rfl) ?_
  refine Ops.pure rfl (Pure.assign rfl) ?_
  refine Ops.nil ?_
  refine Run.ext_ (Ext.nil _) ?_
  refine Run.ret2 rfl rfl rfl ?_
  exact ⟨_, _, ha6, hA6, hc6, hC6, rfl, rfl⟩

set_option maxRecDepth 4000 in
/-- spec.DrawCurveTable -/
theorem f_s_DrawCurveTable (w : World) (vc : Value) (co : List Int) (hc : Rd w vc 1 co.length (AW.bytes co)) (hb : ∀ x ∈ co, 0 ≤ x ∧ x ≤ 255) (hcl : co.length ≤ 1000000000) : Ret Try.prog 46 [vc] w (fun u L => ∃ (a c : Int), 0 ≤ a ∧ a ≤ 9 ∧ 1 ≤ c ∧ c ≤ 3 ∧ u = .tuple #[.int .i64 a, .int .i64 c] ∧ L = []) := by
  have hv1 := hc.one
  refine Ret.enter Try.func46 rfl Try.ntmps46 rfl ?_
  refine Run.seq ?_
  refine Run.region ?_
  refine Ops.pure rfl (Pure.assign rfl) ?_
  refine Ops.pure rfl (Pure.assign rfl) ?_
  refine Ops.nil ?_
  refine Run.seq ?_
  refine Run.region ?_
  refine Ops.pure rfl (Pure.move rfl) ?_
  refine Ops.go rfl (Loud.callR fn87 rfl (fun w hw => f_s_l00From w vc co hv1)) ?_
  rintro v5 _ ⟨L5, hQ5, rfl⟩
  obtain ⟨s5, rfl, rfl⟩ := hQ5
  refine Ops.go rfl (Loud.callO fn115 rfl (fun w hw => f_s_l12Size _ w _ vc co _ _ _ (Sat.front 0 rfl hw) hc hb hcl (by omega))) ?_
  rintro v6 L6 hQ6
  obtain ⟨a6, c6, q6, sd6, ha6, hA6, hc6, hC6, hq6, rfl, rfl⟩ := hQ6
  refine Ops.pure rfl (Pure.extract rfl rfl) ?_
  refine Ops.pure rfl (Pure.extract rfl rfl) ?_
  refine Ops.pure rfl (Pure.assign rfl) ?_
  refine Ops.pure rfl (Pure.assign rfl) ?_
  refine Ops.nil ?_
  refine Run.ext_ (Ext.nil _) ?_
  refine Run.ret2 rfl rfl rfl ?_
  exact ⟨_, _, ha6, hA6, hc6, hC6, rfl, rfl⟩

set_option maxRecDepth 4000 in
/-- spec.DrawPanelNumber -/
theorem f_s_DrawPanelNumber (w : World) (vc : Value) (co : List Int) (hc : Rd w vc 1 co.length (AW.bytes co)) (hb : ∀ x ∈ co, 0 ≤ x ∧ x ≤ 255) (hcl : co.length ≤ 1000000000) : Ret Try.prog 35 [vc] w (fun u L => ∃ (a c : Int) (l : List Int) (x : Value), -9223372036854775808 ≤ a ∧ a ≤ 9 ∧ 1 ≤ c ∧ c ≤ 9 ∧ l.length ≤ 120 ∧ x.oneCell' = true ∧ u = .agg #[.int .i64 a, .int .i64 c, x] ∧ L = [.row 2 1 x l.length (ints l)]) := by
  have hv1 := hc.one
  refine Ret.enter Try.func35 rfl Try.ntmps35 rfl ?_
  refine Run.seq ?_
  refine Run.region ?_
  refine Ops.go rfl (Loud.alloc zero35 rfl) ?_
  rintro _ _ ⟨b2, rfl, rfl⟩
  refine Ops.nil ?_
  refine Run.seq ?_
  refine Run.region ?_
  refine Ops.pure rfl (Pure.move rfl) ?_
  refine Ops.go rfl (Loud.callR fn87 rfl (fun w hw => f_s_l00From w vc co hv1)) ?_
  rintro v7 _ ⟨L7, hQ7, rfl⟩
  obtain ⟨s7, rfl, rfl⟩ := hQ7
  refine Ops.pure rfl (Pure.assign rfl) ?_
  refine Ops.nil ?_
  refine Run.seq ?_
  refine Run.seq ?_
  refine Run.region ?_
  refine Ops.pure rfl (Pure.move rfl) ?_
  refine Ops.go rfl (Loud.callO fn116 rfl (fun w hw => f_s_l00Src_one _ w _ vc co _ _ _ 2 (Sat.front 0 rfl hw) hc hb hcl (by omega) (by omega))) ?_
  rintro v9 L9 hQ9
  obtain ⟨x9, q9, sd9, hq9, rfl, rfl⟩ := hQ9
  refine Ops.nil ?_
  refine Run.cond rfl (fun c9 => ?_) (fun c9 => ?_)
  · skip
    skip
    refine Run.seq ?_
    refine Run.region ?_
    refine Ops.pure rfl (Pure.move rfl) ?_
    refine Ops.go rfl (Loud.callO fn115 rfl (fun w hw => f_s_l12Size _ w _ vc co _ _ _ (Sat.front 0 rfl hw) hc hb hcl (by omega))) ?_
    rintro v12 L12 hQ12
    obtain ⟨a12, c12, q12, sd12, ha12, hA12, hc12, hC12, hq12, rfl, rfl⟩ := hQ12
    refine Ops.pure rfl (Pure.move rfl) ?_
    refine Ops.pure rfl (Pure.extract rfl rfl) ?_
    refine Ops.pure rfl (Pure.extract rfl rfl) ?_
    refine Ops.pure rfl (Pure.assign rfl) ?_
    refine Ops.pure rfl (Pure.assign rfl) ?_
    refine Ops.nil ?_
    refine Run.seq ?_
    refine Run.region ?_
    refine Ops.pure rfl (Pure.move rfl) ?_
    refine Ops.pure rfl (Pure.move rfl) ?_
    refine Ops.q rfl (QOp.call fn107 rfl (fun w hw => f_s_l12Code w _ _ (by omega) (by omega) (by omega) (by omega))) ?_
    refine Ops.pure rfl (Pure.eql rfl rfl) ?_
    refine Ops.nil ?_
    refine Run.cond rfl (fun c18 => ?_) (fun c18 => ?_)
    · skip
      replace c18 := dT c18
      obtain ⟨hs, hmm, hpn⟩ := pc_zero c18
      have hib := (inn_eq hs).2.1
      refine Run.seq ?_
      refine Run.region ?_
      refine Ops.pure rfl (Pure.move rfl) ?_
      refine Ops.pure rfl (Pure.move rfl) ?_
      refine Ops.pure rfl (Pure.move rfl) ?_
      refine Ops.pure rfl (Pure.move rfl) ?_
      refine Ops.pure rfl (Pure.move rfl) ?_
      refine Ops.q rfl (QOp.call fn108 rfl (fun w hw => f_s_l12Many w a12 c12 hs)) ?_
      refine Ops.go rfl (Loud.callO fn118 rfl (fun w hw => f_pickW _ w _ vc co _ _ _ (many a12 c12 : Int) (Sat.front 0 rfl hw) hc hb hcl (by omega) (by omega))) ?_
      rintro v25 L25 hQ25
      obtain ⟨x25, q25, sd25, hx25, hy25, hq25, rfl, rfl⟩ := hQ25
      obtain ⟨n25, rfl⟩ := Int.eq_ofNat_of_zero_le hx25
      refine Ops.go rfl (Loud.callR fn109 rfl (fun w hw => f_s_l12At w a12 c12 n25 hs (by omega))) ?_
      rintro v26 _ ⟨L26, hQ26, rfl⟩
      obtain ⟨x26, h26, rfl, rfl⟩ := hQ26
      refine Ops.store (Stores.box 2 rfl rfl rfl size35 (one3 h26) rfl rfl) ?_
      refine Ops.nil ?_
      refine Run.retCx 2 rfl rfl rfl cell35 rfl (Ext.take 0 rfl (Ext.nil _)) ?_
      first
        | exact ⟨a12, c12, pdig n25 (inn a12 c12), x26, by omega, by omega, by omega, by omega, by rw [length_pdig]; omega, h26, rfl, by rw [length_pdig]⟩
        | exact ⟨a28, c28, l28, x28, by omega, by omega, by omega, by omega, by omega, h28, rfl, rfl⟩
    · skip
      replace c18 := dF c18
      refine Run.skip ?_
      refine Run.seq ?_
      refine Run.region ?_
      refine Ops.pure rfl (Pure.move rfl) ?_
      refine Ops.go rfl (Loud.callO fn120 rfl (fun w hw => f_s_l02Bent _ w _ vc co _ _ _ (Sat.front 0 rfl hw) hc hb hcl (by omega))) ?_
      rintro v28 L28 hQ28
      obtain ⟨a28, c28, l28, x28, q28, sd28, ha28, hA28, hc28, hC28, hn28, h28, hq28, rfl, rfl⟩ := hQ28
      refine Ops.store (Stores.box 2 rfl rfl rfl size35 (one3 h28) rfl rfl) ?_
      refine Ops.nil ?_
      refine Run.retCx 2 rfl rfl rfl cell35 rfl (Ext.take 0 rfl (Ext.nil _)) ?_
      first
        | exact ⟨a12, c12, pdig n25 (inn a12 c12), x26, by omega, by omega, by omega, by omega, by rw [length_pdig]; omega, h26, rfl, by rw [length_pdig]⟩
        | exact ⟨a28, c28, l28, x28, by omega, by omega, by omega, by omega, by omega, h28, rfl, rfl⟩
  · skip
    skip
    refine Run.skip ?_
    refine Run.seq ?_
    refine Run.region ?_
    refine Ops.pure rfl (Pure.move rfl) ?_
    refine Ops.go rfl (Loud.callO fn120 rfl (fun w hw => f_s_l02Bent _ w _ vc co _ _ _ (Sat.front 0 rfl hw) hc hb hcl (by omega))) ?_
    rintro v28 L28 hQ28
    obtain ⟨a28, c28, l28, x28, q28, sd28, ha28, hA28, hc28, hC28, hn28, h28, hq28, rfl, rfl⟩ := hQ28
    refine Ops.store (Stores.box 2 rfl rfl rfl size35 (one3 h28) rfl rfl) ?_
    refine Ops.nil ?_
    refine Run.retCx 2 rfl rfl rfl cell35 rfl (Ext.take 0 rfl (Ext.nil _)) ?_
    first
      | exact ⟨a12, c12, pdig n25 (inn a12 c12), x26, by omega, by omega, by omega, by omega, by rw [length_pdig]; omega, h26, rfl, by rw [length_pdig]⟩
      | exact ⟨a28, c28, l28, x28, by omega, by omega, by omega, by omega, by omega, h28, rfl, rfl⟩

end Go.Proofs.Ytmfinopdokkjcaa
