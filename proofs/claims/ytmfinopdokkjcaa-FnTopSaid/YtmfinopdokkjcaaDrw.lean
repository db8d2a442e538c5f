/- Contracts of functions, printed by program from annotations. -/
import Derived.Test.YtmfinopdokkjcaaPWith
import Derived.Test.YtmfinopdokkjcaaPts
namespace Go.Proofs.Ytmfinopdokkjcaa
open Go Go.AW Go.RowKit
set_option linter.unusedVariables false
set_option linter.unusedSimpArgs false

theorem sh_lo (x : Int) : 0 ≤ IntKind.u64.wrap x / 2 ^ min (40 : Int).toNat IntKind.u64.bits := Int.ediv_nonneg (by rw [IntKind.wrap_u64]; omega) (by decide)
theorem sh_hi (x : Int) : IntKind.u64.wrap x / 2 ^ min (40 : Int).toNat IntKind.u64.bits < 18446744073709551616 := by
  have h0 : 0 ≤ IntKind.u64.wrap x := by rw [IntKind.wrap_u64]; omega
  have h1 : IntKind.u64.wrap x < 18446744073709551616 := by rw [IntKind.wrap_u64]; omega
  exact Int.lt_of_le_of_lt (Int.ediv_le_self _ h0) h1
theorem byte_bd {co : List Int} (hb : ∀ x ∈ co, 0 ≤ x ∧ x ≤ 255) {q : Nat} (h : q < co.length) : 0 ≤ co.getD q 0 ∧ co.getD q 0 ≤ 255 := hb _ (mem_of_getD h rfl)
/-- The source of choices. -/
abbrev srcE (b : Nat) (vc : Value) (q : Nat) (sd : Int) : Ent := .box b 174 [vc, .int .i64 (q : Int), .int .u64 sd]
theorem mod_bd {x n : Int} (hx : 0 ≤ x) (hn : 1 ≤ n) : 0 ≤ x % n ∧ x % n < n := ⟨Int.emod_nonneg _ (by omega), Int.emod_lt_of_pos _ (by omega)⟩

set_option maxRecDepth 4000 in
/-- (*spec.l00Src).next -/
theorem f_s_l00Src_next (w0 : World) (w : World) (b : Nat) (vc : Value) (co : List Int) (q : Nat) (sd : Int) (F : List Ent) (hw : Sat w0 w (srcE b vc q sd :: F)) (hc : Rd w0 vc 1 co.length (AW.bytes co)) (hb : ∀ x ∈ co, 0 ≤ x ∧ x ≤ 255) (hcl : co.length ≤ 1000000000) (hq : q ≤ 1000000000) : RetO Try.prog 190 [.pointer (some ⟨b, 0, none⟩)] w0 w (fun u L => ∃ (x sd' : Int), 0 ≤ x ∧ x ≤ 255 ∧ u = .int .i64 x ∧ L = srcE b vc (q + 1) sd' :: F) := by
  refine RetO.enter Try.func190 rfl Try.ntmps190 rfl hw ?_
  refine Run.seq ?_
  refine Run.region ?_
  refine Ops.pure rfl (Pure.assign rfl) ?_
  refine Ops.nil ?_
  refine Run.seq ?_
  refine Run.region ?_
  refine Ops.pure rfl (Pure.assign rfl) ?_
  refine Ops.nil ?_
  refine Run.seq ?_
  refine Run.seq ?_
  refine Any.start follows ?_
  refine Any.take 0 rfl (by kernel_rfl) rfl (QOp.pure (Pure.move rfl)) ?_
  refine Any.take 1 rfl (by kernel_rfl) rfl (QOp.pure (Pure.nilchk rfl)) ?_
  refine Any.take 2 rfl (by kernel_rfl) rfl (QOp.pure (Pure.fieldAddrB fld174_1 rfl)) ?_
  refine Any.take 3 rfl (by kernel_rfl) rfl (QOp.pure (Pure.ldB 0 rfl cell3 rfl rfl)) ?_
  refine Any.take 4 rfl (by kernel_rfl) rfl (QOp.pure (Pure.move rfl)) ?_
  refine Any.take 5 rfl (by kernel_rfl) rfl (QOp.pure (Pure.nilchk rfl)) ?_
  refine Any.take 6 rfl (by kernel_rfl) rfl (QOp.pure (Pure.fieldAddrB fld174_0 rfl)) ?_
  refine Any.take 7 rfl (by kernel_rfl) rfl (QOp.pure (Pure.ldB 0 rfl cell22 rfl rfl)) ?_
  refine Any.take 8 rfl (by kernel_rfl) rfl (QOp.pure (Pure.len sl22 (RdL.old hc) rfl)) ?_
  refine Any.take 9 rfl (by kernel_rfl) rfl (QOp.pure (Pure.lss rfl rfl)) ?_
  refine Any.done (by kernel_rfl) ?_
  refine Run.cond rfl (fun c13 => ?_) (fun c13 => ?_)
  · skip
    replace c13 := dT c13
    have hbq := byte_bd hb (show q < co.length by omega)
    refine Any.start follows ?_
    refine Any.take 0 rfl (by kernel_rfl) rfl (QOp.pure (Pure.move rfl)) ?_
    refine Any.take 1 rfl (by kernel_rfl) rfl (QOp.pure (Pure.nilchk rfl)) ?_
    refine Any.take 2 rfl (by kernel_rfl) rfl (QOp.pure (Pure.fieldAddrB fld174_0 rfl)) ?_
    refine Any.take 3 rfl (by kernel_rfl) rfl (QOp.pure (Pure.ldB 0 rfl cell22 rfl rfl)) ?_
    refine Any.take 4 rfl (by kernel_rfl) rfl (QOp.pure (Pure.move rfl)) ?_
    refine Any.take 5 rfl (by kernel_rfl) rfl (QOp.pure (Pure.nilchk rfl)) ?_
    refine Any.take 6 rfl (by kernel_rfl) rfl (QOp.pure (Pure.fieldAddrB fld174_1 rfl)) ?_
    refine Any.take 7 rfl (by kernel_rfl) rfl (QOp.pure (Pure.ldB 0 rfl cell3 rfl rfl)) ?_
    refine Any.take 8 rfl (by kernel_rfl) rfl (QOp.pure (Pure.idx1N sl22 (RdL.old hc) rfl rfl (by first | assumption | omega | (simp; omega)))) ?_
    refine Any.take 9 rfl (by kernel_rfl) rfl (QOp.pure (Pure.ld cell5 rfl (RdL.old hc) (AW.bytes_get (by omega)))) ?_
    refine Any.take 10 rfl (by kernel_rfl) rfl (QOp.pure (Pure.conv64 (by rw [und5]; rfl) und3 rfl (by omega) (by omega))) ?_
    refine Any.take 11 rfl (by kernel_rfl) rfl (QOp.pure (Pure.assign rfl)) ?_
    refine Any.done (by kernel_rfl) ?_
    refine Run.seq ?_
    refine Run.region ?_
    refine Ops.pure rfl (Pure.move rfl) ?_
    refine Ops.pure rfl (Pure.nilchk rfl) ?_
    refine Ops.pure rfl (Pure.fieldAddrB fld174_1 rfl) ?_
    refine Ops.pure rfl (Pure.ldB 0 rfl cell3 rfl rfl) ?_
    refine Ops.pure rfl (Pure.add rfl rfl (by omega) (by omega)) ?_
    refine Ops.pure rfl (Pure.nilchk rfl) ?_
    refine Ops.pure rfl (Pure.fieldAddrB fld174_1 rfl) ?_
    refine Ops.store (Stores.box 0 rfl rfl rfl size3 (allOne rfl) rfl rfl) ?_
    refine Ops.nil ?_
    refine Run.seq ?_
    refine Run.region ?_
    refine Ops.pure rfl (Pure.move rfl) ?_
    refine Ops.pure rfl (Pure.move rfl) ?_
    refine Ops.pure rfl (Pure.nilchk rfl) ?_
    refine Ops.pure rfl (Pure.fieldAddrB fld174_2 rfl) ?_
    refine Ops.pure rfl (Pure.ldB 0 rfl cell172 rfl rfl) ?_
    refine Ops.pure rfl (Pure.mulW rfl rfl) ?_
    refine Ops.pure rfl (Pure.move rfl) ?_
    refine Ops.pure rfl (Pure.conv (by rw [und3]; rfl) und172 rfl) ?_
    refine Ops.pure rfl (Pure.addW rfl rfl) ?_
    refine Ops.pure rfl (Pure.addW rfl rfl) ?_
    refine Ops.pure rfl (Pure.nilchk rfl) ?_
    refine Ops.pure rfl (Pure.fieldAddrB fld174_2 rfl) ?_
    refine Ops.store (Stores.box 0 rfl rfl rfl size172 (allOne rfl) rfl rfl) ?_
    refine Ops.nil ?_
    refine Run.seq ?_
    refine Run.seq ?_
    refine Any.start follows ?_
    refine Any.take 0 rfl (by kernel_rfl) rfl (QOp.pure (Pure.move rfl)) ?_
    refine Any.take 1 rfl (by kernel_rfl) rfl (QOp.pure (Pure.nilchk rfl)) ?_
    refine Any.take 2 rfl (by kernel_rfl) rfl (QOp.pure (Pure.fieldAddrB fld174_1 rfl)) ?_
    refine Any.take 3 rfl (by kernel_rfl) rfl (QOp.pure (Pure.ldB 0 rfl cell3 rfl rfl)) ?_
    refine Any.take 4 rfl (by kernel_rfl) rfl (QOp.pure (Pure.move rfl)) ?_
    refine Any.take 5 rfl (by kernel_rfl) rfl (QOp.pure (Pure.nilchk rfl)) ?_
    refine Any.take 6 rfl (by kernel_rfl) rfl (QOp.pure (Pure.fieldAddrB fld174_0 rfl)) ?_
    refine Any.take 7 rfl (by kernel_rfl) rfl (QOp.pure (Pure.ldB 0 rfl cell22 rfl rfl)) ?_
    refine Any.take 8 rfl (by kernel_rfl) rfl (QOp.pure (Pure.len sl22 (RdL.old hc) rfl)) ?_
    refine Any.take 9 rfl (by kernel_rfl) rfl (QOp.pure (Pure.leq rfl rfl)) ?_
    refine Any.done (by kernel_rfl) ?_
    refine Run.cond rfl (fun c53 => ?_) (fun c53 => ?_)
    · skip
      replace c53 := dT c53
      refine Run.seq ?_
      refine Run.region ?_
      refine Ops.pure rfl (Pure.move rfl) ?_
      refine Ops.pure rfl (Pure.assign rfl) ?_
      refine Ops.nil ?_
      refine Run.ret1 rfl rfl ?_
      first
        | exact ⟨_, _, hbq.1, hbq.2, rfl, rfl⟩
        | exact ⟨_, _, by decide, by decide, rfl, rfl⟩
        | exact ⟨_, _, (mod_bd (sh_lo _) (by decide)).1, by have := (mod_bd (n := 256) (sh_lo (IntKind.u64.wrap 0)) (by decide)); exact Int.le_of_lt_add_one (mod_bd (sh_lo _) (by decide)).2, rfl, rfl⟩
    · skip
      replace c53 := dF c53
      refine Run.skip ?_
      refine Run.seq ?_
      refine Run.region ?_
      refine Ops.pure rfl (Pure.move rfl) ?_
      refine Ops.pure rfl (Pure.nilchk rfl) ?_
      refine Ops.pure rfl (Pure.fieldAddrB fld174_2 rfl) ?_
      refine Ops.pure rfl (Pure.ldB 0 rfl cell172 rfl rfl) ?_
      refine Ops.pure rfl (Pure.shr rfl rfl (by decide)) ?_
      refine Ops.pure rfl (Pure.and255 rfl rfl (sh_lo _) (sh_hi _)) ?_
      refine Ops.pure rfl (Pure.conv64 (by rw [und172]; rfl) und2 rfl (by omega) (by omega)) ?_
      refine Ops.pure rfl (Pure.assign rfl) ?_
      refine Ops.nil ?_
      refine Run.ret1 rfl rfl ?_
      first
        | exact ⟨_, _, hbq.1, hbq.2, rfl, rfl⟩
        | exact ⟨_, _, by decide, by decide, rfl, rfl⟩
        | exact ⟨_, _, (mod_bd (sh_lo _) (by decide)).1, by have := (mod_bd (n := 256) (sh_lo (IntKind.u64.wrap 0)) (by decide)); exact Int.le_of_lt_add_one (mod_bd (sh_lo _) (by decide)).2, rfl, rfl⟩
  · skip
    replace c13 := dF c13
    refine Run.skip ?_
    refine Run.seq ?_
    refine Run.region ?_
    refine Ops.pure rfl (Pure.move rfl) ?_
    refine Ops.pure rfl (Pure.nilchk rfl) ?_
    refine Ops.pure rfl (Pure.fieldAddrB fld174_1 rfl) ?_
    refine Ops.pure rfl (Pure.ldB 0 rfl cell3 rfl rfl) ?_
    refine Ops.pure rfl (Pure.add rfl rfl (by omega) (by omega)) ?_
    refine Ops.pure rfl (Pure.nilchk rfl) ?_
    refine Ops.pure rfl (Pure.fieldAddrB fld174_1 rfl) ?_
    refine Ops.store (Stores.box 0 rfl rfl rfl size3 (allOne rfl) rfl rfl) ?_
    refine Ops.nil ?_
    refine Run.seq ?_
    refine Run.region ?_
    refine Ops.pure rfl (Pure.move rfl) ?_
    refine Ops.pure rfl (Pure.move rfl) ?_
    refine Ops.pure rfl (Pure.nilchk rfl) ?_
    refine Ops.pure rfl (Pure.fieldAddrB fld174_2 rfl) ?_
    refine Ops.pure rfl (Pure.ldB 0 rfl cell172 rfl rfl) ?_
    refine Ops.pure rfl (Pure.mulW rfl rfl) ?_
    refine Ops.pure rfl (Pure.move rfl) ?_
    refine Ops.pure rfl (Pure.conv (by rw [und3]; rfl) und172 rfl) ?_
    refine Ops.pure rfl (Pure.addW rfl rfl) ?_
    refine Ops.pure rfl (Pure.addW rfl rfl) ?_
    refine Ops.pure rfl (Pure.nilchk rfl) ?_
    refine Ops.pure rfl (Pure.fieldAddrB fld174_2 rfl) ?_
    refine Ops.store (Stores.box 0 rfl rfl rfl size172 (allOne rfl) rfl rfl) ?_
    refine Ops.nil ?_
    refine Run.seq ?_
    refine Run.seq ?_
    refine Any.start follows ?_
    refine Any.take 0 rfl (by kernel_rfl) rfl (QOp.pure (Pure.move rfl)) ?_
    refine Any.take 1 rfl (by kernel_rfl) rfl (QOp.pure (Pure.nilchk rfl)) ?_
    refine Any.take 2 rfl (by kernel_rfl) rfl (QOp.pure (Pure.fieldAddrB fld174_1 rfl)) ?_
    refine Any.take 3 rfl (by kernel_rfl) rfl (QOp.pure (Pure.ldB 0 rfl cell3 rfl rfl)) ?_
    refine Any.take 4 rfl (by kernel_rfl) rfl (QOp.pure (Pure.move rfl)) ?_
    refine Any.take 5 rfl (by kernel_rfl) rfl (QOp.pure (Pure.nilchk rfl)) ?_
    refine Any.take 6 rfl (by kernel_rfl) rfl (QOp.pure (Pure.fieldAddrB fld174_0 rfl)) ?_
    refine Any.take 7 rfl (by kernel_rfl) rfl (QOp.pure (Pure.ldB 0 rfl cell22 rfl rfl)) ?_
    refine Any.take 8 rfl (by kernel_rfl) rfl (QOp.pure (Pure.len sl22 (RdL.old hc) rfl)) ?_
    refine Any.take 9 rfl (by kernel_rfl) rfl (QOp.pure (Pure.leq rfl rfl)) ?_
    refine Any.done (by kernel_rfl) ?_
    refine Run.cond rfl (fun c53 => ?_) (fun c53 => ?_)
    · skip
      replace c53 := dT c53
      refine Run.seq ?_
      refine Run.region ?_
      refine Ops.pure rfl (Pure.move rfl) ?_
      refine Ops.pure rfl (Pure.assign rfl) ?_
      refine Ops.nil ?_
      refine Run.ret1 rfl rfl ?_
      first
        | exact ⟨_, _, hbq.1, hbq.2, rfl, rfl⟩
        | exact ⟨_, _, by decide, by decide, rfl, rfl⟩
        | exact ⟨_, _, (mod_bd (sh_lo _) (by decide)).1, by have := (mod_bd (n := 256) (sh_lo (IntKind.u64.wrap 0)) (by decide)); exact Int.le_of_lt_add_one (mod_bd (sh_lo _) (by decide)).2, rfl, rfl⟩
    · skip
      replace c53 := dF c53
      refine Run.skip ?_
      refine Run.seq ?_
      refine Run.region ?_
      refine Ops.pure rfl (Pure.move rfl) ?_
      refine Ops.pure rfl (Pure.nilchk rfl) ?_
      refine Ops.pure rfl (Pure.fieldAddrB fld174_2 rfl) ?_
      refine Ops.pure rfl (Pure.ldB 0 rfl cell172 rfl rfl) ?_
      refine Ops.pure rfl (Pure.shr rfl rfl (by decide)) ?_
      refine Ops.pure rfl (Pure.and255 rfl rfl (sh_lo _) (sh_hi _)) ?_
      refine Ops.pure rfl (Pure.conv64 (by rw [und172]; rfl) und2 rfl (by omega) (by omega)) ?_
      refine Ops.pure rfl (Pure.assign rfl) ?_
      refine Ops.nil ?_
      refine Run.ret1 rfl rfl ?_
      first
        | exact ⟨_, _, hbq.1, hbq.2, rfl, rfl⟩
        | exact ⟨_, _, by decide, by decide, rfl, rfl⟩
        | exact ⟨_, _, (mod_bd (sh_lo _) (by decide)).1, by have := (mod_bd (n := 256) (sh_lo (IntKind.u64.wrap 0)) (by decide)); exact Int.le_of_lt_add_one (mod_bd (sh_lo _) (by decide)).2, rfl, rfl⟩

set_option maxRecDepth 4000 in
/-- (*spec.l00Src).pick -/
theorem f_s_l00Src_pick (w0 : World) (w : World) (b : Nat) (vc : Value) (co : List Int) (q : Nat) (sd : Int) (F : List Ent) (n : Int) (hw : Sat w0 w (srcE b vc q sd :: F)) (hc : Rd w0 vc 1 co.length (AW.bytes co)) (hb : ∀ x ∈ co, 0 ≤ x ∧ x ≤ 255) (hcl : co.length ≤ 1000000000) (hq : q ≤ 999999999) (hn : n ≤ 200) : RetO Try.prog 118 [.pointer (some ⟨b, 0, none⟩), .int .i64 n] w0 w (fun u L => ∃ (x : Int) (q' : Nat) (sd' : Int), 0 ≤ x ∧ (x < n ∨ x = 0 ∧ n ≤ 1) ∧ q' ≤ q + 2 ∧ u = .int .i64 x ∧ L = srcE b vc q' sd' :: F) := by
  refine RetO.enter Try.func118 rfl Try.ntmps118 rfl hw ?_
  refine Run.seq ?_
  refine Run.region ?_
  refine Ops.pure rfl (Pure.assign rfl) ?_
  refine Ops.nil ?_
  refine Run.seq ?_
  refine Run.seq ?_
  refine Run.region ?_
  refine Ops.pure rfl (Pure.move rfl) ?_
  refine Ops.pure rfl (Pure.leq rfl rfl) ?_
  refine Ops.nil ?_
  refine Run.cond rfl (fun c7 => ?_) (fun c7 => ?_)
  · skip
    replace c7 := dT c7
    refine Run.seq ?_
    refine Run.region ?_
    refine Ops.pure rfl (Pure.assign rfl) ?_
    refine Ops.nil ?_
    refine Run.ret1 rfl rfl ?_
    exact ⟨0, q, sd, by decide, .inr ⟨rfl, c7⟩, by omega, rfl, rfl⟩
  · skip
    replace c7 := dF c7
    refine Run.skip ?_
    refine Run.seq ?_
    refine Run.region ?_
    refine Ops.pure rfl (Pure.move rfl) ?_
    refine Ops.go rfl (Loud.callO fn190 rfl (fun w hw => f_s_l00Src_next _ w b vc co q sd F hw hc hb hcl (by omega))) ?_
    rintro v9 L9 hQ9
    obtain ⟨x9, sd9, hx9, hy9, rfl, rfl⟩ := hQ9
    refine Ops.pure rfl (Pure.assign rfl) ?_
    refine Ops.nil ?_
    refine Run.seq ?_
    refine Run.seq ?_
    refine Run.region ?_
    refine Ops.pure rfl (Pure.move rfl) ?_
    refine Ops.pure rfl (Pure.gtr rfl rfl) ?_
    refine Ops.nil ?_
    refine Run.condEF rfl (decide_eq_false (by omega)) ?_
    refine Run.skip ?_
    refine Run.seq ?_
    refine Run.region ?_
    refine Ops.pure rfl (Pure.move rfl) ?_
    refine Ops.pure rfl (Pure.move rfl) ?_
    refine Ops.pure rfl (Pure.rem rfl rfl (by omega) (by omega)) ?_
    refine Ops.pure rfl (Pure.assign rfl) ?_
    refine Ops.nil ?_
    refine Run.ret1 rfl rfl ?_
    exact ⟨_, _, _, (mod_bd (by assumption) (by omega)).1, .inl (mod_bd (by assumption) (by omega)).2, by omega, rfl, rfl⟩

set_option maxRecDepth 4000 in
/-- (*spec.l00Src).one -/
theorem f_s_l00Src_one (w0 : World) (w : World) (b : Nat) (vc : Value) (co : List Int) (q : Nat) (sd : Int) (F : List Ent) (n : Int) (hw : Sat w0 w (srcE b vc q sd :: F)) (hc : Rd w0 vc 1 co.length (AW.bytes co)) (hb : ∀ x ∈ co, 0 ≤ x ∧ x ≤ 255) (hcl : co.length ≤ 1000000000) (hq : q ≤ 999999999) (hn : n ≤ 200) : RetO Try.prog 116 [.pointer (some ⟨b, 0, none⟩), .int .i64 n] w0 w (fun u L => ∃ (x : Bool) (q' : Nat) (sd' : Int), q' ≤ q + 2 ∧ u = .bool x ∧ L = srcE b vc q' sd' :: F) := by
  refine RetO.enter Try.func116 rfl Try.ntmps116 rfl hw ?_
  refine Run.seq ?_
  refine Run.region ?_
  refine Ops.pure rfl (Pure.assign rfl) ?_
  refine Ops.nil ?_
  refine Run.seq ?_
  refine Run.region ?_
  refine Ops.pure rfl (Pure.move rfl) ?_
  refine Ops.pure rfl (Pure.move rfl) ?_
  refine Ops.go rfl (Loud.callO fn118 rfl (fun w hw => f_s_l00Src_pick _ w b vc co q sd F n hw hc hb hcl hq hn)) ?_
  rintro v7 L7 hQ7
  obtain ⟨x7, q7, sd7, hx7, hy7, hq7, rfl, rfl⟩ := hQ7
  refine Ops.pure rfl (Pure.eql rfl rfl) ?_
  refine Ops.pure rfl (Pure.assign rfl) ?_
  refine Ops.nil ?_
  refine Run.ret1 rfl rfl ?_
  exact ⟨_, _, _, by omega, rfl, rfl⟩

set_option maxRecDepth 4000 in
/-- (*spec.l00Src).among -/
theorem f_s_l00Src_among (w0 : World) (w : World) (b : Nat) (vc : Value) (co : List Int) (q : Nat) (sd : Int) (F : List Ent) (v : Value) (ls : List Int) (hw : Sat w0 w (srcE b vc q sd :: F)) (hc : Rd w0 vc 1 co.length (AW.bytes co)) (hb : ∀ x ∈ co, 0 ≤ x ∧ x ≤ 255) (hcl : co.length ≤ 1000000000) (hq : q ≤ 999999999) (hv : RdL w0 (srcE b vc q sd :: F) v 1 ls.length (ints ls)) (hv2 : ∀ q' sd', RdL w0 (srcE b vc q' sd' :: F) v 1 ls.length (ints ls)) (h1 : 1 ≤ ls.length) (h2 : ls.length ≤ 200) : RetO Try.prog 117 [.pointer (some ⟨b, 0, none⟩), v] w0 w (fun u L => ∃ (x : Int) (q' : Nat) (sd' : Int), x ∈ ls ∧ q' ≤ q + 2 ∧ u = .int .i64 x ∧ L = srcE b vc q' sd' :: F) := by
  refine RetO.enter Try.func117 rfl Try.ntmps117 rfl hw ?_
  refine Run.seq ?_
  refine Run.region ?_
  refine Ops.pure rfl (Pure.assign rfl) ?_
  refine Ops.nil ?_
  refine Run.seq ?_
  refine Run.region ?_
  refine Ops.pure rfl (Pure.move rfl) ?_
  refine Ops.pure rfl (Pure.move rfl) ?_
  refine Ops.pure rfl (Pure.move rfl) ?_
  refine Ops.pure rfl (Pure.len sl32 hv rfl) ?_
  refine Ops.go rfl (Loud.callO fn118 rfl (fun w hw => f_s_l00Src_pick _ w b vc co q sd F ls.length hw hc hb hcl hq (by omega))) ?_
  rintro v9 L9 hQ9
  obtain ⟨x9, q9, sd9, hx9, hy9, hq9, rfl, rfl⟩ := hQ9
  obtain ⟨m, rfl⟩ := Int.eq_ofNat_of_zero_le hx9
  have hm : m < ls.length := by omega
  refine Ops.pure rfl (Pure.idx1N sl32 (hv2 _ _) rfl rfl (by first | assumption | omega | (simp; omega))) ?_
  refine Ops.pure rfl (Pure.ld cell2 rfl (hv2 _ _) (by first | exact ints_get (by omega) | exact bools_get (by omega) | exact strs_get (by omega) | exact vals_get (by first | omega | (simp; omega)))) ?_
  refine Ops.pure rfl (Pure.assign rfl) ?_
  refine Ops.nil ?_
  refine Run.ret1 rfl rfl ?_
  exact ⟨_, _, _, mem_of_getD hm rfl, by omega, rfl, rfl⟩

theorem okP_zero {a b : Int} (hs : SizeOk a b) : okP a b (List.replicate (inn a b) 0) = true := okP_true (k := inn a b) hs (List.length_replicate ..) (by rw [List.length_replicate]; omega) (fun j hj => by rw [List.getD, List.getElem?_replicate]; rw [if_pos hj]; exact ⟨Int.le_refl _, by decide⟩)
theorem okP_setD {a b : Int} {l : List Int} (h : okP a b l = true) (k : Nat) {y : Int} (h0 : 0 ≤ y) (h1 : y ≤ 2) : okP a b (l.set k y) = true := by
  obtain ⟨hs, hl, hx⟩ := okP_spec h
  unfold okP
  refine decide_eq_true ⟨hs, by rw [List.length_set]; exact hl, fun x hm => ?_⟩
  rcases List.mem_or_eq_of_mem_set hm with hm | rfl
  · exact hx x hm
  · exact ⟨h0, h1⟩

set_option maxRecDepth 4000 in
/-- spec.l02Draw -/
theorem f_s_l02Draw (w0 : World) (w : World) (b : Nat) (vc : Value) (co : List Int) (q : Nat) (sd : Int) (F : List Ent) (n : Int) (hw : Sat w0 w (srcE b vc q sd :: F)) (hc : Rd w0 vc 1 co.length (AW.bytes co)) (hb : ∀ x ∈ co, 0 ≤ x ∧ x ≤ 255) (hcl : co.length ≤ 1000000000) (hq : q ≤ 999990000) (hn0 : 1 ≤ n) (hn : n ≤ 8) : RetO Try.prog 95 [.pointer (some ⟨b, 0, none⟩), .int .i64 n] w0 w (fun u L => ∃ (a c : Int) (l : List Int) (x : Value) (q' : Nat) (sd' : Int), 1 ≤ a ∧ a ≤ n ∧ 1 ≤ c ∧ c ≤ n ∧ okP a c l = true ∧ x.oneCell' = true ∧ q' ≤ q + 1000 ∧ u = .agg #[.int .i64 a, .int .i64 c, x] ∧ L = .row 2 1 x l.length (ints l) :: srcE b vc q' sd' :: F) := by
  refine RetO.enter Try.func95 rfl Try.ntmps95 rfl hw ?_
  refine Run.seq ?_
  refine Run.region ?_
  refine Ops.go rfl (Loud.alloc zero35 rfl) ?_
  rintro _ _ ⟨b4, rfl, rfl⟩
  refine Ops.nil ?_
  refine Run.seq ?_
  refine Run.region ?_
  refine Ops.pure rfl (Pure.move rfl) ?_
  refine Ops.pure rfl (Pure.move rfl) ?_
  refine Ops.go rfl (Loud.callO fn118 rfl (fun w hw => f_s_l00Src_pick _ w b vc co q sd (.box b4 35 [.int .i64 0, .int .i64 0, .slice none 0 0] :: F) n (Sat.front 1 rfl hw) hc hb hcl (by omega) (by omega))) ?_
  rintro v11 L11 hQ11
  obtain ⟨x11, q11, sd11, hx11, hy11, hq11, rfl, rfl⟩ := hQ11
  refine Ops.pure rfl (Pure.add rfl rfl (by omega) (by omega)) ?_
  refine Ops.pure rfl (Pure.assign rfl) ?_
  refine Ops.nil ?_
  refine Run.seq ?_
  refine Run.region ?_
  refine Ops.pure rfl (Pure.move rfl) ?_
  refine Ops.pure rfl (Pure.move rfl) ?_
  refine Ops.pure rfl (Pure.move rfl) ?_
  refine Ops.go rfl (Loud.callO fn118 rfl (fun w hw => f_s_l00Src_pick _ w b vc co _ _ (.box b4 35 [.int .i64 0, .int .i64 0, .slice none 0 0] :: F) n hw hc hb hcl (by omega) (by omega))) ?_
  rintro v16 L16 hQ16
  obtain ⟨x16, q16, sd16, hx16, hy16, hq16, rfl, rfl⟩ := hQ16
  have hs : SizeOk (1 + x11) (1 + x16) := by unfold SizeOk; omega
  have hib := (inn_eq hs).2.1
  refine Ops.pure rfl (Pure.add rfl rfl (by omega) (by omega)) ?_
  refine Ops.go rfl (Loud.callR fn170 rfl (fun w hw => f_s_l02New w (1 + x11) (1 + x16) hs)) ?_
  rintro v18 _ ⟨L18, hQ18, rfl⟩
  obtain ⟨x18, h18, rfl, rfl⟩ := hQ18
  refine Ops.go rfl (Loud.alloc zero35 rfl) ?_
  rintro _ _ ⟨b6, rfl, rfl⟩
  refine Ops.store (Stores.box 0 rfl rfl rfl size35 (one3 h18) rfl rfl) ?_
  refine Ops.nil ?_
  refine Run.seq ?_
  refine Run.region ?_
  refine Ops.pure rfl (Pure.move rfl) ?_
  refine Ops.go rfl (Loud.callO fn118 rfl (fun w hw => f_s_l00Src_pick _ w b vc co _ _ _ 4 (Sat.front 2 rfl hw) hc hb hcl (by omega) (by omega))) ?_
  rintro v20 L20 hQ20
  obtain ⟨x20, q20, sd20, hx20, hy20, hq20, rfl, rfl⟩ := hQ20
  refine Ops.pure rfl (Pure.assign rfl) ?_
  refine Ops.nil ?_
  refine Run.seq ?_
  refine Run.seq ?_
  refine Run.region ?_
  refine Ops.pure rfl (Pure.assign rfl) ?_
  refine Ops.nil ?_
  refine Run.block ?_
  refine Run.loop4 (X := Nat) (Y := List Int) (Z := Nat) (V := Int) (fun i m q' sd' => [(0, .pointer (some ⟨b, 0, none⟩)), (4, .pointer (some ⟨b4, 0, none⟩)), (6, .pointer (some ⟨b6, 0, none⟩)), (7, .int .i64 x20), (8, .int .i64 i)]) (fun i m q' sd' => .box b6 35 [.int .i64 (1 + x11), .int .i64 (1 + x16), x18] :: .row 2 1 x18 (inn (1 + x11) (1 + x16)) (ints m) :: srcE b vc q' sd' :: .box b4 35 [.int .i64 0, .int .i64 0, .slice none 0 0] :: F) (fun i m q' sd' => okP (1 + x11) (1 + x16) m = true ∧ i ≤ inn (1 + x11) (1 + x16) ∧ q' ≤ q + 6 + 4 * i) (fun i m q' sd' => inn (1 + x11) (1 + x16) - i) 0 (List.replicate (inn (1 + x11) (1 + x16)) 0) q20 sd20 ?_ ?_ ?_ ?_
  · exact ⟨okP_zero hs, Nat.zero_le _, by omega⟩
  · exact ⟨rfl, rfl, rfl, rfl, rfl, trivial⟩
  · refine Ext.take 1 rfl (Ext.take 1 rfl (Ext.take 0 rfl (Ext.refl _)))
  · rintro i m q' sd' ⟨hkm, hi, hq'⟩
    have hml := okP_inn hkm
    have hml2 : (ints m).length = inn (1 + x11) (1 + x16) := by rw [ints, List.length_map]; exact hml
    refine Run.seq ?_
    refine Run.seq ?_
    refine Run.region ?_
    refine Ops.pure rfl (Pure.move rfl) ?_
    refine Ops.pure rfl (Pure.fieldAddrB fld35_2 rfl) ?_
    refine Ops.pure rfl (Pure.ldB 0 rfl cell32 rfl rfl) ?_
    refine Ops.pure rfl (Pure.len sl32 (RdL.own 1 rfl) rfl) ?_
    refine Ops.pure rfl (Pure.lss rfl rfl) ?_
    refine Ops.nil ?_
    refine Run.cond rfl (fun c25 => ?_) (fun c25 => ?_)
    · skip
      replace c25 := dT c25
      refine Run.skip ?_
      refine Run.seq ?_
      refine Run.block ?_
      refine Run.seq ?_
      refine Run.region ?_
      refine Ops.pure rfl (Pure.move rfl) ?_
      refine Ops.go rfl (Loud.callO fn118 rfl (fun w hw => f_s_l00Src_pick _ w b vc co _ _ _ 4 (Sat.front 2 rfl hw) hc hb hcl (by omega) (by omega))) ?_
      rintro v29 L29 hQ29
      obtain ⟨x29, q29, sd29, hx29, hy29, hq29, rfl, rfl⟩ := hQ29
      refine Ops.pure rfl (Pure.move rfl) ?_
      refine Ops.pure rfl (Pure.lss rfl rfl) ?_
      refine Ops.nil ?_
      refine Run.cond rfl (fun c31 => ?_) (fun c31 => ?_)
      · skip
        replace c31 := dT c31
        refine Any.startE (E := [118]) follows ?_
        refine Any.take 2 rfl (by kernel_rfl) rfl (QOp.pure (Pure.move rfl)) ?_
        refine Any.take 3 rfl (by kernel_rfl) rfl (QOp.pure (Pure.move rfl)) ?_
        refine Any.takeA 0 rfl (by kernel_rfl) rfl (fun _ => Pure.fieldAddrB fld35_2 rfl) ?_
        refine Any.two 1 4 (by kernel_rfl) ?_ ?_
        · skip
          refine OneL.q rfl rfl (QOp.pure (Pure.ldB 1 rfl cell32 rfl rfl)) ?_
          refine Any.one 4 (by kernel_rfl) ?_
          refine OneL.loud rfl rfl (Loud.callO fn118 rfl (fun w hw => f_s_l00Src_pick _ w b vc co _ _ _ 2 (Sat.front 0 rfl hw) hc hb hcl (by omega) (by omega))) ?_
          rintro v36 L36 hQ36
          obtain ⟨x36, q36, sd36, hx36, hy36, hq36, rfl, rfl⟩ := hQ36
          refine ⟨.inl (by kernel_rfl), ?_⟩
          refine Any.take 5 rfl (by kernel_rfl) rfl (QOp.pure (Pure.add rfl rfl (by omega) (by omega))) ?_
          refine Any.take 6 rfl (by kernel_rfl) rfl (QOp.pure (Pure.idx1N sl32 (RdL.own 2 rfl) rfl rfl (by first | assumption | omega | (simp; omega)))) ?_
          refine Any.one 7 (by kernel_rfl) ?_
          refine OneL.store rfl (Stores.row1 2 rfl size2 rfl rfl rfl (by first | assumption | omega | (simp; omega))) (by kernel_rfl) ?_
          refine Any.done (by kernel_rfl) ?_
          refine Run.blk ?_
          refine Run.region ?_
          refine Ops.pure rfl (Pure.move rfl) ?_
          refine Ops.pure rfl (Pure.add rfl rfl (by omega) (by omega)) ?_
          refine Ops.pure rfl (Pure.assign rfl) ?_
          refine Ops.nil ?_
          refine Run.asrt ?_
          first
            | (refine ⟨i + 1, m.set i (1 + x36), q36, sd36, ⟨⟨okP_setD hkm _ (by omega) (by omega), by omega, by omega⟩, by omega⟩, ⟨rfl, rfl, rfl, rfl, rfl, trivial⟩, ?_⟩
               rw [ints, List.map_set]
               exact Ext.take 1 rfl (Ext.take 1 rfl (Ext.refl _)))
            | (refine ⟨i + 1, m, q29, sd29, ⟨⟨hkm, by omega, by omega⟩, by omega⟩, ⟨rfl, rfl, rfl, rfl, rfl, trivial⟩, ?_⟩
               exact Ext.take 1 rfl (Ext.take 1 rfl (Ext.refl _)))
        · skip
          refine OneL.loud rfl rfl (Loud.callO fn118 rfl (fun w hw => f_s_l00Src_pick _ w b vc co _ _ _ 2 (Sat.front 0 rfl hw) hc hb hcl (by omega) (by omega))) ?_
          rintro v36 L36 hQ36
          obtain ⟨x36, q36, sd36, hx36, hy36, hq36, rfl, rfl⟩ := hQ36
          refine ⟨.inl (by kernel_rfl), ?_⟩
          refine Any.take 1 rfl (by kernel_rfl) rfl (QOp.pure (Pure.ldB 1 rfl cell32 rfl rfl)) ?_
          refine Any.take 5 rfl (by kernel_rfl) rfl (QOp.pure (Pure.add rfl rfl (by omega) (by omega))) ?_
          refine Any.take 6 rfl (by kernel_rfl) rfl (QOp.pure (Pure.idx1N sl32 (RdL.own 2 rfl) rfl rfl (by first | assumption | omega | (simp; omega)))) ?_
          refine Any.one 7 (by kernel_rfl) ?_
          refine OneL.store rfl (Stores.row1 2 rfl size2 rfl rfl rfl (by first | assumption | omega | (simp; omega))) (by kernel_rfl) ?_
          refine Any.done (by kernel_rfl) ?_
          refine Run.blk ?_
          refine Run.region ?_
          refine Ops.pure rfl (Pure.move rfl) ?_
          refine Ops.pure rfl (Pure.add rfl rfl (by omega) (by omega)) ?_
          refine Ops.pure rfl (Pure.assign rfl) ?_
          refine Ops.nil ?_
          refine Run.asrt ?_
          first
            | (refine ⟨i + 1, m.set i (1 + x36), q36, sd36, ⟨⟨okP_setD hkm _ (by omega) (by omega), by omega, by omega⟩, by omega⟩, ⟨rfl, rfl, rfl, rfl, rfl, trivial⟩, ?_⟩
               rw [ints, List.map_set]
               exact Ext.take 1 rfl (Ext.take 1 rfl (Ext.refl _)))
            | (refine ⟨i + 1, m, q29, sd29, ⟨⟨hkm, by omega, by omega⟩, by omega⟩, ⟨rfl, rfl, rfl, rfl, rfl, trivial⟩, ?_⟩
               exact Ext.take 1 rfl (Ext.take 1 rfl (Ext.refl _)))
      · skip
        replace c31 := dF c31
        refine Run.skip ?_
        refine Run.blk ?_
        refine Run.region ?_
        refine Ops.pure rfl (Pure.move rfl) ?_
        refine Ops.pure rfl (Pure.add rfl rfl (by omega) (by omega)) ?_
        refine Ops.pure rfl (Pure.assign rfl) ?_
        refine Ops.nil ?_
        refine Run.asrt ?_
        first
          | (refine ⟨i + 1, m.set i (1 + x36), q36, sd36, ⟨⟨okP_setD hkm _ (by omega) (by omega), by omega, by omega⟩, by omega⟩, ⟨rfl, rfl, rfl, rfl, rfl, trivial⟩, ?_⟩
             rw [ints, List.map_set]
             exact Ext.take 1 rfl (Ext.take 1 rfl (Ext.refl _)))
          | (refine ⟨i + 1, m, q29, sd29, ⟨⟨hkm, by omega, by omega⟩, by omega⟩, ⟨rfl, rfl, rfl, rfl, rfl, trivial⟩, ?_⟩
             exact Ext.take 1 rfl (Ext.take 1 rfl (Ext.refl _)))
    · skip
      replace c25 := dF c25
      refine Run.exit rfl ?_
      refine Run.seq ?_
      refine Run.region ?_
      refine Ops.pure rfl (Pure.ldBA 0 rfl cell35 rfl rfl rfl) ?_
      refine Ops.store (Stores.box 3 rfl rfl rfl size35 (one3 h18) rfl rfl) ?_
      refine Ops.nil ?_
      refine Run.retCx 3 rfl rfl rfl cell35 rfl (Ext.take 1 rfl (Ext.take 1 rfl (Ext.right [_, _] _))) ?_
      have e : i = inn (1 + x11) (1 + x16) := by omega
      exact ⟨1 + x11, 1 + x16, m, x18, q', sd', by omega, by omega, by omega, by omega, hkm, h18, by omega, rfl, by rw [hml]⟩

end Go.Proofs.Ytmfinopdokkjcaa
