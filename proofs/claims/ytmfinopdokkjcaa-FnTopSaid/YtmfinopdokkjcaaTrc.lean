/- Contracts of functions, printed by program from annotations. -/
import Derived.Test.YtmfinopdokkjcaaWlk
import Derived.Test.YtmfinopdokkjcaaAwq
namespace Go.Proofs.Ytmfinopdokkjcaa
open Go Go.AW Go.RowKit
set_option linter.unusedVariables false
set_option linter.unusedSimpArgs false

theorem eqs72 : EqT2 Try.prog 72 := EqT2.mk' Try.underlying72 (by kernel_rfl) (by kernel_rfl) (by kernel_rfl) (by kernel_rfl) rfl rfl Try.underlying2 Try.underlying2 (by kernel_rfl) (by kernel_rfl)
theorem eqs167 : EqT4 Try.prog 167 := EqT4.mk' Try.underlying167 (by kernel_rfl) (by kernel_rfl) (by kernel_rfl) (by kernel_rfl) (by kernel_rfl) rfl rfl rfl eqs72 Try.underlying2 Try.underlying2 (by kernel_rfl) (by kernel_rfl) (by kernel_rfl)
abbrev encW (w : Wk) : List Value := [.int .i64 w.1, .int .i64 w.2.1, .int .i64 w.2.2.1, .int .i64 w.2.2.2]
theorem encW_len (w : Wk) : (encW w).length = 4 := rfl
abbrev encQ (p : Int × Int) : List Value := [.int .i64 p.1, .int .i64 p.2]
theorem encQ_len (p : Int × Int) : (encQ p).length = 2 := rfl
theorem stp_pp {a b x y dx dy : Int} {l : List Int} (h1 : FlX a b l (x + dx) (y + dy)) (h2 : FlY a b l (x + dx) (y + dy)) : stp a b l (x, y, dx, dy) = (x + dx, y + dy, -dx, -dy) := by rw [stp_mk, if_pos h1, if_pos h2]
theorem stp_pn {a b x y dx dy : Int} {l : List Int} (h1 : FlX a b l (x + dx) (y + dy)) (h2 : ¬ FlY a b l (x + dx) (y + dy)) : stp a b l (x, y, dx, dy) = (x + dx, y + dy, -dx, dy) := by rw [stp_mk, if_pos h1, if_neg h2]
theorem stp_np {a b x y dx dy : Int} {l : List Int} (h1 : ¬ FlX a b l (x + dx) (y + dy)) (h2 : FlY a b l (x + dx) (y + dy)) : stp a b l (x, y, dx, dy) = (x + dx, y + dy, dx, -dy) := by rw [stp_mk, if_neg h1, if_pos h2]
theorem stp_nn {a b x y dx dy : Int} {l : List Int} (h1 : ¬ FlX a b l (x + dx) (y + dy)) (h2 : ¬ FlY a b l (x + dx) (y + dy)) : stp a b l (x, y, dx, dy) = (x + dx, y + dy, dx, dy) := by rw [stp_mk, if_neg h1, if_neg h2]
theorem wk_parts {b k : Int} (hb : 1 ≤ b) (h0 : 0 ≤ k) (h1 : k ≤ 1000) : 0 ≤ k / (2 * b) ∧ k / (2 * b) ≤ 1000 ∧ 0 ≤ k % (2 * b) ∧ k % (2 * b) < 2 * b := by
  have q0 : 0 ≤ k / (2 * b) := Int.ediv_nonneg h0 (by omega)
  have q1 : k / (2 * b) ≤ k := Int.ediv_le_self _ h0
  have r0 := Int.emod_nonneg k (show 2 * b ≠ 0 by omega)
  have r1 := Int.emod_lt_of_pos k (show 0 < 2 * b by omega)
  omega
theorem wkAt_yes {b k : Int} (h : (k / (2 * b) + k % (2 * b)) % 2 = 1) : wkAt b k = (k / (2 * b), k % (2 * b), 1, 1) := by unfold wkAt; rw [if_pos h]
theorem wkAt_no {b k : Int} (h : ¬ (k / (2 * b) + k % (2 * b)) % 2 = 1) : wkAt b k = (k / (2 * b), k % (2 * b) + 1, 1, -1) := by unfold wkAt; rw [if_neg h]
theorem wk_even {q r : Int} (h : q % 2 = 0) (r0 : 0 ≤ r) : (if (q + r) % 2 = 1 then (q, r, 1, 1) else (q, r + 1, 1, -1) : Wk) = (q, r / 2 * 2 + 1, 1, 2 * (r % 2) - 1) := by
  split <;> (simp only [Prod.mk.injEq, true_and, and_true]; omega)
theorem wk_odd1 {q r : Int} (h : ¬ q % 2 = 0) (h2 : r % 2 = 1) (r0 : 0 ≤ r) : (if (q + r) % 2 = 1 then (q, r, 1, 1) else (q, r + 1, 1, -1) : Wk) = (q, (r + 1) / 2 * 2, 1, -1) := by
  split <;> (simp only [Prod.mk.injEq, true_and, and_true]; omega)
theorem wk_odd0 {q r : Int} (h : ¬ q % 2 = 0) (h2 : ¬ r % 2 = 1) (r0 : 0 ≤ r) : (if (q + r) % 2 = 1 then (q, r, 1, 1) else (q, r + 1, 1, -1) : Wk) = (q, (r + 1) / 2 * 2, 1, 1) := by
  split <;> (simp only [Prod.mk.injEq, true_and, and_true]; omega)
theorem wkAt_even {b k : Int} (hb : 1 ≤ b) (h : k / (2 * b) % 2 = 0) : wkAt b k = (k / (2 * b), k % (2 * b) / 2 * 2 + 1, 1, 2 * (k % (2 * b) % 2) - 1) := wk_even h (Int.emod_nonneg k (show 2 * b ≠ 0 by omega))
theorem wkAt_odd1 {b k : Int} (hb : 1 ≤ b) (h : ¬ k / (2 * b) % 2 = 0) (h2 : k % (2 * b) % 2 = 1) : wkAt b k = (k / (2 * b), (k % (2 * b) + 1) / 2 * 2, 1, -1) := wk_odd1 h h2 (Int.emod_nonneg k (show 2 * b ≠ 0 by omega))
theorem wkAt_odd0 {b k : Int} (hb : 1 ≤ b) (h : ¬ k / (2 * b) % 2 = 0) (h2 : ¬ k % (2 * b) % 2 = 1) : wkAt b k = (k / (2 * b), (k % (2 * b) + 1) / 2 * 2, 1, 1) := wk_odd0 h h2 (Int.emod_nonneg k (show 2 * b ≠ 0 by omega))
theorem sg_mid {a b x y dx dy : Int} (hs : SizeOk a b) (h : VW a b (x, y, dx, dy)) : 0 ≤ min x (x + dx) * 2 * b ∧ min x (x + dx) * 2 * b ≤ 256 ∧ 0 ≤ min x (x + dx) ∧ min x (x + dx) ≤ 16 ∧ 0 ≤ min y (y + dy) ∧ min y (y + dy) ≤ 16 ∧ min x (x + dx) * 2 * b + min y (y + dy) = sg b (x, y, dx, dy) := by
  obtain ⟨s1, s2, s3, s4⟩ := hs
  have hp := sg_parts h
  have h1 := mul_bd (a := min x (x + dx) * 2) (b := b) (A := 32) (B := 8) (by omega) (by omega) (by omega) s4
  refine ⟨h1.1, by omega, by omega, by omega, by omega, by omega, ?_⟩
  rw [sg_mk, Int.mul_assoc]

set_option maxRecDepth 4000 in
/-- (impl.Panel).segments -/
theorem f_i_Panel_segments (w : World) (a : Int) (b : Int) (v : Value) (hs : SizeOk a b) : RetV Try.prog 154 [.agg #[.int .i64 a, .int .i64 b, v]] w (.int .i64 (4 * a * b)) := by
  have h4 := (segN_le hs)
  obtain ⟨hs1, hs2, hs3, hs4⟩ := id hs
  refine Ret.enter Try.func154 rfl Try.ntmps154 rfl ?_
  refine Run.seq ?_
  refine Run.region ?_
  refine Ops.go rfl (Loud.box rfl rfl) ?_
  rintro _ _ ⟨b1, rfl, rfl⟩
  refine Ops.pure rfl (Pure.assign rfl) ?_
  refine Ops.nil ?_
  refine Run.seq ?_
  refine Run.region ?_
  refine Ops.pure rfl (Pure.fieldAddrB fld35_0 rfl) ?_
  refine Ops.pure rfl (Pure.ldB 0 rfl cell2 rfl rfl) ?_
  refine Ops.pure rfl (Pure.mul rfl rfl (by omega) (by omega)) ?_
  refine Ops.pure rfl (Pure.fieldAddrB fld35_1 rfl) ?_
  refine Ops.pure rfl (Pure.ldB 0 rfl cell2 rfl rfl) ?_
  refine Ops.pure rfl (Pure.mul rfl rfl (by omega) (by omega)) ?_
  refine Ops.pure rfl (Pure.assign rfl) ?_
  refine Ops.nil ?_
  refine Run.ret1 rfl rfl ?_
  rfl

set_option maxRecDepth 4000 in
/-- (impl.Panel).walker -/
theorem f_i_Panel_walker (w : World) (a : Int) (b : Int) (v : Value) (k : Int) (hs : SizeOk a b) (h0 : 0 ≤ k) (h1 : k ≤ 1000) : RetV Try.prog 172 [.agg #[.int .i64 a, .int .i64 b, v], .int .i64 k] w (.agg (encW (wkAt b k)).toArray) := by
  obtain ⟨hs1, hs2, hs3, hs4⟩ := id hs
  have hkp := wk_parts hs3 h0 h1
  refine Ret.enter Try.func172 rfl Try.ntmps172 rfl ?_
  refine Run.seq ?_
  refine Run.region ?_
  refine Ops.go rfl (Loud.box rfl rfl) ?_
  rintro _ _ ⟨b2, rfl, rfl⟩
  refine Ops.go rfl (Loud.alloc zero167 rfl) ?_
  rintro _ _ ⟨b4, rfl, rfl⟩
  refine Ops.nil ?_
  refine Run.seq ?_
  refine Any.start follows ?_
  refine Any.take 0 rfl (by kernel_rfl) rfl (QOp.pure (Pure.move rfl)) ?_
  refine Any.take 1 rfl (by kernel_rfl) rfl (QOp.pure (Pure.fieldAddrB fld35_1 rfl)) ?_
  refine Any.take 2 rfl (by kernel_rfl) rfl (QOp.pure (Pure.ldB 1 rfl cell2 rfl rfl)) ?_
  refine Any.take 3 rfl (by kernel_rfl) rfl (QOp.pure (Pure.mul rfl rfl (by omega) (by omega))) ?_
  refine Any.take 4 rfl (by kernel_rfl) rfl (QOp.pure (Pure.quo rfl rfl (by omega) (by omega) (by omega))) ?_
  refine Any.take 5 rfl (by kernel_rfl) rfl (QOp.pure (Pure.move rfl)) ?_
  refine Any.take 6 rfl (by kernel_rfl) rfl (QOp.pure (Pure.fieldAddrB fld35_1 rfl)) ?_
  refine Any.take 7 rfl (by kernel_rfl) rfl (QOp.pure (Pure.ldB 1 rfl cell2 rfl rfl)) ?_
  refine Any.take 8 rfl (by kernel_rfl) rfl (QOp.pure (Pure.mul rfl rfl (by omega) (by omega))) ?_
  refine Any.take 9 rfl (by kernel_rfl) rfl (QOp.pure (Pure.rem rfl rfl (by omega) (by omega))) ?_
  refine Any.take 10 rfl (by kernel_rfl) rfl (QOp.pure (Pure.assign rfl)) ?_
  refine Any.take 11 rfl (by kernel_rfl) rfl (QOp.pure (Pure.assign rfl)) ?_
  refine Any.done (by kernel_rfl) ?_
  refine Run.seq ?_
  refine Run.seq ?_
  refine Run.region ?_
  refine Ops.pure rfl (Pure.move rfl) ?_
  refine Ops.pure rfl (Pure.move rfl) ?_
  refine Ops.pure rfl (Pure.add rfl rfl (by omega) (by omega)) ?_
  refine Ops.pure rfl (Pure.rem rfl rfl (by omega) (by omega)) ?_
  refine Ops.pure rfl (Pure.eql rfl rfl) ?_
  refine Ops.nil ?_
  refine Run.cond rfl (fun c21 => ?_) (fun c21 => ?_)
  · skip
    replace c21 := dT c21
    refine Run.seq ?_
    refine Run.region ?_
    refine Ops.pure rfl (Pure.move rfl) ?_
    refine Ops.pure rfl (Pure.move rfl) ?_
    refine Ops.pure rfl (Pure.build rfl (bld72_2 _ _ (by first | rfl | assumption) (by first | rfl | assumption))) ?_
    refine Ops.pure rfl (Pure.build rfl (bld167_3 _ _ _ _ (by first | rfl | assumption) (by first | rfl | assumption))) ?_
    refine Ops.store (Stores.box 0 rfl rfl rfl size167 (allOne rfl) rfl rfl) ?_
    refine Ops.nil ?_
    refine Run.retC 0 rfl rfl rfl cell167 rfl ?_
    rw [wkAt_yes c21]
    try rfl
  · skip
    replace c21 := dF c21
    refine Run.skip ?_
    refine Run.seq ?_
    refine Run.region ?_
    refine Ops.pure rfl (Pure.move rfl) ?_
    refine Ops.pure rfl (Pure.move rfl) ?_
    refine Ops.pure rfl (Pure.add rfl rfl (by omega) (by omega)) ?_
    refine Ops.pure rfl (Pure.build rfl (bld72_2 _ _ (by first | rfl | assumption) (by first | rfl | assumption))) ?_
    refine Ops.pure rfl (Pure.build rfl (bld167_3 _ _ _ _ (by first | rfl | assumption) (by first | rfl | assumption))) ?_
    refine Ops.store (Stores.box 0 rfl rfl rfl size167 (allOne rfl) rfl rfl) ?_
    refine Ops.nil ?_
    refine Run.retC 0 rfl rfl rfl cell167 rfl ?_
    rw [wkAt_no c21]
    try rfl

set_option maxRecDepth 4000 in
/-- spec.l03Walker -/
theorem f_s_l03Walker (w : World) (p : Nat) (a : Int) (b : Int) (v : Value) (k : Int) (hp : Rd w (boxS p) 3 1 [.int .i64 a, .int .i64 b, v]) (hs : SizeOk a b) (h0 : 0 ≤ k) (h1 : k ≤ 1000) : RetV Try.prog 209 [.pointer (some ⟨p, 0, none⟩), .int .i64 k] w (.agg (encW (wkAt b k)).toArray) := by
  obtain ⟨hs1, hs2, hs3, hs4⟩ := id hs
  have hkp := wk_parts hs3 h0 h1
  refine Ret.enter Try.func209 rfl Try.ntmps209 rfl ?_
  refine Run.seq ?_
  refine Run.region ?_
  refine Ops.go rfl (Loud.alloc zero167 rfl) ?_
  rintro _ _ ⟨b4, rfl, rfl⟩
  refine Ops.nil ?_
  refine Run.seq ?_
  refine Run.region ?_
  refine Ops.pure rfl (Pure.move rfl) ?_
  refine Ops.pure rfl (Pure.move rfl) ?_
  refine Ops.pure rfl (Pure.nilchk rfl) ?_
  refine Ops.pure rfl (Pure.fieldAddrB fld35_1 rfl) ?_
  refine Ops.pure rfl (Pure.ldP cell2 rfl (RdL.old hp) rfl) ?_
  refine Ops.pure rfl (Pure.mul rfl rfl (by omega) (by omega)) ?_
  refine Ops.pure rfl (Pure.quo rfl rfl (by omega) (by omega) (by omega)) ?_
  refine Ops.pure rfl (Pure.assign rfl) ?_
  refine Ops.nil ?_
  refine Run.seq ?_
  refine Run.region ?_
  refine Ops.pure rfl (Pure.move rfl) ?_
  refine Ops.pure rfl (Pure.move rfl) ?_
  refine Ops.pure rfl (Pure.nilchk rfl) ?_
  refine Ops.pure rfl (Pure.fieldAddrB fld35_1 rfl) ?_
  refine Ops.pure rfl (Pure.ldP cell2 rfl (RdL.old hp) rfl) ?_
  refine Ops.pure rfl (Pure.mul rfl rfl (by omega) (by omega)) ?_
  refine Ops.pure rfl (Pure.rem rfl rfl (by omega) (by omega)) ?_
  refine Ops.pure rfl (Pure.assign rfl) ?_
  refine Ops.nil ?_
  refine Run.seq ?_
  refine Run.seq ?_
  refine Run.region ?_
  refine Ops.pure rfl (Pure.move rfl) ?_
  refine Ops.pure rfl (Pure.rem rfl rfl (by omega) (by omega)) ?_
  refine Ops.pure rfl (Pure.eql rfl rfl) ?_
  refine Ops.nil ?_
  refine Run.cond rfl (fun c24 => ?_) (fun c24 => ?_)
  · skip
    replace c24 := dT c24
    refine Run.seq ?_
    refine Run.region ?_
    refine Ops.pure rfl (Pure.move rfl) ?_
    refine Ops.pure rfl (Pure.move rfl) ?_
    refine Ops.pure rfl (Pure.quo rfl rfl (by omega) (by omega) (by omega)) ?_
    refine Ops.pure rfl (Pure.mul rfl rfl (by omega) (by omega)) ?_
    refine Ops.pure rfl (Pure.add rfl rfl (by omega) (by omega)) ?_
    refine Ops.pure rfl (Pure.build rfl (bld72_2 _ _ (by first | rfl | assumption) (by first | rfl | assumption))) ?_
    refine Ops.pure rfl (Pure.move rfl) ?_
    refine Ops.pure rfl (Pure.rem rfl rfl (by omega) (by omega)) ?_
    refine Ops.pure rfl (Pure.mul rfl rfl (by omega) (by omega)) ?_
    refine Ops.pure rfl (Pure.sub rfl rfl (by omega) (by omega)) ?_
    refine Ops.pure rfl (Pure.build rfl (bld167_3 _ _ _ _ (by first | rfl | assumption) (by first | rfl | assumption))) ?_
    refine Ops.store (Stores.box 0 rfl rfl rfl size167 (allOne rfl) rfl rfl) ?_
    refine Ops.nil ?_
    refine Run.retC 0 rfl rfl rfl cell167 rfl ?_
    rw [wkAt_even hs3 c24]
    try rfl
  · skip
    replace c24 := dF c24
    refine Run.skip ?_
    refine Run.seq ?_
    refine Run.region ?_
    refine Ops.pure rfl (Pure.move rfl) ?_
    refine Ops.pure rfl (Pure.move rfl) ?_
    refine Ops.pure rfl (Pure.add rfl rfl (by omega) (by omega)) ?_
    refine Ops.pure rfl (Pure.quo rfl rfl (by omega) (by omega) (by omega)) ?_
    refine Ops.pure rfl (Pure.mul rfl rfl (by omega) (by omega)) ?_
    refine Ops.pure rfl (Pure.build rfl (bld72_2 _ _ (by first | rfl | assumption) (by first | rfl | assumption))) ?_
    refine Ops.pure rfl (Pure.build rfl (bld167_3 _ _ _ _ (by first | rfl | assumption) (by first | rfl | assumption))) ?_
    refine Ops.go rfl (Loud.alloc zero167 rfl) ?_
    rintro _ _ ⟨b7, rfl, rfl⟩
    refine Ops.store (Stores.box 0 rfl rfl rfl size167 (allOne rfl) rfl rfl) ?_
    refine Ops.nil ?_
    refine Run.seq ?_
    refine Run.seq ?_
    refine Run.region ?_
    refine Ops.pure rfl (Pure.move rfl) ?_
    refine Ops.pure rfl (Pure.rem rfl rfl (by omega) (by omega)) ?_
    refine Ops.pure rfl (Pure.eql rfl rfl) ?_
    refine Ops.nil ?_
    refine Run.cond rfl (fun c45 => ?_) (fun c45 => ?_)
    · skip
      replace c45 := dT c45
      refine Run.region ?_
      refine Ops.pure rfl (Pure.fieldAddrB fld167_2 rfl) ?_
      refine Ops.store (Stores.box 0 rfl rfl rfl size2 (allOne rfl) rfl rfl) ?_
      refine Ops.nil ?_
      refine Run.seq ?_
      refine Run.region ?_
      refine Ops.pure rfl (Pure.ldBA 0 rfl cell167 rfl rfl rfl) ?_
      refine Ops.store (Stores.box 1 rfl rfl rfl size167 (allOne rfl) rfl rfl) ?_
      refine Ops.nil ?_
      refine Run.retC 1 rfl rfl rfl cell167 rfl ?_
      first
        | (rw [wkAt_odd1 hs3 c24 c45]; rfl)
        | (rw [wkAt_odd0 hs3 c24 c45]; rfl)
    · skip
      replace c45 := dF c45
      refine Run.skip ?_
      refine Run.seq ?_
      refine Run.region ?_
      refine Ops.pure rfl (Pure.ldBA 0 rfl cell167 rfl rfl rfl) ?_
      refine Ops.store (Stores.box 1 rfl rfl rfl size167 (allOne rfl) rfl rfl) ?_
      refine Ops.nil ?_
      refine Run.retC 1 rfl rfl rfl cell167 rfl ?_
      first
        | (rw [wkAt_odd1 hs3 c24 c45]; rfl)
        | (rw [wkAt_odd0 hs3 c24 c45]; rfl)

set_option maxRecDepth 4000 in
/-- (impl.Panel).segment -/
theorem f_i_Panel_segment (w : World) (a : Int) (b : Int) (v : Value) (x : Int) (y : Int) (dx : Int) (dy : Int) (hs : SizeOk a b) (hvw : VW a b (x, y, dx, dy)) : RetV Try.prog 173 [.agg #[.int .i64 a, .int .i64 b, v], .agg #[.int .i64 x, .int .i64 y, .int .i64 dx, .int .i64 dy]] w (.int .i64 (sg b (x, y, dx, dy))) := by
  have hm := VW_mid hs hvw
  obtain ⟨hs1, hs2, hs3, hs4⟩ := id hs
  have hpt := hm.2.2.2.2.2.2.2.2.1
  have hpp := ptOk_mid hs hpt
  have hsm := sg_mid hs hvw
  refine Ret.enter Try.func173 rfl Try.ntmps173 rfl ?_
  refine Run.seq ?_
  refine Run.region ?_
  refine Ops.go rfl (Loud.box rfl rfl) ?_
  rintro _ _ ⟨b2, rfl, rfl⟩
  refine Ops.go rfl (Loud.box rfl rfl) ?_
  rintro _ _ ⟨b3, rfl, rfl⟩
  refine Ops.pure rfl (Pure.assign rfl) ?_
  refine Ops.nil ?_
  refine Run.seq ?_
  refine Run.region ?_
  refine Ops.pure rfl (Pure.ldBA 0 rfl cell167 rfl rfl rfl) ?_
  refine Ops.q rfl (QOp.call fn175 rfl (fun w hw => f_i_Walker_next w _ _ _ _ (by omega) (by omega) (by omega) (by omega))) ?_
  refine Ops.go rfl (Loud.alloc zero72 rfl) ?_
  rintro _ _ ⟨b5, rfl, rfl⟩
  refine Ops.store (Stores.box 0 rfl rfl rfl size72 (allOne rfl) rfl rfl) ?_
  refine Ops.nil ?_
  refine Run.seq ?_
  refine Run.region ?_
  refine Ops.pure rfl (Pure.fieldAddrB fld167_0 rfl) ?_
  refine Ops.pure rfl (Pure.fieldAddrB fld72_0 rfl) ?_
  refine Ops.pure rfl (Pure.ldB 1 rfl cell2 rfl rfl) ?_
  refine Ops.pure rfl (Pure.fieldAddrB fld72_0 rfl) ?_
  refine Ops.pure rfl (Pure.ldB 0 rfl cell2 rfl rfl) ?_
  refine Ops.pure rfl (Pure.minI rfl rfl) ?_
  refine Ops.pure rfl (Pure.mul rfl rfl (by omega) (by omega)) ?_
  refine Ops.pure rfl (Pure.fieldAddrB fld35_1 rfl) ?_
  refine Ops.pure rfl (Pure.ldB 2 rfl cell2 rfl rfl) ?_
  refine Ops.pure rfl (Pure.mul rfl rfl (by omega) (by omega)) ?_
  refine Ops.pure rfl (Pure.fieldAddrB fld167_0 rfl) ?_
  refine Ops.pure rfl (Pure.fieldAddrB fld72_1 rfl) ?_
  refine Ops.pure rfl (Pure.ldB 1 rfl cell2 rfl rfl) ?_
  refine Ops.pure rfl (Pure.fieldAddrB fld72_1 rfl) ?_
  refine Ops.pure rfl (Pure.ldB 0 rfl cell2 rfl rfl) ?_
  refine Ops.pure rfl (Pure.minI rfl rfl) ?_
  refine Ops.pure rfl (Pure.add rfl rfl (by omega) (by omega)) ?_
  refine Ops.pure rfl (Pure.assign rfl) ?_
  refine Ops.nil ?_
  refine Run.ret1 rfl rfl ?_
  rw [← hsm.2.2.2.2.2.2]

set_option maxRecDepth 4000 in
/-- spec.l03Left -/
theorem f_s_l03Left (w : World) (a : Int) (b : Int) (x : Int) (y : Int) (dx : Int) (dy : Int) (hs : SizeOk a b) (hvw : VW a b (x, y, dx, dy)) : RetV Try.prog 228 [.agg #[.int .i64 x, .int .i64 y, .int .i64 dx, .int .i64 dy]] w (.tuple #[.agg #[.int .i64 (if dx = 1 then x else x + dx), .int .i64 (if dx = 1 then y else y + dy)], .int .i64 (if dx = 1 then y + dy else y)]) := by
  have hm := VW_mid hs hvw
  obtain ⟨hs1, hs2, hs3, hs4⟩ := id hs
  have hpt := hm.2.2.2.2.2.2.2.2.1
  have hpp := ptOk_mid hs hpt
  refine Ret.enter Try.func228 rfl Try.ntmps228 rfl ?_
  refine Run.seq ?_
  refine Run.region ?_
  refine Ops.go rfl (Loud.box rfl rfl) ?_
  rintro _ _ ⟨b1, rfl, rfl⟩
  refine Ops.go rfl (Loud.alloc zero72 rfl) ?_
  rintro _ _ ⟨b2, rfl, rfl⟩
  refine Ops.pure rfl (Pure.assign rfl) ?_
  refine Ops.nil ?_
  refine Run.seq ?_
  refine Run.region ?_
  refine Ops.pure rfl (Pure.ldBA 1 rfl cell167 rfl rfl rfl) ?_
  refine Ops.q rfl (QOp.call fn226 rfl (fun w hw => f_s_l03Next w _ _ _ _ (by omega) (by omega) (by omega) (by omega))) ?_
  refine Ops.go rfl (Loud.alloc zero72 rfl) ?_
  rintro _ _ ⟨b4, rfl, rfl⟩
  refine Ops.store (Stores.box 0 rfl rfl rfl size72 (allOne rfl) rfl rfl) ?_
  refine Ops.nil ?_
  refine Run.seq ?_
  refine Run.seq ?_
  refine Run.region ?_
  refine Ops.pure rfl (Pure.fieldAddrB fld167_1 rfl) ?_
  refine Ops.pure rfl (Pure.ldB 2 rfl cell2 rfl rfl) ?_
  refine Ops.pure rfl (Pure.eql rfl rfl) ?_
  refine Ops.nil ?_
  refine Run.cond rfl (fun c9 => ?_) (fun c9 => ?_)
  · skip
    replace c9 := dT c9
    refine Run.seq ?_
    refine Any.start follows ?_
    refine Any.take 0 rfl (by kernel_rfl) rfl (QOp.pure (Pure.fieldAddrB fld167_0 rfl)) ?_
    refine Any.take 1 rfl (by kernel_rfl) rfl (QOp.pure (Pure.ldBA 2 rfl cell72 rfl rfl rfl)) ?_
    refine Any.takeA 2 rfl (by kernel_rfl) rfl (fun _ => Pure.fieldAddrB fld72_1 rfl) ?_
    refine Any.two 3 4 (by kernel_rfl) ?_ ?_
    · skip
      refine OneL.q rfl rfl (QOp.pure (Pure.ldB 0 rfl cell2 rfl rfl)) ?_
      refine Any.one 4 (by kernel_rfl) ?_
      refine OneL.store rfl (Stores.box 1 rfl rfl rfl size72 (allOne rfl) rfl rfl) (by kernel_rfl) ?_
      refine Any.take 5 rfl (by kernel_rfl) rfl (QOp.pure (Pure.assign rfl)) ?_
      refine Any.done (by kernel_rfl) ?_
      refine Run.retC1 1 rfl rfl rfl rfl cell72 rfl ?_
      first
        | (rw [if_pos c9, if_pos c9, if_pos c9]; rfl)
        | (rw [if_neg c9, if_neg c9, if_neg c9]; rfl)
    · skip
      refine OneL.store rfl (Stores.box 1 rfl rfl rfl size72 (allOne rfl) rfl rfl) (by kernel_rfl) ?_
      refine Any.take 3 rfl (by kernel_rfl) rfl (QOp.pure (Pure.ldB 0 rfl cell2 rfl rfl)) ?_
      refine Any.take 5 rfl (by kernel_rfl) rfl (QOp.pure (Pure.assign rfl)) ?_
      refine Any.done (by kernel_rfl) ?_
      refine Run.retC1 1 rfl rfl rfl rfl cell72 rfl ?_
      first
        | (rw [if_pos c9, if_pos c9, if_pos c9]; rfl)
        | (rw [if_neg c9, if_neg c9, if_neg c9]; rfl)
  · skip
    replace c9 := dF c9
    refine Run.skip ?_
    refine Run.seq ?_
    refine Any.start follows ?_
    refine Any.take 0 rfl (by kernel_rfl) rfl (QOp.pure (Pure.ldBA 0 rfl cell72 rfl rfl rfl)) ?_
    refine Any.takeA 1 rfl (by kernel_rfl) rfl (fun _ => Pure.fieldAddrB fld167_0 rfl) ?_
    refine Any.takeA 2 rfl (by kernel_rfl) rfl (fun _ => Pure.fieldAddrB fld72_1 rfl) ?_
    refine Any.two 3 4 (by kernel_rfl) ?_ ?_
    · skip
      refine OneL.q rfl rfl (QOp.pure (Pure.ldB 2 rfl cell2 rfl rfl)) ?_
      refine Any.one 4 (by kernel_rfl) ?_
      refine OneL.store rfl (Stores.box 1 rfl rfl rfl size72 (allOne rfl) rfl rfl) (by kernel_rfl) ?_
      refine Any.take 5 rfl (by kernel_rfl) rfl (QOp.pure (Pure.assign rfl)) ?_
      refine Any.done (by kernel_rfl) ?_
      refine Run.retC1 1 rfl rfl rfl rfl cell72 rfl ?_
      first
        | (rw [if_pos c9, if_pos c9, if_pos c9]; rfl)
        | (rw [if_neg c9, if_neg c9, if_neg c9]; rfl)
    · skip
      refine OneL.store rfl (Stores.box 1 rfl rfl rfl size72 (allOne rfl) rfl rfl) (by kernel_rfl) ?_
      refine Any.take 3 rfl (by kernel_rfl) rfl (QOp.pure (Pure.ldB 2 rfl cell2 rfl rfl)) ?_
      refine Any.take 5 rfl (by kernel_rfl) rfl (QOp.pure (Pure.assign rfl)) ?_
      refine Any.done (by kernel_rfl) ?_
      refine Run.retC1 1 rfl rfl rfl rfl cell72 rfl ?_
      first
        | (rw [if_pos c9, if_pos c9, if_pos c9]; rfl)
        | (rw [if_neg c9, if_neg c9, if_neg c9]; rfl)

set_option maxRecDepth 4000 in
/-- spec.l03Segment -/
theorem f_s_l03Segment (w : World) (p : Nat) (a : Int) (b : Int) (v : Value) (x : Int) (y : Int) (dx : Int) (dy : Int) (hp : Rd w (boxS p) 3 1 [.int .i64 a, .int .i64 b, v]) (hs : SizeOk a b) (hvw : VW a b (x, y, dx, dy)) : RetV Try.prog 212 [.pointer (some ⟨p, 0, none⟩), .agg #[.int .i64 x, .int .i64 y, .int .i64 dx, .int .i64 dy]] w (.int .i64 (sg b (x, y, dx, dy))) := by
  have hm := VW_mid hs hvw
  obtain ⟨hs1, hs2, hs3, hs4⟩ := id hs
  have hpt := hm.2.2.2.2.2.2.2.2.1
  have hpp := ptOk_mid hs hpt
  have hsm := sg_mid hs hvw
  obtain ⟨hd1, hd2, hd3, hd4⟩ := VW_mk.1 hvw
  have hmx : (if dx = 1 then x else x + dx) = min x (x + dx) := by split <;> omega
  have hmy : (if dx = 1 then y else y + dy) = y ∨ (if dx = 1 then y else y + dy) = y + dy := by split; exact .inl rfl; exact .inr rfl
  refine Ret.enter Try.func212 rfl Try.ntmps212 rfl ?_
  refine Run.seq ?_
  refine Run.region ?_
  refine Ops.go rfl (Loud.box rfl rfl) ?_
  rintro _ _ ⟨b3, rfl, rfl⟩
  refine Ops.pure rfl (Pure.assign rfl) ?_
  refine Ops.nil ?_
  refine Run.seq ?_
  refine Run.region ?_
  refine Ops.pure rfl (Pure.ldBA 0 rfl cell167 rfl rfl rfl) ?_
  refine Ops.q rfl (QOp.call fn228 rfl (fun w hw => (f_s_l03Left w a b _ _ _ _ hs hvw).cong (by rw [hmx]))) ?_
  refine Ops.pure rfl (Pure.move rfl) ?_
  refine Ops.pure rfl (Pure.extract rfl rfl) ?_
  refine Ops.pure rfl (Pure.extract rfl rfl) ?_
  refine Ops.go rfl (Loud.alloc zero72 rfl) ?_
  rintro _ _ ⟨b5, rfl, rfl⟩
  refine Ops.store (Stores.box 0 rfl rfl rfl size72 (allOne rfl) rfl rfl) ?_
  refine Ops.pure rfl (Pure.assign rfl) ?_
  refine Ops.nil ?_
  refine Run.seq ?_
  refine Any.start follows ?_
  refine Any.take 0 rfl (by kernel_rfl) rfl (QOp.pure (Pure.fieldAddrB fld72_0 rfl)) ?_
  refine Any.take 1 rfl (by kernel_rfl) rfl (QOp.pure (Pure.ldB 0 rfl cell2 rfl rfl)) ?_
  refine Any.take 2 rfl (by kernel_rfl) rfl (QOp.pure (Pure.mul rfl rfl (by omega) (by omega))) ?_
  refine Any.take 3 rfl (by kernel_rfl) rfl (QOp.pure (Pure.move rfl)) ?_
  refine Any.take 4 rfl (by kernel_rfl) rfl (QOp.pure (Pure.nilchk rfl)) ?_
  refine Any.take 5 rfl (by kernel_rfl) rfl (QOp.pure (Pure.fieldAddrB fld35_1 rfl)) ?_
  refine Any.take 6 rfl (by kernel_rfl) rfl (QOp.pure (Pure.ldP cell2 rfl (RdL.old hp) rfl)) ?_
  refine Any.take 7 rfl (by kernel_rfl) rfl (QOp.pure (Pure.mul rfl rfl (by omega) (by omega))) ?_
  refine Any.take 8 rfl (by kernel_rfl) rfl (QOp.pure (Pure.fieldAddrB fld72_1 rfl)) ?_
  refine Any.take 9 rfl (by kernel_rfl) rfl (QOp.pure (Pure.ldB 0 rfl cell2 rfl rfl)) ?_
  refine Any.take 10 rfl (by kernel_rfl) rfl (QOp.pure (Pure.add rfl rfl (by omega) (by omega))) ?_
  refine Any.take 11 rfl (by kernel_rfl) rfl (QOp.pure (Pure.sub rfl rfl (by omega) (by omega))) ?_
  refine Any.take 12 rfl (by kernel_rfl) rfl (QOp.pure (Pure.assign rfl)) ?_
  refine Any.done (by kernel_rfl) ?_
  refine Run.seq ?_
  refine Run.seq ?_
  refine Run.region ?_
  refine Ops.pure rfl (Pure.move rfl) ?_
  refine Ops.pure rfl (Pure.fieldAddrB fld72_1 rfl) ?_
  refine Ops.pure rfl (Pure.ldB 0 rfl cell2 rfl rfl) ?_
  refine Ops.pure rfl (Pure.gtr rfl rfl) ?_
  refine Ops.nil ?_
  refine Run.cond rfl (fun c28 => ?_) (fun c28 => ?_)
  · skip
    replace c28 := dT c28
    refine Run.region ?_
    refine Ops.pure rfl (Pure.move rfl) ?_
    refine Ops.pure rfl (Pure.add rfl rfl (by omega) (by omega)) ?_
    refine Ops.pure rfl (Pure.assign rfl) ?_
    refine Ops.nil ?_
    refine Run.seq ?_
    refine Run.region ?_
    refine Ops.pure rfl (Pure.move rfl) ?_
    refine Ops.pure rfl (Pure.assign rfl) ?_
    refine Ops.nil ?_
    refine Run.ret1 rfl rfl ?_
    rw [← hsm.2.2.2.2.2.2]
    congr 1
    split at * <;> omega
  · skip
    replace c28 := dF c28
    refine Run.skip ?_
    refine Run.seq ?_
    refine Run.region ?_
    refine Ops.pure rfl (Pure.move rfl) ?_
    refine Ops.pure rfl (Pure.assign rfl) ?_
    refine Ops.nil ?_
    refine Run.ret1 rfl rfl ?_
    rw [← hsm.2.2.2.2.2.2]
    congr 1
    split at * <;> omega

set_option maxRecDepth 4000 in
/-- (impl.Panel).step -/
theorem f_i_Panel_step (w : World) (a : Int) (b : Int) (v : Value) (l : List Int) (x : Int) (y : Int) (dx : Int) (dy : Int) (hv : Rd w v 1 l.length (ints l)) (hk : okP a b l = true) (hvw : VW a b (x, y, dx, dy)) : Ret Try.prog 174 [.agg #[.int .i64 a, .int .i64 b, v], .agg #[.int .i64 x, .int .i64 y, .int .i64 dx, .int .i64 dy]] w (fun u L => ∃ f : Bool, u = .tuple #[.agg (encW (stp a b l (x, y, dx, dy))).toArray, .bool f] ∧ L = []) := by
  have hs := okP_size hk
  have hli := okP_inn hk
  have hm := VW_mid hs hvw
  obtain ⟨hs1, hs2, hs3, hs4⟩ := id hs
  have hpt := hm.2.2.2.2.2.2.2.2.1
  have hpp := ptOk_mid hs hpt
  refine Ret.enter Try.func174 rfl Try.ntmps174 rfl ?_
  refine Run.seq ?_
  refine Run.region ?_
  refine Ops.go rfl (Loud.box rfl rfl) ?_
  rintro _ _ ⟨b2, rfl, rfl⟩
  refine Ops.go rfl (Loud.box rfl rfl) ?_
  rintro _ _ ⟨b3, rfl, rfl⟩
  refine Ops.go rfl (Loud.alloc zero167 rfl) ?_
  rintro _ _ ⟨b4, rfl, rfl⟩
  refine Ops.pure rfl (Pure.assign rfl) ?_
  refine Ops.nil ?_
  refine Run.seq ?_
  refine Run.region ?_
  refine Ops.pure rfl (Pure.ldBA 1 rfl cell167 rfl rfl rfl) ?_
  refine Ops.q rfl (QOp.call fn175 rfl (fun w hw => f_i_Walker_next w _ _ _ _ (by omega) (by omega) (by omega) (by omega))) ?_
  refine Ops.go rfl (Loud.alloc zero72 rfl) ?_
  rintro _ _ ⟨b6, rfl, rfl⟩
  refine Ops.store (Stores.box 0 rfl rfl rfl size72 (allOne rfl) rfl rfl) ?_
  refine Ops.nil ?_
  refine Run.seq ?_
  refine Run.region ?_
  refine Ops.pure rfl (Pure.ldBA 0 rfl cell72 rfl rfl rfl) ?_
  refine Ops.pure rfl (Pure.fieldAddrB fld167_1 rfl) ?_
  refine Ops.pure rfl (Pure.ldB 2 rfl cell2 rfl rfl) ?_
  refine Ops.pure rfl (Pure.fieldAddrB fld167_2 rfl) ?_
  refine Ops.pure rfl (Pure.ldB 2 rfl cell2 rfl rfl) ?_
  refine Ops.pure rfl (Pure.build rfl (bld167_3 _ _ _ _ (by first | rfl | assumption) (by first | rfl | assumption))) ?_
  refine Ops.go rfl (Loud.alloc zero167 rfl) ?_
  rintro _ _ ⟨b7, rfl, rfl⟩
  refine Ops.store (Stores.box 0 rfl rfl rfl size167 (allOne rfl) rfl rfl) ?_
  refine Ops.nil ?_
  refine Run.seq ?_
  refine Run.region ?_
  refine Ops.pure rfl (Pure.assign rfl) ?_
  refine Ops.nil ?_
  refine Run.seq ?_
  refine Run.seq ?_
  refine Run.region ?_
  refine Ops.pure rfl (Pure.ldBA 4 rfl cell35 rfl rfl rfl) ?_
  refine Ops.pure rfl (Pure.ldBA 1 rfl cell72 rfl rfl rfl) ?_
  refine Ops.q rfl (QOp.call fn198 rfl (fun w hw => f_i_Panel_isBorder w _ _ _ _ _ (by assumption))) ?_
  refine Ops.pure rfl (Pure.not rfl) ?_
  refine Ops.nil ?_
  refine Run.mid (fun s' L' => Sub ([(2, .pointer (some ⟨b2, 0, none⟩)), (3, .pointer (some ⟨b3, 0, none⟩)), (4, .pointer (some ⟨b4, 0, none⟩)), (6, .pointer (some ⟨b6, 0, none⟩)), (7, .pointer (some ⟨b7, 0, none⟩)), (8, .int .i64 (kd a b l (x + dx) (y + dy)))]) s' ∧ Ext ([.box b7 167 [.int .i64 (x + dx), .int .i64 (y + dy), .int .i64 dx, .int .i64 dy], .box b6 72 [.int .i64 (x + dx), .int .i64 (y + dy)], .box b4 167 [.int .i64 0, .int .i64 0, .int .i64 0, .int .i64 0], .box b3 167 [.int .i64 x, .int .i64 y, .int .i64 dx, .int .i64 dy], .box b2 35 [.int .i64 a, .int .i64 b, v]]) L') ?_ ?_
  · skip
    refine Run.cond rfl (fun c20 => ?_) (fun c20 => ?_)
    · skip
      replace c20 := nT c20
      have hnb := num_bd hs hpt c20
      refine Any.start follows ?_
      refine Any.take 0 rfl (by kernel_rfl) rfl (QOp.pure (Pure.fieldAddrB fld35_2 rfl)) ?_
      refine Any.take 1 rfl (by kernel_rfl) rfl (QOp.pure (Pure.ldB 4 rfl cell32 rfl rfl)) ?_
      refine Any.take 2 rfl (by kernel_rfl) rfl (QOp.pure (Pure.ldBA 4 rfl cell35 rfl rfl rfl)) ?_
      refine Any.take 3 rfl (by kernel_rfl) rfl (QOp.pure (Pure.ldBA 1 rfl cell72 rfl rfl rfl)) ?_
      refine Any.take 4 rfl (by kernel_rfl) rfl (QOp.call fn141 rfl (fun w hw => f_i_Panel_number w _ _ _ _ _ (by assumption) (by assumption) (by assumption))) ?_
      refine Any.take 5 rfl (by kernel_rfl) rfl (QOp.pure (Pure.idx1 sl32 (RdL.old hv) rfl rfl (by first | assumption | omega | (simp; omega)) (by first | assumption | omega | (simp; omega)))) ?_
      refine Any.take 6 rfl (by kernel_rfl) rfl (QOp.pure (Pure.ld cell2 rfl (RdL.old hv) (by first | exact ints_get (by omega) | exact bools_get (by omega) | exact strs_get (by omega) | exact vals_get (by first | omega | (simp; omega))))) ?_
      refine Any.take 7 rfl (by kernel_rfl) rfl (QOp.pure (Pure.assign rfl)) ?_
      refine Any.done (by kernel_rfl) ?_
      refine Run.asrt ?_
      exact ⟨⟨rfl, rfl, rfl, rfl, rfl, (by first | exact congrArg (fun x => some (Value.int .i64 x)) (if_neg (by assumption)).symm | exact congrArg (fun x => some (Value.int .i64 x)) (if_pos (by assumption)).symm), trivial⟩, Ext.refl _⟩
    · skip
      replace c20 := nF c20
      refine Run.skip ?_
      refine Run.asrt ?_
      exact ⟨⟨rfl, rfl, rfl, rfl, rfl, (by first | exact congrArg (fun x => some (Value.int .i64 x)) (if_neg (by assumption)).symm | exact congrArg (fun x => some (Value.int .i64 x)) (if_pos (by assumption)).symm), trivial⟩, Ext.refl _⟩
  · rintro s' L' ⟨hs', hL'⟩
    refine Run.sub hs' hL' ?_
    clear hs' hL' s' L'
    refine Run.seq ?_
    refine Run.seq ?_
    refine Run.mid (fun s' L' => Sub ([(2, .pointer (some ⟨b2, 0, none⟩)), (3, .pointer (some ⟨b3, 0, none⟩)), (4, .pointer (some ⟨b4, 0, none⟩)), (6, .pointer (some ⟨b6, 0, none⟩)), (7, .pointer (some ⟨b7, 0, none⟩)), (8, .int .i64 (kd a b l (x + dx) (y + dy))), (42, .bool (decide (FlX a b l (x + dx) (y + dy))))]) s' ∧ Ext ([.box b7 167 [.int .i64 (x + dx), .int .i64 (y + dy), .int .i64 dx, .int .i64 dy], .box b6 72 [.int .i64 (x + dx), .int .i64 (y + dy)], .box b4 167 [.int .i64 0, .int .i64 0, .int .i64 0, .int .i64 0], .box b3 167 [.int .i64 x, .int .i64 y, .int .i64 dx, .int .i64 dy], .box b2 35 [.int .i64 a, .int .i64 b, v]]) L') ?_ ?_
    · skip
      refine Run.region ?_
      refine Ops.pure rfl (Pure.fieldAddrB fld72_0 rfl) ?_
      refine Ops.pure rfl (Pure.ldB 1 rfl cell2 rfl rfl) ?_
      refine Ops.pure rfl (Pure.eql rfl rfl) ?_
      refine Ops.pure rfl (Pure.move rfl) ?_
      refine Ops.guard rfl rfl rfl rfl (fun c31 => ?_) (fun c31 => ?_)
      · skip
        have c31' := dF c31
        refine Ops.pure rfl (Pure.fieldAddrB fld72_0 rfl) ?_
        refine Ops.guardY rfl rfl rfl c31 ?_
        refine Ops.pure rfl (Pure.ldB 1 rfl cell2 rfl rfl) ?_
        refine Ops.guardY rfl rfl rfl c31 ?_
        refine Ops.pure rfl (Pure.fieldAddrB fld35_0 rfl) ?_
        refine Ops.guardY rfl rfl rfl c31 ?_
        refine Ops.pure rfl (Pure.ldB 4 rfl cell2 rfl rfl) ?_
        refine Ops.guardY rfl rfl rfl c31 ?_
        refine Ops.pure rfl (Pure.mul rfl rfl (by omega) (by omega)) ?_
        refine Ops.guardY rfl rfl rfl c31 ?_
        refine Ops.pure rfl (Pure.eql rfl rfl) ?_
        refine Ops.pure rfl (Pure.pickF rfl c31 rfl) ?_
        refine Ops.pure rfl (Pure.move rfl) ?_
        refine Ops.guard rfl rfl rfl rfl (fun c39 => ?_) (fun c39 => ?_)
        · skip
          have c39' := dF c39
          refine Ops.pure rfl (Pure.move rfl) ?_
          refine Ops.guardY rfl rfl rfl c39 ?_
          refine Ops.pure rfl (Pure.eql rfl rfl) ?_
          refine Ops.pure rfl (Pure.pickF rfl c39 rfl) ?_
          refine Ops.nil ?_
          refine Run.asrt ?_
          exact ⟨⟨rfl, rfl, rfl, rfl, rfl, rfl, (by first | exact congrArg (fun x => some (Value.bool x)) (decide_eq_true (p := FlX a b l (x + dx) (y + dy)) (by unfold FlX; omega)).symm | exact congrArg (fun x => some (Value.bool x)) (decide_eq_false (p := FlX a b l (x + dx) (y + dy)) (by unfold FlX; omega)).symm | exact congrArg (fun x => some (Value.bool x)) (decide_eq_decide (p := _) (q := FlX a b l (x + dx) (y + dy)).2 (by unfold FlX; omega))), trivial⟩, Ext.refl _⟩
        · skip
          replace c39 := Bool.eq_true_of_ne c39
          have c39' := dT c39
          refine Ops.guardN rfl rfl rfl rfl (by rw [c39]; decide) ?_
          refine Ops.pure rfl (Pure.pickT rfl c39 rfl) ?_
          refine Ops.nil ?_
          refine Run.asrt ?_
          exact ⟨⟨rfl, rfl, rfl, rfl, rfl, rfl, (by first | exact congrArg (fun x => some (Value.bool x)) (decide_eq_true (p := FlX a b l (x + dx) (y + dy)) (by unfold FlX; omega)).symm | exact congrArg (fun x => some (Value.bool x)) (decide_eq_false (p := FlX a b l (x + dx) (y + dy)) (by unfold FlX; omega)).symm | exact congrArg (fun x => some (Value.bool x)) (decide_eq_decide (p := _) (q := FlX a b l (x + dx) (y + dy)).2 (by unfold FlX; omega))), trivial⟩, Ext.refl _⟩
      · skip
        replace c31 := Bool.eq_true_of_ne c31
        have c31' := dT c31
        refine Ops.guardN rfl rfl rfl rfl (by rw [c31]; decide) ?_
        refine Ops.guardN rfl rfl rfl rfl (by rw [c31]; decide) ?_
        refine Ops.guardN rfl rfl rfl rfl (by rw [c31]; decide) ?_
        refine Ops.guardN rfl rfl rfl rfl (by rw [c31]; decide) ?_
        refine Ops.guardN rfl rfl rfl rfl (by rw [c31]; decide) ?_
        refine Ops.pure rfl (Pure.pickT rfl c31 rfl) ?_
        refine Ops.pure rfl (Pure.move rfl) ?_
        refine Ops.guardN rfl rfl rfl rfl (by decide) ?_
        refine Ops.guardN rfl rfl rfl rfl (by decide) ?_
        refine Ops.pure rfl (Pure.pickT rfl rfl rfl) ?_
        refine Ops.nil ?_
        refine Run.asrt ?_
        exact ⟨⟨rfl, rfl, rfl, rfl, rfl, rfl, (by first | exact congrArg (fun x => some (Value.bool x)) (decide_eq_true (p := FlX a b l (x + dx) (y + dy)) (by unfold FlX; omega)).symm | exact congrArg (fun x => some (Value.bool x)) (decide_eq_false (p := FlX a b l (x + dx) (y + dy)) (by unfold FlX; omega)).symm | exact congrArg (fun x => some (Value.bool x)) (decide_eq_decide (p := _) (q := FlX a b l (x + dx) (y + dy)).2 (by unfold FlX; omega))), trivial⟩, Ext.refl _⟩
    · rintro s' L' ⟨hs', hL'⟩
      refine Run.sub hs' hL' ?_
      clear hs' hL' s' L'
      refine Run.mid (fun s' L' => Sub ([(2, .pointer (some ⟨b2, 0, none⟩)), (3, .pointer (some ⟨b3, 0, none⟩)), (4, .pointer (some ⟨b4, 0, none⟩)), (6, .pointer (some ⟨b6, 0, none⟩)), (7, .pointer (some ⟨b7, 0, none⟩)), (8, .int .i64 (kd a b l (x + dx) (y + dy)))]) s' ∧ Ext ([.box b7 167 [.int .i64 (x + dx), .int .i64 (y + dy), .int .i64 (if FlX a b l (x + dx) (y + dy) then -dx else dx), .int .i64 dy], .box b6 72 [.int .i64 (x + dx), .int .i64 (y + dy)], .box b4 167 [.int .i64 0, .int .i64 0, .int .i64 0, .int .i64 0], .box b3 167 [.int .i64 x, .int .i64 y, .int .i64 dx, .int .i64 dy], .box b2 35 [.int .i64 a, .int .i64 b, v]]) L') ?_ ?_
      · skip
        refine Run.cond rfl (fun c42 => ?_) (fun c42 => ?_)
        · skip
          replace c42 := dT c42
          refine Run.region ?_
          refine Ops.pure rfl (Pure.fieldAddrB fld167_1 rfl) ?_
          refine Ops.pure rfl (Pure.ldB 0 rfl cell2 rfl rfl) ?_
          refine Ops.pure rfl (Pure.neg rfl (by omega) (by omega)) ?_
          refine Ops.pure rfl (Pure.fieldAddrB fld167_1 rfl) ?_
          refine Ops.store (Stores.box 0 rfl rfl rfl size2 (allOne rfl) rfl rfl) ?_
          refine Ops.nil ?_
          refine Run.asrt ?_
          exact ⟨⟨rfl, rfl, rfl, rfl, rfl, rfl, trivial⟩, (by first | (rw [if_pos (show FlX a b l (x + dx) (y + dy) by assumption)]; exact Ext.refl _) | (rw [if_neg (show ¬ FlX a b l (x + dx) (y + dy) by assumption)]; exact Ext.refl _))⟩
        · skip
          replace c42 := dF c42
          refine Run.skip ?_
          refine Run.asrt ?_
          exact ⟨⟨rfl, rfl, rfl, rfl, rfl, rfl, trivial⟩, (by first | (rw [if_pos (show FlX a b l (x + dx) (y + dy) by assumption)]; exact Ext.refl _) | (rw [if_neg (show ¬ FlX a b l (x + dx) (y + dy) by assumption)]; exact Ext.refl _))⟩
      · rintro s' L' ⟨hs', hL'⟩
        refine Run.sub hs' hL' ?_
        clear hs' hL' s' L'
        refine Run.seq ?_
        refine Run.seq ?_
        refine Run.mid (fun s' L' => Sub ([(2, .pointer (some ⟨b2, 0, none⟩)), (3, .pointer (some ⟨b3, 0, none⟩)), (4, .pointer (some ⟨b4, 0, none⟩)), (6, .pointer (some ⟨b6, 0, none⟩)), (7, .pointer (some ⟨b7, 0, none⟩)), (61, .bool (decide (FlY a b l (x + dx) (y + dy))))]) s' ∧ Ext ([.box b7 167 [.int .i64 (x + dx), .int .i64 (y + dy), .int .i64 (if FlX a b l (x + dx) (y + dy) then -dx else dx), .int .i64 dy], .box b6 72 [.int .i64 (x + dx), .int .i64 (y + dy)], .box b4 167 [.int .i64 0, .int .i64 0, .int .i64 0, .int .i64 0], .box b3 167 [.int .i64 x, .int .i64 y, .int .i64 dx, .int .i64 dy], .box b2 35 [.int .i64 a, .int .i64 b, v]]) L') ?_ ?_
        · skip
          refine Run.region ?_
          refine Ops.pure rfl (Pure.fieldAddrB fld72_1 rfl) ?_
          refine Ops.pure rfl (Pure.ldB 1 rfl cell2 rfl rfl) ?_
          refine Ops.pure rfl (Pure.eql rfl rfl) ?_
          refine Ops.pure rfl (Pure.move rfl) ?_
          refine Ops.guard rfl rfl rfl rfl (fun c50 => ?_) (fun c50 => ?_)
          · skip
            have c50' := dF c50
            refine Ops.pure rfl (Pure.fieldAddrB fld72_1 rfl) ?_
            refine Ops.guardY rfl rfl rfl c50 ?_
            refine Ops.pure rfl (Pure.ldB 1 rfl cell2 rfl rfl) ?_
            refine Ops.guardY rfl rfl rfl c50 ?_
            refine Ops.pure rfl (Pure.fieldAddrB fld35_1 rfl) ?_
            refine Ops.guardY rfl rfl rfl c50 ?_
            refine Ops.pure rfl (Pure.ldB 4 rfl cell2 rfl rfl) ?_
            refine Ops.guardY rfl rfl rfl c50 ?_
            refine Ops.pure rfl (Pure.mul rfl rfl (by omega) (by omega)) ?_
            refine Ops.guardY rfl rfl rfl c50 ?_
            refine Ops.pure rfl (Pure.eql rfl rfl) ?_
            refine Ops.pure rfl (Pure.pickF rfl c50 rfl) ?_
            refine Ops.pure rfl (Pure.move rfl) ?_
            refine Ops.guard rfl rfl rfl rfl (fun c58 => ?_) (fun c58 => ?_)
            · skip
              have c58' := dF c58
              refine Ops.pure rfl (Pure.move rfl) ?_
              refine Ops.guardY rfl rfl rfl c58 ?_
              refine Ops.pure rfl (Pure.eql rfl rfl) ?_
              refine Ops.pure rfl (Pure.pickF rfl c58 rfl) ?_
              refine Ops.nil ?_
              refine Run.asrt ?_
              exact ⟨⟨rfl, rfl, rfl, rfl, rfl, (by first | exact congrArg (fun x => some (Value.bool x)) (decide_eq_true (p := FlY a b l (x + dx) (y + dy)) (by unfold FlY; omega)).symm | exact congrArg (fun x => some (Value.bool x)) (decide_eq_false (p := FlY a b l (x + dx) (y + dy)) (by unfold FlY; omega)).symm | exact congrArg (fun x => some (Value.bool x)) (decide_eq_decide (p := _) (q := FlY a b l (x + dx) (y + dy)).2 (by unfold FlY; omega))), trivial⟩, Ext.refl _⟩
            · skip
              replace c58 := Bool.eq_true_of_ne c58
              have c58' := dT c58
              refine Ops.guardN rfl rfl rfl rfl (by rw [c58]; decide) ?_
              refine Ops.pure rfl (Pure.pickT rfl c58 rfl) ?_
              refine Ops.nil ?_
              refine Run.asrt ?_
              exact ⟨⟨rfl, rfl, rfl, rfl, rfl, (by first | exact congrArg (fun x => some (Value.bool x)) (decide_eq_true (p := FlY a b l (x + dx) (y + dy)) (by unfold FlY; omega)).symm | exact congrArg (fun x => some (Value.bool x)) (decide_eq_false (p := FlY a b l (x + dx) (y + dy)) (by unfold FlY; omega)).symm | exact congrArg (fun x => some (Value.bool x)) (decide_eq_decide (p := _) (q := FlY a b l (x + dx) (y + dy)).2 (by unfold FlY; omega))), trivial⟩, Ext.refl _⟩
          · skip
            replace c50 := Bool.eq_true_of_ne c50
            have c50' := dT c50
            refine Ops.guardN rfl rfl rfl rfl (by rw [c50]; decide) ?_
            refine Ops.guardN rfl rfl rfl rfl (by rw [c50]; decide) ?_
            refine Ops.guardN rfl rfl rfl rfl (by rw [c50]; decide) ?_
            refine Ops.guardN rfl rfl rfl rfl (by rw [c50]; decide) ?_
            refine Ops.guardN rfl rfl rfl rfl (by rw [c50]; decide) ?_
            refine Ops.pure rfl (Pure.pickT rfl c50 rfl) ?_
            refine Ops.pure rfl (Pure.move rfl) ?_
            refine Ops.guardN rfl rfl rfl rfl (by decide) ?_
            refine Ops.guardN rfl rfl rfl rfl (by decide) ?_
            refine Ops.pure rfl (Pure.pickT rfl rfl rfl) ?_
            refine Ops.nil ?_
            refine Run.asrt ?_
            exact ⟨⟨rfl, rfl, rfl, rfl, rfl, (by first | exact congrArg (fun x => some (Value.bool x)) (decide_eq_true (p := FlY a b l (x + dx) (y + dy)) (by unfold FlY; omega)).symm | exact congrArg (fun x => some (Value.bool x)) (decide_eq_false (p := FlY a b l (x + dx) (y + dy)) (by unfold FlY; omega)).symm | exact congrArg (fun x => some (Value.bool x)) (decide_eq_decide (p := _) (q := FlY a b l (x + dx) (y + dy)).2 (by unfold FlY; omega))), trivial⟩, Ext.refl _⟩
        · rintro s' L' ⟨hs', hL'⟩
          refine Run.sub hs' hL' ?_
          clear hs' hL' s' L'
          refine Run.mid (fun s' L' => Sub ([(2, .pointer (some ⟨b2, 0, none⟩)), (3, .pointer (some ⟨b3, 0, none⟩)), (4, .pointer (some ⟨b4, 0, none⟩)), (6, .pointer (some ⟨b6, 0, none⟩)), (7, .pointer (some ⟨b7, 0, none⟩))]) s' ∧ Ext ([.box b7 167 [.int .i64 (x + dx), .int .i64 (y + dy), .int .i64 (if FlX a b l (x + dx) (y + dy) then -dx else dx), .int .i64 (if FlY a b l (x + dx) (y + dy) then -dy else dy)], .box b6 72 [.int .i64 (x + dx), .int .i64 (y + dy)], .box b4 167 [.int .i64 0, .int .i64 0, .int .i64 0, .int .i64 0], .box b3 167 [.int .i64 x, .int .i64 y, .int .i64 dx, .int .i64 dy], .box b2 35 [.int .i64 a, .int .i64 b, v]]) L') ?_ ?_
          · skip
            refine Run.cond rfl (fun c61 => ?_) (fun c61 => ?_)
            · skip
              replace c61 := dT c61
              refine Run.region ?_
              refine Ops.pure rfl (Pure.fieldAddrB fld167_2 rfl) ?_
              refine Ops.pure rfl (Pure.ldB 0 rfl cell2 rfl rfl) ?_
              refine Ops.pure rfl (Pure.neg rfl (by omega) (by omega)) ?_
              refine Ops.pure rfl (Pure.fieldAddrB fld167_2 rfl) ?_
              refine Ops.store (Stores.box 0 rfl rfl rfl size2 (allOne rfl) rfl rfl) ?_
              refine Ops.nil ?_
              refine Run.asrt ?_
              exact ⟨⟨rfl, rfl, rfl, rfl, rfl, trivial⟩, (by first | (rw [if_pos (show FlY a b l (x + dx) (y + dy) by assumption)]; exact Ext.refl _) | (rw [if_neg (show ¬ FlY a b l (x + dx) (y + dy) by assumption)]; exact Ext.refl _))⟩
            · skip
              replace c61 := dF c61
              refine Run.skip ?_
              refine Run.asrt ?_
              exact ⟨⟨rfl, rfl, rfl, rfl, rfl, trivial⟩, (by first | (rw [if_pos (show FlY a b l (x + dx) (y + dy) by assumption)]; exact Ext.refl _) | (rw [if_neg (show ¬ FlY a b l (x + dx) (y + dy) by assumption)]; exact Ext.refl _))⟩
          · rintro s' L' ⟨hs', hL'⟩
            refine Run.sub hs' hL' ?_
            clear hs' hL' s' L'
            refine Run.seq ?_
            refine Any.start follows ?_
            refine Any.take 0 rfl (by kernel_rfl) rfl (QOp.pure (Pure.ldBA 0 rfl cell167 rfl rfl rfl)) ?_
            refine Any.take 1 rfl (by kernel_rfl) rfl (QOp.pure (Pure.fieldAddrB fld167_1 rfl)) ?_
            refine Any.take 2 rfl (by kernel_rfl) rfl (QOp.pure (Pure.ldB 0 rfl cell2 rfl rfl)) ?_
            refine Any.take 3 rfl (by kernel_rfl) rfl (QOp.pure (Pure.fieldAddrB fld167_1 rfl)) ?_
            refine Any.take 4 rfl (by kernel_rfl) rfl (QOp.pure (Pure.ldB 3 rfl cell2 rfl rfl)) ?_
            refine Any.take 5 rfl (by kernel_rfl) rfl (QOp.pure (Pure.neq rfl rfl)) ?_
            refine Any.take 6 rfl (by kernel_rfl) rfl (QOp.pure (Pure.move rfl)) ?_
            refine Any.splitG 72 rfl (fun c72 => ?_) (fun c72 => ?_)
            · skip
              have c72' := nT c72
              refine Any.takeN 7 rfl (by kernel_rfl) rfl rfl rfl rfl (by rw [c72]; decide) ?_
              refine Any.takeN 8 rfl (by kernel_rfl) rfl rfl rfl rfl (by rw [c72]; decide) ?_
              refine Any.takeN 9 rfl (by kernel_rfl) rfl rfl rfl rfl (by rw [c72]; decide) ?_
              refine Any.takeN 10 rfl (by kernel_rfl) rfl rfl rfl rfl (by rw [c72]; decide) ?_
              refine Any.takeN 11 rfl (by kernel_rfl) rfl rfl rfl rfl (by rw [c72]; decide) ?_
              refine Any.takeA 12 rfl (by kernel_rfl) rfl (fun _ => Pure.pickT rfl c72 rfl) ?_
              refine Any.one 13 (by kernel_rfl) ?_
              refine OneL.store rfl (Stores.box 2 rfl rfl rfl size167 (allOne rfl) rfl rfl) (by kernel_rfl) ?_
              refine Any.take 14 rfl (by kernel_rfl) rfl (QOp.pure (Pure.assign rfl)) ?_
              refine Any.done (by kernel_rfl) ?_
              refine Run.retC1x 2 rfl rfl rfl rfl cell167 rfl (Ext.nil _) ?_
              exact ⟨_, rfl, rfl⟩
            · skip
              have c72' := nF c72
              refine Any.takeAY 7 rfl (by kernel_rfl) rfl rfl rfl rfl c72 (fun _ => Pure.fieldAddrB fld167_2 rfl) ?_
              refine Any.takeAY 9 rfl (by kernel_rfl) rfl rfl rfl rfl c72 (fun _ => Pure.fieldAddrB fld167_2 rfl) ?_
              refine Any.three 8 10 13 (by kernel_rfl) ?_ ?_ ?_
              · skip
                refine OneL.qY rfl rfl rfl rfl rfl c72 (QOp.pure (Pure.ldB 0 rfl cell2 rfl rfl)) ?_
                refine Any.two 10 13 (by kernel_rfl) ?_ ?_
                · skip
                  refine OneL.qY rfl rfl rfl rfl rfl c72 (QOp.pure (Pure.ldB 3 rfl cell2 rfl rfl)) ?_
                  refine Any.takeAY 11 rfl (by kernel_rfl) rfl rfl rfl rfl c72 (fun _ => Pure.neq rfl rfl) ?_
                  refine Any.takeA 12 rfl (by kernel_rfl) rfl (fun _ => Pure.pickF rfl c72 rfl) ?_
                  refine Any.one 13 (by kernel_rfl) ?_
                  refine OneL.store rfl (Stores.box 2 rfl rfl rfl size167 (allOne rfl) rfl rfl) (by kernel_rfl) ?_
                  refine Any.take 14 rfl (by kernel_rfl) rfl (QOp.pure (Pure.assign rfl)) ?_
                  refine Any.done (by kernel_rfl) ?_
                  refine Run.retC1x 2 rfl rfl rfl rfl cell167 rfl (Ext.nil _) ?_
                  exact ⟨_, rfl, rfl⟩
                · skip
                  refine OneL.store rfl (Stores.box 2 rfl rfl rfl size167 (allOne rfl) rfl rfl) (by kernel_rfl) ?_
                  refine Any.takeY 10 rfl (by kernel_rfl) rfl rfl rfl rfl c72 (QOp.pure (Pure.ldB 3 rfl cell2 rfl rfl)) ?_
                  refine Any.takeY 11 rfl (by kernel_rfl) rfl rfl rfl rfl c72 (QOp.pure (Pure.neq rfl rfl)) ?_
                  refine Any.take 12 rfl (by kernel_rfl) rfl (QOp.pure (Pure.pickF rfl c72 rfl)) ?_
                  refine Any.take 14 rfl (by kernel_rfl) rfl (QOp.pure (Pure.assign rfl)) ?_
                  refine Any.done (by kernel_rfl) ?_
                  refine Run.retC1x 2 rfl rfl rfl rfl cell167 rfl (Ext.nil _) ?_
                  exact ⟨_, rfl, rfl⟩
              · skip
                refine OneL.qY rfl rfl rfl rfl rfl c72 (QOp.pure (Pure.ldB 3 rfl cell2 rfl rfl)) ?_
                refine Any.two 8 13 (by kernel_rfl) ?_ ?_
                · skip
                  refine OneL.qY rfl rfl rfl rfl rfl c72 (QOp.pure (Pure.ldB 0 rfl cell2 rfl rfl)) ?_
                  refine Any.takeAY 11 rfl (by kernel_rfl) rfl rfl rfl rfl c72 (fun _ => Pure.neq rfl rfl) ?_
                  refine Any.takeA 12 rfl (by kernel_rfl) rfl (fun _ => Pure.pickF rfl c72 rfl) ?_
                  refine Any.one 13 (by kernel_rfl) ?_
                  refine OneL.store rfl (Stores.box 2 rfl rfl rfl size167 (allOne rfl) rfl rfl) (by kernel_rfl) ?_
                  refine Any.take 14 rfl (by kernel_rfl) rfl (QOp.pure (Pure.assign rfl)) ?_
                  refine Any.done (by kernel_rfl) ?_
                  refine Run.retC1x 2 rfl rfl rfl rfl cell167 rfl (Ext.nil _) ?_
                  exact ⟨_, rfl, rfl⟩
                · skip
                  refine OneL.store rfl (Stores.box 2 rfl rfl rfl size167 (allOne rfl) rfl rfl) (by kernel_rfl) ?_
                  refine Any.takeY 8 rfl (by kernel_rfl) rfl rfl rfl rfl c72 (QOp.pure (Pure.ldB 0 rfl cell2 rfl rfl)) ?_
                  refine Any.takeY 11 rfl (by kernel_rfl) rfl rfl rfl rfl c72 (QOp.pure (Pure.neq rfl rfl)) ?_
                  refine Any.take 12 rfl (by kernel_rfl) rfl (QOp.pure (Pure.pickF rfl c72 rfl)) ?_
                  refine Any.take 14 rfl (by kernel_rfl) rfl (QOp.pure (Pure.assign rfl)) ?_
                  refine Any.done (by kernel_rfl) ?_
                  refine Run.retC1x 2 rfl rfl rfl rfl cell167 rfl (Ext.nil _) ?_
                  exact ⟨_, rfl, rfl⟩
              · skip
                refine OneL.store rfl (Stores.box 2 rfl rfl rfl size167 (allOne rfl) rfl rfl) (by kernel_rfl) ?_
                refine Any.takeY 8 rfl (by kernel_rfl) rfl rfl rfl rfl c72 (QOp.pure (Pure.ldB 0 rfl cell2 rfl rfl)) ?_
                refine Any.takeY 10 rfl (by kernel_rfl) rfl rfl rfl rfl c72 (QOp.pure (Pure.ldB 3 rfl cell2 rfl rfl)) ?_
                refine Any.takeY 11 rfl (by kernel_rfl) rfl rfl rfl rfl c72 (QOp.pure (Pure.neq rfl rfl)) ?_
                refine Any.take 12 rfl (by kernel_rfl) rfl (QOp.pure (Pure.pickF rfl c72 rfl)) ?_
                refine Any.take 14 rfl (by kernel_rfl) rfl (QOp.pure (Pure.assign rfl)) ?_
                refine Any.done (by kernel_rfl) ?_
                refine Run.retC1x 2 rfl rfl rfl rfl cell167 rfl (Ext.nil _) ?_
                exact ⟨_, rfl, rfl⟩

theorem stp_eqn (a b : Int) (l : List Int) (x y dx dy : Int) : Value.agg #[.int .i64 (x + dx), .int .i64 (y + dy), .int .i64 (if FlX a b l (x + dx) (y + dy) then -dx else dx), .int .i64 (if FlY a b l (x + dx) (y + dy) then -dy else dy)] = .agg (encW (stp a b l (x, y, dx, dy))).toArray := rfl
theorem spec_flip {a b : Int} {l : List Int} {x y dx dy e1 e2 : Int} (hp : PtOk a b (x + dx) (y + dy)) (h1 : ¬ Edge a b (x + dx) (y + dy) → e1 = (if kd a b l (x + dx) (y + dy) = 1 then -(if (x + dx = 0 ∨ x + dx = 2 * a) then -dx else dx) else (if (x + dx = 0 ∨ x + dx = 2 * a) then -dx else dx)))
    (h2 : ¬ Edge a b (x + dx) (y + dy) → e2 = (if kd a b l (x + dx) (y + dy) = 2 then -(if (y + dy = 0 ∨ y + dy = 2 * b) then -dy else dy) else (if (y + dy = 0 ∨ y + dy = 2 * b) then -dy else dy)))
    (h3 : Edge a b (x + dx) (y + dy) → e1 = (if (x + dx = 0 ∨ x + dx = 2 * a) then -dx else dx) ∧ e2 = (if (y + dy = 0 ∨ y + dy = 2 * b) then -dy else dy)) :
    Value.agg #[.int .i64 (x + dx), .int .i64 (y + dy), .int .i64 e1, .int .i64 e2] = .agg (encW (stp a b l (x, y, dx, dy))).toArray := by
  rw [← stp_eqn]
  by_cases he : Edge a b (x + dx) (y + dy)
  · obtain ⟨q1, q2⟩ := h3 he
    have k0 := kd_edge (l := l) he
    have fx : FlX a b l (x + dx) (y + dy) ↔ (x + dx = 0 ∨ x + dx = 2 * a) := by unfold FlX; rw [k0]; omega
    have fy : FlY a b l (x + dx) (y + dy) ↔ (y + dy = 0 ∨ y + dy = 2 * b) := by unfold FlY; rw [k0]; omega
    simp only [fx, fy, q1, q2]
  · have n1 : ¬ (x + dx = 0 ∨ x + dx = 2 * a) := fun h => he (by unfold Edge; omega)
    have n2 : ¬ (y + dy = 0 ∨ y + dy = 2 * b) := fun h => he (by unfold Edge; omega)
    have q1 := h1 he
    have q2 := h2 he
    rw [if_neg n1] at q1
    rw [if_neg n2] at q2
    have fx : FlX a b l (x + dx) (y + dy) ↔ kd a b l (x + dx) (y + dy) = 1 := by unfold FlX; omega
    have fy : FlY a b l (x + dx) (y + dy) ↔ kd a b l (x + dx) (y + dy) = 2 := by unfold FlY; omega
    simp only [fx, fy, q1, q2]

set_option maxRecDepth 4000 in
/-- spec.l03Step -/
theorem f_s_l03Step (w : World) (p : Nat) (a : Int) (b : Int) (v : Value) (l : List Int) (x : Int) (y : Int) (dx : Int) (dy : Int) (hp : Rd w (boxS p) 3 1 [.int .i64 a, .int .i64 b, v]) (hv : Rd w v 1 l.length (ints l)) (hk : okP a b l = true) (hvw : VW a b (x, y, dx, dy)) : RetV Try.prog 213 [.pointer (some ⟨p, 0, none⟩), .agg #[.int .i64 x, .int .i64 y, .int .i64 dx, .int .i64 dy]] w (.agg (encW (stp a b l (x, y, dx, dy))).toArray) := by
  have hs := okP_size hk
  have hli := okP_inn hk
  have hm := VW_mid hs hvw
  obtain ⟨hs1, hs2, hs3, hs4⟩ := id hs
  have hpt := hm.2.2.2.2.2.2.2.2.1
  have hpp := ptOk_mid hs hpt
  refine Ret.enter Try.func213 rfl Try.ntmps213 rfl ?_
  refine Run.seq ?_
  refine Run.region ?_
  refine Ops.go rfl (Loud.box rfl rfl) ?_
  rintro _ _ ⟨b3, rfl, rfl⟩
  refine Ops.go rfl (Loud.alloc zero167 rfl) ?_
  rintro _ _ ⟨b4, rfl, rfl⟩
  refine Ops.nil ?_
  refine Run.seq ?_
  refine Run.region ?_
  refine Ops.pure rfl (Pure.ldBA 1 rfl cell167 rfl rfl rfl) ?_
  refine Ops.q rfl (QOp.call fn226 rfl (fun w hw => f_s_l03Next w _ _ _ _ (by omega) (by omega) (by omega) (by omega))) ?_
  refine Ops.go rfl (Loud.alloc zero72 rfl) ?_
  rintro _ _ ⟨b5, rfl, rfl⟩
  refine Ops.store (Stores.box 0 rfl rfl rfl size72 (allOne rfl) rfl rfl) ?_
  refine Ops.nil ?_
  refine Run.seq ?_
  refine Run.region ?_
  refine Ops.pure rfl (Pure.ldBA 0 rfl cell72 rfl rfl rfl) ?_
  refine Ops.pure rfl (Pure.fieldAddrB fld167_1 rfl) ?_
  refine Ops.pure rfl (Pure.ldB 2 rfl cell2 rfl rfl) ?_
  refine Ops.pure rfl (Pure.fieldAddrB fld167_2 rfl) ?_
  refine Ops.pure rfl (Pure.ldB 2 rfl cell2 rfl rfl) ?_
  refine Ops.pure rfl (Pure.build rfl (bld167_3 _ _ _ _ (by first | rfl | assumption) (by first | rfl | assumption))) ?_
  refine Ops.go rfl (Loud.alloc zero167 rfl) ?_
  rintro _ _ ⟨b6, rfl, rfl⟩
  refine Ops.store (Stores.box 0 rfl rfl rfl size167 (allOne rfl) rfl rfl) ?_
  refine Ops.nil ?_
  refine Run.seq ?_
  refine Run.seq ?_
  refine Run.mid (fun s' L' => Sub ([(0, .pointer (some ⟨p, 0, none⟩)), (4, .pointer (some ⟨b4, 0, none⟩)), (5, .pointer (some ⟨b5, 0, none⟩)), (6, .pointer (some ⟨b6, 0, none⟩)), (27, .bool (decide (x + dx = 0 ∨ x + dx = 2 * a)))]) s' ∧ Ext ([.box b6 167 [.int .i64 (x + dx), .int .i64 (y + dy), .int .i64 dx, .int .i64 dy], .box b5 72 [.int .i64 (x + dx), .int .i64 (y + dy)], .box b4 167 [.int .i64 0, .int .i64 0, .int .i64 0, .int .i64 0]]) L') ?_ ?_
  · skip
    refine Any.start follows ?_
    refine Any.take 0 rfl (by kernel_rfl) rfl (QOp.pure (Pure.fieldAddrB fld72_0 rfl)) ?_
    refine Any.take 1 rfl (by kernel_rfl) rfl (QOp.pure (Pure.ldB 1 rfl cell2 rfl rfl)) ?_
    refine Any.take 2 rfl (by kernel_rfl) rfl (QOp.pure (Pure.eql rfl rfl)) ?_
    refine Any.take 3 rfl (by kernel_rfl) rfl (QOp.pure (Pure.move rfl)) ?_
    refine Any.splitG 18 rfl (fun c18 => ?_) (fun c18 => ?_)
    · skip
      have c18' := dT c18
      refine Any.takeN 4 rfl (by kernel_rfl) rfl rfl rfl rfl (by rw [c18]; decide) ?_
      refine Any.takeN 5 rfl (by kernel_rfl) rfl rfl rfl rfl (by rw [c18]; decide) ?_
      refine Any.takeN 6 rfl (by kernel_rfl) rfl rfl rfl rfl (by rw [c18]; decide) ?_
      refine Any.takeN 7 rfl (by kernel_rfl) rfl rfl rfl rfl (by rw [c18]; decide) ?_
      refine Any.takeN 8 rfl (by kernel_rfl) rfl rfl rfl rfl (by rw [c18]; decide) ?_
      refine Any.takeN 9 rfl (by kernel_rfl) rfl rfl rfl rfl (by rw [c18]; decide) ?_
      refine Any.takeN 10 rfl (by kernel_rfl) rfl rfl rfl rfl (by rw [c18]; decide) ?_
      refine Any.takeN 11 rfl (by kernel_rfl) rfl rfl rfl rfl (by rw [c18]; decide) ?_
      refine Any.take 12 rfl (by kernel_rfl) rfl (QOp.pure (Pure.pickT rfl c18 rfl)) ?_
      refine Any.done (by kernel_rfl) ?_
      refine Run.asrt ?_
      exact ⟨⟨rfl, rfl, rfl, rfl, (by first | exact congrArg (fun x => some (Value.bool x)) (decide_eq_true (p := (x + dx = 0 ∨ x + dx = 2 * a)) (by omega)).symm | exact congrArg (fun x => some (Value.bool x)) (decide_eq_false (p := (x + dx = 0 ∨ x + dx = 2 * a)) (by omega)).symm | exact congrArg (fun x => some (Value.bool x)) (decide_eq_decide (p := _) (q := (x + dx = 0 ∨ x + dx = 2 * a)).2 (by omega))), trivial⟩, Ext.take 0 rfl (Ext.take 0 rfl (Ext.take 0 rfl (Ext.nil _)))⟩
    · skip
      have c18' := dF c18
      refine Any.takeY 4 rfl (by kernel_rfl) rfl rfl rfl rfl c18 (QOp.pure (Pure.fieldAddrB fld72_0 rfl)) ?_
      refine Any.takeY 5 rfl (by kernel_rfl) rfl rfl rfl rfl c18 (QOp.pure (Pure.ldB 1 rfl cell2 rfl rfl)) ?_
      refine Any.takeY 6 rfl (by kernel_rfl) rfl rfl rfl rfl c18 (QOp.pure (Pure.move rfl)) ?_
      refine Any.takeY 7 rfl (by kernel_rfl) rfl rfl rfl rfl c18 (QOp.pure (Pure.nilchk rfl)) ?_
      refine Any.takeY 8 rfl (by kernel_rfl) rfl rfl rfl rfl c18 (QOp.pure (Pure.fieldAddrB fld35_0 rfl)) ?_
      refine Any.takeY 9 rfl (by kernel_rfl) rfl rfl rfl rfl c18 (QOp.pure (Pure.ldP cell2 rfl (RdL.old hp) rfl)) ?_
      refine Any.takeY 10 rfl (by kernel_rfl) rfl rfl rfl rfl c18 (QOp.pure (Pure.mul rfl rfl (by omega) (by omega))) ?_
      refine Any.takeY 11 rfl (by kernel_rfl) rfl rfl rfl rfl c18 (QOp.pure (Pure.eql rfl rfl)) ?_
      refine Any.take 12 rfl (by kernel_rfl) rfl (QOp.pure (Pure.pickF rfl c18 rfl)) ?_
      refine Any.done (by kernel_rfl) ?_
      refine Run.asrt ?_
      exact ⟨⟨rfl, rfl, rfl, rfl, (by first | exact congrArg (fun x => some (Value.bool x)) (decide_eq_true (p := (x + dx = 0 ∨ x + dx = 2 * a)) (by omega)).symm | exact congrArg (fun x => some (Value.bool x)) (decide_eq_false (p := (x + dx = 0 ∨ x + dx = 2 * a)) (by omega)).symm | exact congrArg (fun x => some (Value.bool x)) (decide_eq_decide (p := _) (q := (x + dx = 0 ∨ x + dx = 2 * a)).2 (by omega))), trivial⟩, Ext.take 0 rfl (Ext.take 0 rfl (Ext.take 0 rfl (Ext.nil _)))⟩
  · rintro s' L' ⟨hs', hL'⟩
    refine Run.sub hs' hL' ?_
    clear hs' hL' s' L'
    refine Run.mid (fun s' L' => Sub ([(0, .pointer (some ⟨p, 0, none⟩)), (4, .pointer (some ⟨b4, 0, none⟩)), (5, .pointer (some ⟨b5, 0, none⟩)), (6, .pointer (some ⟨b6, 0, none⟩))]) s' ∧ Ext ([.box b6 167 [.int .i64 (x + dx), .int .i64 (y + dy), .int .i64 (if (x + dx = 0 ∨ x + dx = 2 * a) then -dx else dx), .int .i64 dy], .box b5 72 [.int .i64 (x + dx), .int .i64 (y + dy)], .box b4 167 [.int .i64 0, .int .i64 0, .int .i64 0, .int .i64 0]]) L') ?_ ?_
    · skip
      refine Run.cond rfl (fun c27 => ?_) (fun c27 => ?_)
      · skip
        replace c27 := dT c27
        refine Run.region ?_
        refine Ops.pure rfl (Pure.fieldAddrB fld167_1 rfl) ?_
        refine Ops.pure rfl (Pure.ldB 0 rfl cell2 rfl rfl) ?_
        refine Ops.pure rfl (Pure.neg rfl (by omega) (by omega)) ?_
        refine Ops.pure rfl (Pure.fieldAddrB fld167_1 rfl) ?_
        refine Ops.store (Stores.box 0 rfl rfl rfl size2 (allOne rfl) rfl rfl) ?_
        refine Ops.nil ?_
        refine Run.asrt ?_
        exact ⟨⟨rfl, rfl, rfl, rfl, trivial⟩, (by first | (rw [if_pos (show (x + dx = 0 ∨ x + dx = 2 * a) by assumption)]; exact Ext.refl _) | (rw [if_neg (show ¬ (x + dx = 0 ∨ x + dx = 2 * a) by assumption)]; exact Ext.refl _))⟩
      · skip
        replace c27 := dF c27
        refine Run.skip ?_
        refine Run.asrt ?_
        exact ⟨⟨rfl, rfl, rfl, rfl, trivial⟩, (by first | (rw [if_pos (show (x + dx = 0 ∨ x + dx = 2 * a) by assumption)]; exact Ext.refl _) | (rw [if_neg (show ¬ (x + dx = 0 ∨ x + dx = 2 * a) by assumption)]; exact Ext.refl _))⟩
    · rintro s' L' ⟨hs', hL'⟩
      refine Run.sub hs' hL' ?_
      clear hs' hL' s' L'
      refine Run.seq ?_
      refine Run.seq ?_
      refine Run.mid (fun s' L' => Sub ([(0, .pointer (some ⟨p, 0, none⟩)), (4, .pointer (some ⟨b4, 0, none⟩)), (5, .pointer (some ⟨b5, 0, none⟩)), (6, .pointer (some ⟨b6, 0, none⟩)), (44, .bool (decide (y + dy = 0 ∨ y + dy = 2 * b)))]) s' ∧ Ext ([.box b6 167 [.int .i64 (x + dx), .int .i64 (y + dy), .int .i64 (if (x + dx = 0 ∨ x + dx = 2 * a) then -dx else dx), .int .i64 dy], .box b5 72 [.int .i64 (x + dx), .int .i64 (y + dy)], .box b4 167 [.int .i64 0, .int .i64 0, .int .i64 0, .int .i64 0]]) L') ?_ ?_
      · skip
        refine Any.start follows ?_
        refine Any.take 0 rfl (by kernel_rfl) rfl (QOp.pure (Pure.fieldAddrB fld72_1 rfl)) ?_
        refine Any.take 1 rfl (by kernel_rfl) rfl (QOp.pure (Pure.ldB 1 rfl cell2 rfl rfl)) ?_
        refine Any.take 2 rfl (by kernel_rfl) rfl (QOp.pure (Pure.eql rfl rfl)) ?_
        refine Any.take 3 rfl (by kernel_rfl) rfl (QOp.pure (Pure.move rfl)) ?_
        refine Any.splitG 35 rfl (fun c35 => ?_) (fun c35 => ?_)
        · skip
          have c35' := dT c35
          refine Any.takeN 4 rfl (by kernel_rfl) rfl rfl rfl rfl (by rw [c35]; decide) ?_
          refine Any.takeN 5 rfl (by kernel_rfl) rfl rfl rfl rfl (by rw [c35]; decide) ?_
          refine Any.takeN 6 rfl (by kernel_rfl) rfl rfl rfl rfl (by rw [c35]; decide) ?_
          refine Any.takeN 7 rfl (by kernel_rfl) rfl rfl rfl rfl (by rw [c35]; decide) ?_
          refine Any.takeN 8 rfl (by kernel_rfl) rfl rfl rfl rfl (by rw [c35]; decide) ?_
          refine Any.takeN 9 rfl (by kernel_rfl) rfl rfl rfl rfl (by rw [c35]; decide) ?_
          refine Any.takeN 10 rfl (by kernel_rfl) rfl rfl rfl rfl (by rw [c35]; decide) ?_
          refine Any.takeN 11 rfl (by kernel_rfl) rfl rfl rfl rfl (by rw [c35]; decide) ?_
          refine Any.take 12 rfl (by kernel_rfl) rfl (QOp.pure (Pure.pickT rfl c35 rfl)) ?_
          refine Any.done (by kernel_rfl) ?_
          refine Run.asrt ?_
          exact ⟨⟨rfl, rfl, rfl, rfl, (by first | exact congrArg (fun x => some (Value.bool x)) (decide_eq_true (p := (y + dy = 0 ∨ y + dy = 2 * b)) (by omega)).symm | exact congrArg (fun x => some (Value.bool x)) (decide_eq_false (p := (y + dy = 0 ∨ y + dy = 2 * b)) (by omega)).symm | exact congrArg (fun x => some (Value.bool x)) (decide_eq_decide (p := _) (q := (y + dy = 0 ∨ y + dy = 2 * b)).2 (by omega))), trivial⟩, Ext.refl _⟩
        · skip
          have c35' := dF c35
          refine Any.takeY 4 rfl (by kernel_rfl) rfl rfl rfl rfl c35 (QOp.pure (Pure.fieldAddrB fld72_1 rfl)) ?_
          refine Any.takeY 5 rfl (by kernel_rfl) rfl rfl rfl rfl c35 (QOp.pure (Pure.ldB 1 rfl cell2 rfl rfl)) ?_
          refine Any.takeY 6 rfl (by kernel_rfl) rfl rfl rfl rfl c35 (QOp.pure (Pure.move rfl)) ?_
          refine Any.takeY 7 rfl (by kernel_rfl) rfl rfl rfl rfl c35 (QOp.pure (Pure.nilchk rfl)) ?_
          refine Any.takeY 8 rfl (by kernel_rfl) rfl rfl rfl rfl c35 (QOp.pure (Pure.fieldAddrB fld35_1 rfl)) ?_
          refine Any.takeY 9 rfl (by kernel_rfl) rfl rfl rfl rfl c35 (QOp.pure (Pure.ldP cell2 rfl (RdL.old hp) rfl)) ?_
          refine Any.takeY 10 rfl (by kernel_rfl) rfl rfl rfl rfl c35 (QOp.pure (Pure.mul rfl rfl (by omega) (by omega))) ?_
          refine Any.takeY 11 rfl (by kernel_rfl) rfl rfl rfl rfl c35 (QOp.pure (Pure.eql rfl rfl)) ?_
          refine Any.take 12 rfl (by kernel_rfl) rfl (QOp.pure (Pure.pickF rfl c35 rfl)) ?_
          refine Any.done (by kernel_rfl) ?_
          refine Run.asrt ?_
          exact ⟨⟨rfl, rfl, rfl, rfl, (by first | exact congrArg (fun x => some (Value.bool x)) (decide_eq_true (p := (y + dy = 0 ∨ y + dy = 2 * b)) (by omega)).symm | exact congrArg (fun x => some (Value.bool x)) (decide_eq_false (p := (y + dy = 0 ∨ y + dy = 2 * b)) (by omega)).symm | exact congrArg (fun x => some (Value.bool x)) (decide_eq_decide (p := _) (q := (y + dy = 0 ∨ y + dy = 2 * b)).2 (by omega))), trivial⟩, Ext.refl _⟩
      · rintro s' L' ⟨hs', hL'⟩
        refine Run.sub hs' hL' ?_
        clear hs' hL' s' L'
        refine Run.mid (fun s' L' => Sub ([(0, .pointer (some ⟨p, 0, none⟩)), (4, .pointer (some ⟨b4, 0, none⟩)), (5, .pointer (some ⟨b5, 0, none⟩)), (6, .pointer (some ⟨b6, 0, none⟩))]) s' ∧ Ext ([.box b6 167 [.int .i64 (x + dx), .int .i64 (y + dy), .int .i64 (if (x + dx = 0 ∨ x + dx = 2 * a) then -dx else dx), .int .i64 (if (y + dy = 0 ∨ y + dy = 2 * b) then -dy else dy)], .box b5 72 [.int .i64 (x + dx), .int .i64 (y + dy)], .box b4 167 [.int .i64 0, .int .i64 0, .int .i64 0, .int .i64 0]]) L') ?_ ?_
        · skip
          refine Run.cond rfl (fun c44 => ?_) (fun c44 => ?_)
          · skip
            replace c44 := dT c44
            refine Run.region ?_
            refine Ops.pure rfl (Pure.fieldAddrB fld167_2 rfl) ?_
            refine Ops.pure rfl (Pure.ldB 0 rfl cell2 rfl rfl) ?_
            refine Ops.pure rfl (Pure.neg rfl (by omega) (by omega)) ?_
            refine Ops.pure rfl (Pure.fieldAddrB fld167_2 rfl) ?_
            refine Ops.store (Stores.box 0 rfl rfl rfl size2 (allOne rfl) rfl rfl) ?_
            refine Ops.nil ?_
            refine Run.asrt ?_
            exact ⟨⟨rfl, rfl, rfl, rfl, trivial⟩, (by first | (rw [if_pos (show (y + dy = 0 ∨ y + dy = 2 * b) by assumption)]; exact Ext.refl _) | (rw [if_neg (show ¬ (y + dy = 0 ∨ y + dy = 2 * b) by assumption)]; exact Ext.refl _))⟩
          · skip
            replace c44 := dF c44
            refine Run.skip ?_
            refine Run.asrt ?_
            exact ⟨⟨rfl, rfl, rfl, rfl, trivial⟩, (by first | (rw [if_pos (show (y + dy = 0 ∨ y + dy = 2 * b) by assumption)]; exact Ext.refl _) | (rw [if_neg (show ¬ (y + dy = 0 ∨ y + dy = 2 * b) by assumption)]; exact Ext.refl _))⟩
        · rintro s' L' ⟨hs', hL'⟩
          refine Run.sub hs' hL' ?_
          clear hs' hL' s' L'
          refine Run.seq ?_
          refine Run.seq ?_
          refine Run.region ?_
          refine Ops.pure rfl (Pure.move rfl) ?_
          refine Ops.pure rfl (Pure.ldBA 1 rfl cell72 rfl rfl rfl) ?_
          refine Ops.q rfl (QOp.call fn201 rfl (fun w hw => f_s_l02Edge w _ _ _ _ _ _ (by exact RdL.old (by assumption) w hw) (by assumption))) ?_
          refine Ops.pure rfl (Pure.not rfl) ?_
          refine Ops.nil ?_
          refine Run.cond rfl (fun c52 => ?_) (fun c52 => ?_)
          · skip
            replace c52 := nT c52
            refine Run.seq ?_
            have hnb := num_bd hs hpt c52
            have hkd : kd a b l (x + dx) (y + dy) = l.getD (num a (x + dx) (y + dy)).toNat 0 := if_neg c52
            have hd1 : -1 ≤ (if (x + dx = 0 ∨ x + dx = 2 * a) then -dx else dx) ∧ (if (x + dx = 0 ∨ x + dx = 2 * a) then -dx else dx) ≤ 1 := by split <;> omega
            have hd2 : -1 ≤ (if (y + dy = 0 ∨ y + dy = 2 * b) then -dy else dy) ∧ (if (y + dy = 0 ∨ y + dy = 2 * b) then -dy else dy) ≤ 1 := by split <;> omega
            refine Any.start follows ?_
            refine Any.take 0 rfl (by kernel_rfl) rfl (QOp.pure (Pure.move rfl)) ?_
            refine Any.take 1 rfl (by kernel_rfl) rfl (QOp.pure (Pure.nilchk rfl)) ?_
            refine Any.take 2 rfl (by kernel_rfl) rfl (QOp.pure (Pure.fieldAddrB fld35_2 rfl)) ?_
            refine Any.take 3 rfl (by kernel_rfl) rfl (QOp.pure (Pure.ldP cell32 rfl (RdL.old hp) rfl)) ?_
            refine Any.take 4 rfl (by kernel_rfl) rfl (QOp.pure (Pure.move rfl)) ?_
            refine Any.take 5 rfl (by kernel_rfl) rfl (QOp.pure (Pure.ldBA 1 rfl cell72 rfl rfl rfl)) ?_
            refine Any.take 6 rfl (by kernel_rfl) rfl (QOp.call fn144 rfl (fun w hw => f_s_l02Number w _ _ _ _ _ _ (by exact RdL.old (by assumption) w hw) (by assumption) (by assumption) (by assumption))) ?_
            refine Any.take 7 rfl (by kernel_rfl) rfl (QOp.pure (Pure.idx1 sl32 (RdL.old hv) rfl rfl (by first | assumption | omega | (simp; omega)) (by first | assumption | omega | (simp; omega)))) ?_
            refine Any.take 8 rfl (by kernel_rfl) rfl (QOp.pure (Pure.ld cell2 rfl (RdL.old hv) (by first | exact ints_get (by omega) | exact bools_get (by omega) | exact strs_get (by omega) | exact vals_get (by first | omega | (simp; omega))))) ?_
            refine Any.done (by kernel_rfl) ?_
            refine Run.block ?_
            refine Run.seq ?_
            refine Run.region ?_
            refine Ops.pure rfl (Pure.eql rfl rfl) ?_
            refine Ops.pure rfl (Pure.assign rfl) ?_
            refine Ops.nil ?_
            refine Run.cond rfl (fun c62 => ?_) (fun c62 => ?_)
            · skip
              replace c62 := dT c62
              refine Run.region ?_
              refine Ops.pure rfl (Pure.fieldAddrB fld167_1 rfl) ?_
              refine Ops.pure rfl (Pure.ldB 0 rfl cell2 rfl rfl) ?_
              refine Ops.pure rfl (Pure.neg rfl (by omega) (by omega)) ?_
              refine Ops.pure rfl (Pure.fieldAddrB fld167_1 rfl) ?_
              refine Ops.store (Stores.box 0 rfl rfl rfl size2 (allOne rfl) rfl rfl) ?_
              refine Ops.nil ?_
              refine Run.blk ?_
              refine Run.seq ?_
              refine Run.region ?_
              refine Ops.pure rfl (Pure.ldBA 0 rfl cell167 rfl rfl rfl) ?_
              refine Ops.store (Stores.box 2 rfl rfl rfl size167 (allOne rfl) rfl rfl) ?_
              refine Ops.nil ?_
              refine Run.retC 2 rfl rfl rfl cell167 rfl ?_
              first
                | exact spec_flip hpt (fun hh => absurd c52 hh) (fun hh => absurd c52 hh) (fun _ => ⟨rfl, rfl⟩)
                | exact spec_flip hpt (fun _ => (if_pos (show (kd a b l (x + dx) (y + dy)) = 1 by omega)).symm) (fun _ => (if_neg (show ¬ (kd a b l (x + dx) (y + dy)) = 2 by omega)).symm) (fun hh => absurd hh c52)
                | exact spec_flip hpt (fun _ => (if_neg (show ¬ (kd a b l (x + dx) (y + dy)) = 1 by omega)).symm) (fun _ => (if_pos (show (kd a b l (x + dx) (y + dy)) = 2 by omega)).symm) (fun hh => absurd hh c52)
                | exact spec_flip hpt (fun _ => (if_neg (show ¬ (kd a b l (x + dx) (y + dy)) = 1 by omega)).symm) (fun _ => (if_neg (show ¬ (kd a b l (x + dx) (y + dy)) = 2 by omega)).symm) (fun hh => absurd hh c52)
            · skip
              replace c62 := dF c62
              refine Run.seq ?_
              refine Run.region ?_
              refine Ops.pure rfl (Pure.eql rfl rfl) ?_
              refine Ops.pure rfl (Pure.assign rfl) ?_
              refine Ops.nil ?_
              refine Run.cond rfl (fun c68 => ?_) (fun c68 => ?_)
              · skip
                replace c68 := dT c68
                refine Run.region ?_
                refine Ops.pure rfl (Pure.fieldAddrB fld167_2 rfl) ?_
                refine Ops.pure rfl (Pure.ldB 0 rfl cell2 rfl rfl) ?_
                refine Ops.pure rfl (Pure.neg rfl (by omega) (by omega)) ?_
                refine Ops.pure rfl (Pure.fieldAddrB fld167_2 rfl) ?_
                refine Ops.store (Stores.box 0 rfl rfl rfl size2 (allOne rfl) rfl rfl) ?_
                refine Ops.nil ?_
                refine Run.blk ?_
                refine Run.seq ?_
                refine Run.region ?_
                refine Ops.pure rfl (Pure.ldBA 0 rfl cell167 rfl rfl rfl) ?_
                refine Ops.store (Stores.box 2 rfl rfl rfl size167 (allOne rfl) rfl rfl) ?_
                refine Ops.nil ?_
                refine Run.retC 2 rfl rfl rfl cell167 rfl ?_
                first
                  | exact spec_flip hpt (fun hh => absurd c52 hh) (fun hh => absurd c52 hh) (fun _ => ⟨rfl, rfl⟩)
                  | exact spec_flip hpt (fun _ => (if_pos (show (kd a b l (x + dx) (y + dy)) = 1 by omega)).symm) (fun _ => (if_neg (show ¬ (kd a b l (x + dx) (y + dy)) = 2 by omega)).symm) (fun hh => absurd hh c52)
                  | exact spec_flip hpt (fun _ => (if_neg (show ¬ (kd a b l (x + dx) (y + dy)) = 1 by omega)).symm) (fun _ => (if_pos (show (kd a b l (x + dx) (y + dy)) = 2 by omega)).symm) (fun hh => absurd hh c52)
                  | exact spec_flip hpt (fun _ => (if_neg (show ¬ (kd a b l (x + dx) (y + dy)) = 1 by omega)).symm) (fun _ => (if_neg (show ¬ (kd a b l (x + dx) (y + dy)) = 2 by omega)).symm) (fun hh => absurd hh c52)
              · skip
                replace c68 := dF c68
                refine Run.skip ?_
                refine Run.blk ?_
                refine Run.seq ?_
                refine Run.region ?_
                refine Ops.pure rfl (Pure.ldBA 0 rfl cell167 rfl rfl rfl) ?_
                refine Ops.store (Stores.box 2 rfl rfl rfl size167 (allOne rfl) rfl rfl) ?_
                refine Ops.nil ?_
                refine Run.retC 2 rfl rfl rfl cell167 rfl ?_
                first
                  | exact spec_flip hpt (fun hh => absurd c52 hh) (fun hh => absurd c52 hh) (fun _ => ⟨rfl, rfl⟩)
                  | exact spec_flip hpt (fun _ => (if_pos (show (kd a b l (x + dx) (y + dy)) = 1 by omega)).symm) (fun _ => (if_neg (show ¬ (kd a b l (x + dx) (y + dy)) = 2 by omega)).symm) (fun hh => absurd hh c52)
                  | exact spec_flip hpt (fun _ => (if_neg (show ¬ (kd a b l (x + dx) (y + dy)) = 1 by omega)).symm) (fun _ => (if_pos (show (kd a b l (x + dx) (y + dy)) = 2 by omega)).symm) (fun hh => absurd hh c52)
                  | exact spec_flip hpt (fun _ => (if_neg (show ¬ (kd a b l (x + dx) (y + dy)) = 1 by omega)).symm) (fun _ => (if_neg (show ¬ (kd a b l (x + dx) (y + dy)) = 2 by omega)).symm) (fun hh => absurd hh c52)
          · skip
            replace c52 := nF c52
            refine Run.skip ?_
            refine Run.seq ?_
            refine Run.region ?_
            refine Ops.pure rfl (Pure.ldBA 0 rfl cell167 rfl rfl rfl) ?_
            refine Ops.store (Stores.box 2 rfl rfl rfl size167 (allOne rfl) rfl rfl) ?_
            refine Ops.nil ?_
            refine Run.retC 2 rfl rfl rfl cell167 rfl ?_
            first
              | exact spec_flip hpt (fun hh => absurd c52 hh) (fun hh => absurd c52 hh) (fun _ => ⟨rfl, rfl⟩)
              | exact spec_flip hpt (fun _ => (if_pos (show (kd a b l (x + dx) (y + dy)) = 1 by omega)).symm) (fun _ => (if_neg (show ¬ (kd a b l (x + dx) (y + dy)) = 2 by omega)).symm) (fun hh => absurd hh c52)
              | exact spec_flip hpt (fun _ => (if_neg (show ¬ (kd a b l (x + dx) (y + dy)) = 1 by omega)).symm) (fun _ => (if_pos (show (kd a b l (x + dx) (y + dy)) = 2 by omega)).symm) (fun hh => absurd hh c52)
              | exact spec_flip hpt (fun _ => (if_neg (show ¬ (kd a b l (x + dx) (y + dy)) = 1 by omega)).symm) (fun _ => (if_neg (show ¬ (kd a b l (x + dx) (y + dy)) = 2 by omega)).symm) (fun hh => absurd hh c52)

end Go.Proofs.Ytmfinopdokkjcaa
