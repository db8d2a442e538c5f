/- Contracts of functions, printed by program from annotations. -/
import Derived.Test.YtkplanpcmkbfiaaTraceM
import Derived.Test.YtkplanpcmkbfiaaPts
namespace Go.Proofs.Ytkplanpcmkbfiaa
open Go Go.AW Go.RowKit
set_option linter.unusedVariables false
set_option linter.unusedSimpArgs false

theorem VW_mid {a b x y dx dy : Int} (hs : SizeOk a b) (h : VW a b (x, y, dx, dy)) : 0 ≤ x ∧ x ≤ 16 ∧ 0 ≤ y ∧ y ≤ 16 ∧ -1 ≤ dx ∧ dx ≤ 1 ∧ -1 ≤ dy ∧ dy ≤ 1 ∧ PtOk a b (x + dx) (y + dy) ∧ 0 ≤ x + dx ∧ -1 ≤ dx * dy ∧ dx * dy ≤ 1 := by
  obtain ⟨h1, h2, h3, h4⟩ := VW_mk.1 h
  have h5 := ptOk_mid hs h3
  have h6 := ptOk_mid hs h4
  refine ⟨by omega, by omega, by omega, by omega, by omega, by omega, by omega, by omega, h4, by omega, ?_⟩
  rcases h1 with rfl | rfl <;> rcases h2 with rfl | rfl <;> decide
/-- the code of a panel and a walker -/
def wkE (a b : Int) (l : List Int) (x y dx dy : Int) : Int := if okP a b l = true ∧ VW a b (x, y, dx, dy) then 0 else 1
theorem wkE_bad {a b x y dx dy : Int} {l : List Int} (h : ¬ (okP a b l = true ∧ VW a b (x, y, dx, dy))) : wkE a b l x y dx dy = 1 := by unfold wkE; rw [if_neg h]
theorem wkE_ok {a b x y dx dy : Int} {l : List Int} (h : okP a b l = true ∧ VW a b (x, y, dx, dy)) : wkE a b l x y dx dy = 0 := by unfold wkE; rw [if_pos h]
theorem wkE_zero {a b x y dx dy : Int} {l : List Int} (h : wkE a b l x y dx dy = 0) : okP a b l = true ∧ VW a b (x, y, dx, dy) := by
  unfold wkE at h
  split at h
  · assumption
  · cases h
theorem wkE_one {a b x y dx dy : Int} {l : List Int} (h : ¬ wkE a b l x y dx dy = 0) : ¬ (okP a b l = true ∧ VW a b (x, y, dx, dy)) := fun hh => h (wkE_ok hh)
def poE (a b : Int) (l : List Int) (x y dx dy : Int) : Int := if okP a b l = true ∧ VW a b (x, y, dx, dy) then (if CrAt a b l (x + dx) (y + dy) then 0 else 6) else 1
def poB (a b : Int) (l : List Int) (x y dx dy : Int) : Bool := if poE a b l x y dx dy = 0 then decide (slp (x + dx) = dx * dy) else false
theorem po_bad {a b x y dx dy : Int} {l : List Int} (h : ¬ (okP a b l = true ∧ VW a b (x, y, dx, dy))) : poE a b l x y dx dy = 1 ∧ poB a b l x y dx dy = false := by
  have h1 : poE a b l x y dx dy = 1 := by unfold poE; rw [if_neg h]
  refine ⟨h1, ?_⟩
  unfold poB
  rw [h1]
  rfl
theorem po_no {a b x y dx dy : Int} {l : List Int} (h : okP a b l = true ∧ VW a b (x, y, dx, dy)) (hc : ¬ CrAt a b l (x + dx) (y + dy)) : poE a b l x y dx dy = 6 ∧ poB a b l x y dx dy = false := by
  have h1 : poE a b l x y dx dy = 6 := by unfold poE; rw [if_pos h, if_neg hc]
  refine ⟨h1, ?_⟩
  unfold poB
  rw [h1]
  rfl
theorem po_ok {a b x y dx dy : Int} {l : List Int} (h : okP a b l = true ∧ VW a b (x, y, dx, dy)) (hc : CrAt a b l (x + dx) (y + dy)) : poE a b l x y dx dy = 0 ∧ poB a b l x y dx dy = decide (slp (x + dx) = dx * dy) := by
  have h1 : poE a b l x y dx dy = 0 := by unfold poE; rw [if_pos h, if_pos hc]
  refine ⟨h1, ?_⟩
  unfold poB
  rw [if_pos h1]

set_option maxRecDepth 4000 in
/-- spec.l03Next -/
theorem f_s_l03Next (w : World) (x : Int) (y : Int) (dx : Int) (dy : Int) (hx : -1000 ≤ x ∧ x ≤ 1000) (hy : -1000 ≤ y ∧ y ≤ 1000) (hdx : -1000 ≤ dx ∧ dx ≤ 1000) (hdy : -1000 ≤ dy ∧ dy ≤ 1000) : RetV Try.prog 134 [.agg #[.int .i64 x, .int .i64 y, .int .i64 dx, .int .i64 dy]] w (.agg #[.int .i64 (x + dx), .int .i64 (y + dy)]) := by
  refine Ret.enter Try.func134 rfl Try.ntmps134 rfl ?_
  refine Run.seq ?_
  refine Run.region ?_
  refine Ops.go rfl (Loud.box rfl rfl) ?_
  rintro _ _ ⟨b1, rfl, rfl⟩
  refine Ops.go rfl (Loud.alloc zero55 rfl) ?_
  rintro _ _ ⟨b2, rfl, rfl⟩
  refine Ops.nil ?_
  refine Run.seq ?_
  refine Run.region ?_
  refine Ops.pure rfl (Pure.fieldAddrB fld57_0 rfl) ?_
  refine Ops.pure rfl (Pure.fieldAddrB fld55_0 rfl) ?_
  refine Ops.pure rfl (Pure.ldB 1 rfl cell2 rfl rfl) ?_
  refine Ops.pure rfl (Pure.fieldAddrB fld57_1 rfl) ?_
  refine Ops.pure rfl (Pure.ldB 1 rfl cell2 rfl rfl) ?_
  refine Ops.pure rfl (Pure.add rfl rfl (by omega) (by omega)) ?_
  refine Ops.pure rfl (Pure.fieldAddrB fld57_0 rfl) ?_
  refine Ops.pure rfl (Pure.fieldAddrB fld55_1 rfl) ?_
  refine Ops.pure rfl (Pure.ldB 1 rfl cell2 rfl rfl) ?_
  refine Ops.pure rfl (Pure.fieldAddrB fld57_2 rfl) ?_
  refine Ops.pure rfl (Pure.ldB 1 rfl cell2 rfl rfl) ?_
  refine Ops.pure rfl (Pure.add rfl rfl (by omega) (by omega)) ?_
  refine Ops.pure rfl (Pure.build rfl (bld55_2 _ _ (by first | rfl | assumption) (by first | rfl | assumption))) ?_
  refine Ops.store (Stores.box 0 rfl rfl rfl size55 (allOne rfl) rfl rfl) ?_
  refine Ops.nil ?_
  refine Run.retC 0 rfl rfl rfl cell55 rfl ?_
  rfl

set_option maxRecDepth 4000 in
/-- (impl.Walker).next -/
theorem f_i_Walker_next (w : World) (x : Int) (y : Int) (dx : Int) (dy : Int) (hx : -1000 ≤ x ∧ x ≤ 1000) (hy : -1000 ≤ y ∧ y ≤ 1000) (hdx : -1000 ≤ dx ∧ dx ≤ 1000) (hdy : -1000 ≤ dy ∧ dy ≤ 1000) : RetV Try.prog 92 [.agg #[.int .i64 x, .int .i64 y, .int .i64 dx, .int .i64 dy]] w (.agg #[.int .i64 (x + dx), .int .i64 (y + dy)]) := by
  refine Ret.enter Try.func92 rfl Try.ntmps92 rfl ?_
  refine Run.seq ?_
  refine Run.region ?_
  refine Ops.go rfl (Loud.box rfl rfl) ?_
  rintro _ _ ⟨b1, rfl, rfl⟩
  refine Ops.go rfl (Loud.alloc zero55 rfl) ?_
  rintro _ _ ⟨b2, rfl, rfl⟩
  refine Ops.nil ?_
  refine Run.seq ?_
  refine Run.region ?_
  refine Ops.pure rfl (Pure.fieldAddrB fld57_0 rfl) ?_
  refine Ops.pure rfl (Pure.fieldAddrB fld55_0 rfl) ?_
  refine Ops.pure rfl (Pure.ldB 1 rfl cell2 rfl rfl) ?_
  refine Ops.pure rfl (Pure.fieldAddrB fld57_1 rfl) ?_
  refine Ops.pure rfl (Pure.ldB 1 rfl cell2 rfl rfl) ?_
  refine Ops.pure rfl (Pure.add rfl rfl (by omega) (by omega)) ?_
  refine Ops.pure rfl (Pure.fieldAddrB fld57_0 rfl) ?_
  refine Ops.pure rfl (Pure.fieldAddrB fld55_1 rfl) ?_
  refine Ops.pure rfl (Pure.ldB 1 rfl cell2 rfl rfl) ?_
  refine Ops.pure rfl (Pure.fieldAddrB fld57_2 rfl) ?_
  refine Ops.pure rfl (Pure.ldB 1 rfl cell2 rfl rfl) ?_
  refine Ops.pure rfl (Pure.add rfl rfl (by omega) (by omega)) ?_
  refine Ops.pure rfl (Pure.build rfl (bld55_2 _ _ (by first | rfl | assumption) (by first | rfl | assumption))) ?_
  refine Ops.store (Stores.box 0 rfl rfl rfl size55 (allOne rfl) rfl rfl) ?_
  refine Ops.nil ?_
  refine Run.retC 0 rfl rfl rfl cell55 rfl ?_
  rfl

set_option maxRecDepth 4000 in
/-- impl.validWalker -/
theorem f_i_validWalker (w : World) (a : Int) (b : Int) (v : Value) (x : Int) (y : Int) (dx : Int) (dy : Int) (hs : SizeOk a b) : RetV Try.prog 135 [.agg #[.int .i64 a, .int .i64 b, v], .agg #[.int .i64 x, .int .i64 y, .int .i64 dx, .int .i64 dy]] w (.bool (decide (VW a b (x, y, dx, dy)))) := by
  obtain ⟨hs1, hs2, hs3, hs4⟩ := id hs
  refine Ret.enter Try.func135 rfl Try.ntmps135 rfl ?_
  refine Run.seq ?_
  refine Run.region ?_
  refine Ops.go rfl (Loud.box rfl rfl) ?_
  rintro _ _ ⟨b2, rfl, rfl⟩
  refine Ops.go rfl (Loud.box rfl rfl) ?_
  rintro _ _ ⟨b3, rfl, rfl⟩
  refine Ops.pure rfl (Pure.assign rfl) ?_
  refine Ops.nil ?_
  refine Run.seq ?_
  refine Any.start follows ?_
  refine Any.take 0 rfl (by kernel_rfl) rfl (QOp.pure (Pure.fieldAddrB fld57_1 rfl)) ?_
  refine Any.take 1 rfl (by kernel_rfl) rfl (QOp.pure (Pure.ldB 0 rfl cell2 rfl rfl)) ?_
  refine Any.take 2 rfl (by kernel_rfl) rfl (QOp.pure (Pure.eql rfl rfl)) ?_
  refine Any.take 3 rfl (by kernel_rfl) rfl (QOp.pure (Pure.move rfl)) ?_
  refine Any.splitG 8 rfl (fun c8 => ?_) (fun c8 => ?_)
  · skip
    have c8' := dT c8
    refine Any.takeN 4 rfl (by kernel_rfl) rfl rfl rfl rfl (by rw [c8]; decide) ?_
    refine Any.takeN 5 rfl (by kernel_rfl) rfl rfl rfl rfl (by rw [c8]; decide) ?_
    refine Any.takeN 6 rfl (by kernel_rfl) rfl rfl rfl rfl (by rw [c8]; decide) ?_
    refine Any.take 7 rfl (by kernel_rfl) rfl (QOp.pure (Pure.pickT rfl c8 rfl)) ?_
    refine Any.take 8 rfl (by kernel_rfl) rfl (QOp.pure (Pure.move rfl)) ?_
    refine Any.takeY 9 rfl (by kernel_rfl) rfl rfl rfl rfl rfl (QOp.pure (Pure.fieldAddrB fld57_2 rfl)) ?_
    refine Any.takeY 10 rfl (by kernel_rfl) rfl rfl rfl rfl rfl (QOp.pure (Pure.ldB 0 rfl cell2 rfl rfl)) ?_
    refine Any.takeY 11 rfl (by kernel_rfl) rfl rfl rfl rfl rfl (QOp.pure (Pure.eql rfl rfl)) ?_
    refine Any.takeY 12 rfl (by kernel_rfl) rfl rfl rfl rfl rfl (QOp.pure (Pure.move rfl)) ?_
    refine Any.splitG 17 rfl (fun c17 => ?_) (fun c17 => ?_)
    · skip
      have c17' := dT c17
      refine Any.takeN 13 rfl (by kernel_rfl) rfl rfl rfl rfl (by rw [c17]; decide) ?_
      refine Any.takeN 14 rfl (by kernel_rfl) rfl rfl rfl rfl (by rw [c17]; decide) ?_
      refine Any.takeN 15 rfl (by kernel_rfl) rfl rfl rfl rfl (by rw [c17]; decide) ?_
      refine Any.takeY 16 rfl (by kernel_rfl) rfl rfl rfl rfl rfl (QOp.pure (Pure.pickT rfl c17 rfl)) ?_
      refine Any.take 17 rfl (by kernel_rfl) rfl (QOp.pure (Pure.pickT rfl rfl rfl)) ?_
      refine Any.take 18 rfl (by kernel_rfl) rfl (QOp.pure (Pure.move rfl)) ?_
      refine Any.takeY 19 rfl (by kernel_rfl) rfl rfl rfl rfl rfl (QOp.pure (Pure.ldBA 1 rfl cell28 rfl rfl rfl)) ?_
      refine Any.takeY 20 rfl (by kernel_rfl) rfl rfl rfl rfl rfl (QOp.pure (Pure.fieldAddrB fld57_0 rfl)) ?_
      refine Any.takeY 21 rfl (by kernel_rfl) rfl rfl rfl rfl rfl (QOp.pure (Pure.ldBA 0 rfl cell55 rfl rfl rfl)) ?_
      refine Any.takeY 22 rfl (by kernel_rfl) rfl rfl rfl rfl rfl (QOp.call fn139 rfl (fun w hw => f_i_Panel_isPoint w _ _ _ _ _ (by assumption))) ?_
      refine Any.take 23 rfl (by kernel_rfl) rfl (QOp.pure (Pure.pickT rfl rfl rfl)) ?_
      refine Any.take 24 rfl (by kernel_rfl) rfl (QOp.pure (Pure.move rfl)) ?_
      refine Any.splitG 29 rfl (fun c29 => ?_) (fun c29 => ?_)
      · skip
        have c29' := dT c29
        have hmid := ptOk_mid hs (show PtOk a b x y by assumption)
        refine Any.takeY 25 rfl (by kernel_rfl) rfl rfl rfl rfl c29 (QOp.pure (Pure.ldBA 1 rfl cell28 rfl rfl rfl)) ?_
        refine Any.takeY 26 rfl (by kernel_rfl) rfl rfl rfl rfl c29 (QOp.pure (Pure.ldBA 0 rfl cell57 rfl rfl rfl)) ?_
        refine Any.takeY 27 rfl (by kernel_rfl) rfl rfl rfl rfl c29 (QOp.call fn92 rfl (fun w hw => f_i_Walker_next w _ _ _ _ (by omega) (by omega) (by omega) (by omega))) ?_
        refine Any.takeY 28 rfl (by kernel_rfl) rfl rfl rfl rfl c29 (QOp.call fn139 rfl (fun w hw => f_i_Panel_isPoint w _ _ _ _ _ (by assumption))) ?_
        refine Any.take 29 rfl (by kernel_rfl) rfl (QOp.pure (Pure.pickT rfl c29 rfl)) ?_
        refine Any.take 30 rfl (by kernel_rfl) rfl (QOp.pure (Pure.assign rfl)) ?_
        refine Any.done (by kernel_rfl) ?_
        refine Run.ret1 rfl rfl ?_
        first
          | rfl
          | (rw [decide_eq_false (by rw [VW_mk]; rintro ⟨q1, q2, q3, q4⟩; first | omega | contradiction)])
          | exact congrArg Value.bool (decide_eq_decide.2 (by rw [VW_mk]; exact ⟨fun q4 => ⟨by omega, by omega, by assumption, q4⟩, fun q => q.2.2.2⟩))
      · skip
        have c29' := dF c29
        refine Any.takeN 25 rfl (by kernel_rfl) rfl rfl rfl rfl (by rw [c29]; decide) ?_
        refine Any.takeN 26 rfl (by kernel_rfl) rfl rfl rfl rfl (by rw [c29]; decide) ?_
        refine Any.takeN 27 rfl (by kernel_rfl) rfl rfl rfl rfl (by rw [c29]; decide) ?_
        refine Any.takeN 28 rfl (by kernel_rfl) rfl rfl rfl rfl (by rw [c29]; decide) ?_
        refine Any.take 29 rfl (by kernel_rfl) rfl (QOp.pure (Pure.pickF rfl c29 rfl)) ?_
        refine Any.take 30 rfl (by kernel_rfl) rfl (QOp.pure (Pure.assign rfl)) ?_
        refine Any.done (by kernel_rfl) ?_
        refine Run.ret1 rfl rfl ?_
        first
          | rfl
          | (rw [decide_eq_false (by rw [VW_mk]; rintro ⟨q1, q2, q3, q4⟩; first | omega | contradiction)])
          | exact congrArg Value.bool (decide_eq_decide.2 (by rw [VW_mk]; exact ⟨fun q4 => ⟨by omega, by omega, by assumption, q4⟩, fun q => q.2.2.2⟩))
    · skip
      have c17' := dF c17
      refine Any.takeY 13 rfl (by kernel_rfl) rfl rfl rfl rfl c17 (QOp.pure (Pure.fieldAddrB fld57_2 rfl)) ?_
      refine Any.takeY 14 rfl (by kernel_rfl) rfl rfl rfl rfl c17 (QOp.pure (Pure.ldB 0 rfl cell2 rfl rfl)) ?_
      refine Any.takeY 15 rfl (by kernel_rfl) rfl rfl rfl rfl c17 (QOp.pure (Pure.eql rfl rfl)) ?_
      refine Any.takeY 16 rfl (by kernel_rfl) rfl rfl rfl rfl rfl (QOp.pure (Pure.pickF rfl c17 rfl)) ?_
      refine Any.take 17 rfl (by kernel_rfl) rfl (QOp.pure (Pure.pickT rfl rfl rfl)) ?_
      refine Any.take 18 rfl (by kernel_rfl) rfl (QOp.pure (Pure.move rfl)) ?_
      refine Any.splitG 23 rfl (fun c23 => ?_) (fun c23 => ?_)
      · skip
        have c23' := dT c23
        refine Any.takeY 19 rfl (by kernel_rfl) rfl rfl rfl rfl c23 (QOp.pure (Pure.ldBA 1 rfl cell28 rfl rfl rfl)) ?_
        refine Any.takeY 20 rfl (by kernel_rfl) rfl rfl rfl rfl c23 (QOp.pure (Pure.fieldAddrB fld57_0 rfl)) ?_
        refine Any.takeY 21 rfl (by kernel_rfl) rfl rfl rfl rfl c23 (QOp.pure (Pure.ldBA 0 rfl cell55 rfl rfl rfl)) ?_
        refine Any.takeY 22 rfl (by kernel_rfl) rfl rfl rfl rfl c23 (QOp.call fn139 rfl (fun w hw => f_i_Panel_isPoint w _ _ _ _ _ (by assumption))) ?_
        refine Any.take 23 rfl (by kernel_rfl) rfl (QOp.pure (Pure.pickT rfl c23 rfl)) ?_
        refine Any.take 24 rfl (by kernel_rfl) rfl (QOp.pure (Pure.move rfl)) ?_
        refine Any.splitG 29 rfl (fun c29 => ?_) (fun c29 => ?_)
        · skip
          have c29' := dT c29
          have hmid := ptOk_mid hs (show PtOk a b x y by assumption)
          refine Any.takeY 25 rfl (by kernel_rfl) rfl rfl rfl rfl c29 (QOp.pure (Pure.ldBA 1 rfl cell28 rfl rfl rfl)) ?_
          refine Any.takeY 26 rfl (by kernel_rfl) rfl rfl rfl rfl c29 (QOp.pure (Pure.ldBA 0 rfl cell57 rfl rfl rfl)) ?_
          refine Any.takeY 27 rfl (by kernel_rfl) rfl rfl rfl rfl c29 (QOp.call fn92 rfl (fun w hw => f_i_Walker_next w _ _ _ _ (by omega) (by omega) (by omega) (by omega))) ?_
          refine Any.takeY 28 rfl (by kernel_rfl) rfl rfl rfl rfl c29 (QOp.call fn139 rfl (fun w hw => f_i_Panel_isPoint w _ _ _ _ _ (by assumption))) ?_
          refine Any.take 29 rfl (by kernel_rfl) rfl (QOp.pure (Pure.pickT rfl c29 rfl)) ?_
          refine Any.take 30 rfl (by kernel_rfl) rfl (QOp.pure (Pure.assign rfl)) ?_
          refine Any.done (by kernel_rfl) ?_
          refine Run.ret1 rfl rfl ?_
          first
            | rfl
            | (rw [decide_eq_false (by rw [VW_mk]; rintro ⟨q1, q2, q3, q4⟩; first | omega | contradiction)])
            | exact congrArg Value.bool (decide_eq_decide.2 (by rw [VW_mk]; exact ⟨fun q4 => ⟨by omega, by omega, by assumption, q4⟩, fun q => q.2.2.2⟩))
        · skip
          have c29' := dF c29
          refine Any.takeN 25 rfl (by kernel_rfl) rfl rfl rfl rfl (by rw [c29]; decide) ?_
          refine Any.takeN 26 rfl (by kernel_rfl) rfl rfl rfl rfl (by rw [c29]; decide) ?_
          refine Any.takeN 27 rfl (by kernel_rfl) rfl rfl rfl rfl (by rw [c29]; decide) ?_
          refine Any.takeN 28 rfl (by kernel_rfl) rfl rfl rfl rfl (by rw [c29]; decide) ?_
          refine Any.take 29 rfl (by kernel_rfl) rfl (QOp.pure (Pure.pickF rfl c29 rfl)) ?_
          refine Any.take 30 rfl (by kernel_rfl) rfl (QOp.pure (Pure.assign rfl)) ?_
          refine Any.done (by kernel_rfl) ?_
          refine Run.ret1 rfl rfl ?_
          first
            | rfl
            | (rw [decide_eq_false (by rw [VW_mk]; rintro ⟨q1, q2, q3, q4⟩; first | omega | contradiction)])
            | exact congrArg Value.bool (decide_eq_decide.2 (by rw [VW_mk]; exact ⟨fun q4 => ⟨by omega, by omega, by assumption, q4⟩, fun q => q.2.2.2⟩))
      · skip
        have c23' := dF c23
        refine Any.takeN 19 rfl (by kernel_rfl) rfl rfl rfl rfl (by rw [c23]; decide) ?_
        refine Any.takeN 20 rfl (by kernel_rfl) rfl rfl rfl rfl (by rw [c23]; decide) ?_
        refine Any.takeN 21 rfl (by kernel_rfl) rfl rfl rfl rfl (by rw [c23]; decide) ?_
        refine Any.takeN 22 rfl (by kernel_rfl) rfl rfl rfl rfl (by rw [c23]; decide) ?_
        refine Any.take 23 rfl (by kernel_rfl) rfl (QOp.pure (Pure.pickF rfl c23 rfl)) ?_
        refine Any.take 24 rfl (by kernel_rfl) rfl (QOp.pure (Pure.move rfl)) ?_
        refine Any.takeN 25 rfl (by kernel_rfl) rfl rfl rfl rfl (by decide) ?_
        refine Any.takeN 26 rfl (by kernel_rfl) rfl rfl rfl rfl (by decide) ?_
        refine Any.takeN 27 rfl (by kernel_rfl) rfl rfl rfl rfl (by decide) ?_
        refine Any.takeN 28 rfl (by kernel_rfl) rfl rfl rfl rfl (by decide) ?_
        refine Any.take 29 rfl (by kernel_rfl) rfl (QOp.pure (Pure.pickF rfl rfl rfl)) ?_
        refine Any.take 30 rfl (by kernel_rfl) rfl (QOp.pure (Pure.assign rfl)) ?_
        refine Any.done (by kernel_rfl) ?_
        refine Run.ret1 rfl rfl ?_
        first
          | rfl
          | (rw [decide_eq_false (by rw [VW_mk]; rintro ⟨q1, q2, q3, q4⟩; first | omega | contradiction)])
          | exact congrArg Value.bool (decide_eq_decide.2 (by rw [VW_mk]; exact ⟨fun q4 => ⟨by omega, by omega, by assumption, q4⟩, fun q => q.2.2.2⟩))
  · skip
    have c8' := dF c8
    refine Any.takeY 4 rfl (by kernel_rfl) rfl rfl rfl rfl c8 (QOp.pure (Pure.fieldAddrB fld57_1 rfl)) ?_
    refine Any.takeY 5 rfl (by kernel_rfl) rfl rfl rfl rfl c8 (QOp.pure (Pure.ldB 0 rfl cell2 rfl rfl)) ?_
    refine Any.takeY 6 rfl (by kernel_rfl) rfl rfl rfl rfl c8 (QOp.pure (Pure.eql rfl rfl)) ?_
    refine Any.take 7 rfl (by kernel_rfl) rfl (QOp.pure (Pure.pickF rfl c8 rfl)) ?_
    refine Any.take 8 rfl (by kernel_rfl) rfl (QOp.pure (Pure.move rfl)) ?_
    refine Any.splitG 13 rfl (fun c13 => ?_) (fun c13 => ?_)
    · skip
      have c13' := dT c13
      refine Any.takeY 9 rfl (by kernel_rfl) rfl rfl rfl rfl c13 (QOp.pure (Pure.fieldAddrB fld57_2 rfl)) ?_
      refine Any.takeY 10 rfl (by kernel_rfl) rfl rfl rfl rfl c13 (QOp.pure (Pure.ldB 0 rfl cell2 rfl rfl)) ?_
      refine Any.takeY 11 rfl (by kernel_rfl) rfl rfl rfl rfl c13 (QOp.pure (Pure.eql rfl rfl)) ?_
      refine Any.takeY 12 rfl (by kernel_rfl) rfl rfl rfl rfl c13 (QOp.pure (Pure.move rfl)) ?_
      refine Any.splitG 17 rfl (fun c17 => ?_) (fun c17 => ?_)
      · skip
        have c17' := dT c17
        refine Any.takeN 13 rfl (by kernel_rfl) rfl rfl rfl rfl (by rw [c17]; decide) ?_
        refine Any.takeN 14 rfl (by kernel_rfl) rfl rfl rfl rfl (by rw [c17]; decide) ?_
        refine Any.takeN 15 rfl (by kernel_rfl) rfl rfl rfl rfl (by rw [c17]; decide) ?_
        refine Any.takeY 16 rfl (by kernel_rfl) rfl rfl rfl rfl c13 (QOp.pure (Pure.pickT rfl c17 rfl)) ?_
        refine Any.take 17 rfl (by kernel_rfl) rfl (QOp.pure (Pure.pickT rfl c13 rfl)) ?_
        refine Any.take 18 rfl (by kernel_rfl) rfl (QOp.pure (Pure.move rfl)) ?_
        refine Any.takeY 19 rfl (by kernel_rfl) rfl rfl rfl rfl rfl (QOp.pure (Pure.ldBA 1 rfl cell28 rfl rfl rfl)) ?_
        refine Any.takeY 20 rfl (by kernel_rfl) rfl rfl rfl rfl rfl (QOp.pure (Pure.fieldAddrB fld57_0 rfl)) ?_
        refine Any.takeY 21 rfl (by kernel_rfl) rfl rfl rfl rfl rfl (QOp.pure (Pure.ldBA 0 rfl cell55 rfl rfl rfl)) ?_
        refine Any.takeY 22 rfl (by kernel_rfl) rfl rfl rfl rfl rfl (QOp.call fn139 rfl (fun w hw => f_i_Panel_isPoint w _ _ _ _ _ (by assumption))) ?_
        refine Any.take 23 rfl (by kernel_rfl) rfl (QOp.pure (Pure.pickT rfl rfl rfl)) ?_
        refine Any.take 24 rfl (by kernel_rfl) rfl (QOp.pure (Pure.move rfl)) ?_
        refine Any.splitG 29 rfl (fun c29 => ?_) (fun c29 => ?_)
        · skip
          have c29' := dT c29
          have hmid := ptOk_mid hs (show PtOk a b x y by assumption)
          refine Any.takeY 25 rfl (by kernel_rfl) rfl rfl rfl rfl c29 (QOp.pure (Pure.ldBA 1 rfl cell28 rfl rfl rfl)) ?_
          refine Any.takeY 26 rfl (by kernel_rfl) rfl rfl rfl rfl c29 (QOp.pure (Pure.ldBA 0 rfl cell57 rfl rfl rfl)) ?_
          refine Any.takeY 27 rfl (by kernel_rfl) rfl rfl rfl rfl c29 (QOp.call fn92 rfl (fun w hw => f_i_Walker_next w _ _ _ _ (by omega) (by omega) (by omega) (by omega))) ?_
          refine Any.takeY 28 rfl (by kernel_rfl) rfl rfl rfl rfl c29 (QOp.call fn139 rfl (fun w hw => f_i_Panel_isPoint w _ _ _ _ _ (by assumption))) ?_
          refine Any.take 29 rfl (by kernel_rfl) rfl (QOp.pure (Pure.pickT rfl c29 rfl)) ?_
          refine Any.take 30 rfl (by kernel_rfl) rfl (QOp.pure (Pure.assign rfl)) ?_
          refine Any.done (by kernel_rfl) ?_
          refine Run.ret1 rfl rfl ?_
          first
            | rfl
            | (rw [decide_eq_false (by rw [VW_mk]; rintro ⟨q1, q2, q3, q4⟩; first | omega | contradiction)])
            | exact congrArg Value.bool (decide_eq_decide.2 (by rw [VW_mk]; exact ⟨fun q4 => ⟨by omega, by omega, by assumption, q4⟩, fun q => q.2.2.2⟩))
        · skip
          have c29' := dF c29
          refine Any.takeN 25 rfl (by kernel_rfl) rfl rfl rfl rfl (by rw [c29]; decide) ?_
          refine Any.takeN 26 rfl (by kernel_rfl) rfl rfl rfl rfl (by rw [c29]; decide) ?_
          refine Any.takeN 27 rfl (by kernel_rfl) rfl rfl rfl rfl (by rw [c29]; decide) ?_
          refine Any.takeN 28 rfl (by kernel_rfl) rfl rfl rfl rfl (by rw [c29]; decide) ?_
          refine Any.take 29 rfl (by kernel_rfl) rfl (QOp.pure (Pure.pickF rfl c29 rfl)) ?_
          refine Any.take 30 rfl (by kernel_rfl) rfl (QOp.pure (Pure.assign rfl)) ?_
          refine Any.done (by kernel_rfl) ?_
          refine Run.ret1 rfl rfl ?_
          first
            | rfl
            | (rw [decide_eq_false (by rw [VW_mk]; rintro ⟨q1, q2, q3, q4⟩; first | omega | contradiction)])
            | exact congrArg Value.bool (decide_eq_decide.2 (by rw [VW_mk]; exact ⟨fun q4 => ⟨by omega, by omega, by assumption, q4⟩, fun q => q.2.2.2⟩))
      · skip
        have c17' := dF c17
        refine Any.takeY 13 rfl (by kernel_rfl) rfl rfl rfl rfl c17 (QOp.pure (Pure.fieldAddrB fld57_2 rfl)) ?_
        refine Any.takeY 14 rfl (by kernel_rfl) rfl rfl rfl rfl c17 (QOp.pure (Pure.ldB 0 rfl cell2 rfl rfl)) ?_
        refine Any.takeY 15 rfl (by kernel_rfl) rfl rfl rfl rfl c17 (QOp.pure (Pure.eql rfl rfl)) ?_
        refine Any.takeY 16 rfl (by kernel_rfl) rfl rfl rfl rfl c13 (QOp.pure (Pure.pickF rfl c17 rfl)) ?_
        refine Any.take 17 rfl (by kernel_rfl) rfl (QOp.pure (Pure.pickT rfl c13 rfl)) ?_
        refine Any.take 18 rfl (by kernel_rfl) rfl (QOp.pure (Pure.move rfl)) ?_
        refine Any.splitG 23 rfl (fun c23 => ?_) (fun c23 => ?_)
        · skip
          have c23' := dT c23
          refine Any.takeY 19 rfl (by kernel_rfl) rfl rfl rfl rfl c23 (QOp.pure (Pure.ldBA 1 rfl cell28 rfl rfl rfl)) ?_
          refine Any.takeY 20 rfl (by kernel_rfl) rfl rfl rfl rfl c23 (QOp.pure (Pure.fieldAddrB fld57_0 rfl)) ?_
          refine Any.takeY 21 rfl (by kernel_rfl) rfl rfl rfl rfl c23 (QOp.pure (Pure.ldBA 0 rfl cell55 rfl rfl rfl)) ?_
          refine Any.takeY 22 rfl (by kernel_rfl) rfl rfl rfl rfl c23 (QOp.call fn139 rfl (fun w hw => f_i_Panel_isPoint w _ _ _ _ _ (by assumption))) ?_
          refine Any.take 23 rfl (by kernel_rfl) rfl (QOp.pure (Pure.pickT rfl c23 rfl)) ?_
          refine Any.take 24 rfl (by kernel_rfl) rfl (QOp.pure (Pure.move rfl)) ?_
          refine Any.splitG 29 rfl (fun c29 => ?_) (fun c29 => ?_)
          · skip
            have c29' := dT c29
            have hmid := ptOk_mid hs (show PtOk a b x y by assumption)
            refine Any.takeY 25 rfl (by kernel_rfl) rfl rfl rfl rfl c29 (QOp.pure (Pure.ldBA 1 rfl cell28 rfl rfl rfl)) ?_
            refine Any.takeY 26 rfl (by kernel_rfl) rfl rfl rfl rfl c29 (QOp.pure (Pure.ldBA 0 rfl cell57 rfl rfl rfl)) ?_
            refine Any.takeY 27 rfl (by kernel_rfl) rfl rfl rfl rfl c29 (QOp.call fn92 rfl (fun w hw => f_i_Walker_next w _ _ _ _ (by omega) (by omega) (by omega) (by omega))) ?_
            refine Any.takeY 28 rfl (by kernel_rfl) rfl rfl rfl rfl c29 (QOp.call fn139 rfl (fun w hw => f_i_Panel_isPoint w _ _ _ _ _ (by assumption))) ?_
            refine Any.take 29 rfl (by kernel_rfl) rfl (QOp.pure (Pure.pickT rfl c29 rfl)) ?_
            refine Any.take 30 rfl (by kernel_rfl) rfl (QOp.pure (Pure.assign rfl)) ?_
            refine Any.done (by kernel_rfl) ?_
            refine Run.ret1 rfl rfl ?_
            first
              | rfl
              | (rw [decide_eq_false (by rw [VW_mk]; rintro ⟨q1, q2, q3, q4⟩; first | omega | contradiction)])
              | exact congrArg Value.bool (decide_eq_decide.2 (by rw [VW_mk]; exact ⟨fun q4 => ⟨by omega, by omega, by assumption, q4⟩, fun q => q.2.2.2⟩))
          · skip
            have c29' := dF c29
            refine Any.takeN 25 rfl (by kernel_rfl) rfl rfl rfl rfl (by rw [c29]; decide) ?_
            refine Any.takeN 26 rfl (by kernel_rfl) rfl rfl rfl rfl (by rw [c29]; decide) ?_
            refine Any.takeN 27 rfl (by kernel_rfl) rfl rfl rfl rfl (by rw [c29]; decide) ?_
            refine Any.takeN 28 rfl (by kernel_rfl) rfl rfl rfl rfl (by rw [c29]; decide) ?_
            refine Any.take 29 rfl (by kernel_rfl) rfl (QOp.pure (Pure.pickF rfl c29 rfl)) ?_
            refine Any.take 30 rfl (by kernel_rfl) rfl (QOp.pure (Pure.assign rfl)) ?_
            refine Any.done (by kernel_rfl) ?_
            refine Run.ret1 rfl rfl ?_
            first
              | rfl
              | (rw [decide_eq_false (by rw [VW_mk]; rintro ⟨q1, q2, q3, q4⟩; first | omega | contradiction)])
              | exact congrArg Value.bool (decide_eq_decide.2 (by rw [VW_mk]; exact ⟨fun q4 => ⟨by omega, by omega, by assumption, q4⟩, fun q => q.2.2.2⟩))
        · skip
          have c23' := dF c23
          refine Any.takeN 19 rfl (by kernel_rfl) rfl rfl rfl rfl (by rw [c23]; decide) ?_
          refine Any.takeN 20 rfl (by kernel_rfl) rfl rfl rfl rfl (by rw [c23]; decide) ?_
          refine Any.takeN 21 rfl (by kernel_rfl) rfl rfl rfl rfl (by rw [c23]; decide) ?_
          refine Any.takeN 22 rfl (by kernel_rfl) rfl rfl rfl rfl (by rw [c23]; decide) ?_
          refine Any.take 23 rfl (by kernel_rfl) rfl (QOp.pure (Pure.pickF rfl c23 rfl)) ?_
          refine Any.take 24 rfl (by kernel_rfl) rfl (QOp.pure (Pure.move rfl)) ?_
          refine Any.takeN 25 rfl (by kernel_rfl) rfl rfl rfl rfl (by decide) ?_
          refine Any.takeN 26 rfl (by kernel_rfl) rfl rfl rfl rfl (by decide) ?_
          refine Any.takeN 27 rfl (by kernel_rfl) rfl rfl rfl rfl (by decide) ?_
          refine Any.takeN 28 rfl (by kernel_rfl) rfl rfl rfl rfl (by decide) ?_
          refine Any.take 29 rfl (by kernel_rfl) rfl (QOp.pure (Pure.pickF rfl rfl rfl)) ?_
          refine Any.take 30 rfl (by kernel_rfl) rfl (QOp.pure (Pure.assign rfl)) ?_
          refine Any.done (by kernel_rfl) ?_
          refine Run.ret1 rfl rfl ?_
          first
            | rfl
            | (rw [decide_eq_false (by rw [VW_mk]; rintro ⟨q1, q2, q3, q4⟩; first | omega | contradiction)])
            | exact congrArg Value.bool (decide_eq_decide.2 (by rw [VW_mk]; exact ⟨fun q4 => ⟨by omega, by omega, by assumption, q4⟩, fun q => q.2.2.2⟩))
    · skip
      have c13' := dF c13
      refine Any.takeN 9 rfl (by kernel_rfl) rfl rfl rfl rfl (by rw [c13]; decide) ?_
      refine Any.takeN 10 rfl (by kernel_rfl) rfl rfl rfl rfl (by rw [c13]; decide) ?_
      refine Any.takeN 11 rfl (by kernel_rfl) rfl rfl rfl rfl (by rw [c13]; decide) ?_
      refine Any.takeN 12 rfl (by kernel_rfl) rfl rfl rfl rfl (by rw [c13]; decide) ?_
      refine Any.takeU 13 rfl (by kernel_rfl) rfl rfl rfl rfl ?_
      refine Any.takeU 14 rfl (by kernel_rfl) rfl rfl rfl rfl ?_
      refine Any.takeU 15 rfl (by kernel_rfl) rfl rfl rfl rfl ?_
      refine Any.takeN 16 rfl (by kernel_rfl) rfl rfl rfl rfl (by rw [c13]; decide) ?_
      refine Any.take 17 rfl (by kernel_rfl) rfl (QOp.pure (Pure.pickF rfl c13 rfl)) ?_
      refine Any.take 18 rfl (by kernel_rfl) rfl (QOp.pure (Pure.move rfl)) ?_
      refine Any.takeN 19 rfl (by kernel_rfl) rfl rfl rfl rfl (by decide) ?_
      refine Any.takeN 20 rfl (by kernel_rfl) rfl rfl rfl rfl (by decide) ?_
      refine Any.takeN 21 rfl (by kernel_rfl) rfl rfl rfl rfl (by decide) ?_
      refine Any.takeN 22 rfl (by kernel_rfl) rfl rfl rfl rfl (by decide) ?_
      refine Any.take 23 rfl (by kernel_rfl) rfl (QOp.pure (Pure.pickF rfl rfl rfl)) ?_
      refine Any.take 24 rfl (by kernel_rfl) rfl (QOp.pure (Pure.move rfl)) ?_
      refine Any.takeN 25 rfl (by kernel_rfl) rfl rfl rfl rfl (by decide) ?_
      refine Any.takeN 26 rfl (by kernel_rfl) rfl rfl rfl rfl (by decide) ?_
      refine Any.takeN 27 rfl (by kernel_rfl) rfl rfl rfl rfl (by decide) ?_
      refine Any.takeN 28 rfl (by kernel_rfl) rfl rfl rfl rfl (by decide) ?_
      refine Any.take 29 rfl (by kernel_rfl) rfl (QOp.pure (Pure.pickF rfl rfl rfl)) ?_
      refine Any.take 30 rfl (by kernel_rfl) rfl (QOp.pure (Pure.assign rfl)) ?_
      refine Any.done (by kernel_rfl) ?_
      refine Run.ret1 rfl rfl ?_
      first
        | rfl
        | (rw [decide_eq_false (by rw [VW_mk]; rintro ⟨q1, q2, q3, q4⟩; first | omega | contradiction)])
        | exact congrArg Value.bool (decide_eq_decide.2 (by rw [VW_mk]; exact ⟨fun q4 => ⟨by omega, by omega, by assumption, q4⟩, fun q => q.2.2.2⟩))

set_option maxRecDepth 4000 in
/-- impl.ValidWalker -/
theorem f_i_ValidWalker (w : World) (a : Int) (b : Int) (v : Value) (l : List Int) (x : Int) (y : Int) (dx : Int) (dy : Int) (hv : Rd w v 1 l.length (ints l)) (hl : l.length ≤ 1073741824) (a0 : -9223372036854775808 ≤ a) (a1 : a ≤ 9223372036854775807) (b0 : -9223372036854775808 ≤ b) (b1 : b ≤ 9223372036854775807) : RetV Try.prog 90 [.agg #[.int .i64 a, .int .i64 b, v], .agg #[.int .i64 x, .int .i64 y, .int .i64 dx, .int .i64 dy]] w (.bool (decide (okP a b l = true ∧ VW a b (x, y, dx, dy)))) := by
  refine Ret.enter Try.func90 rfl Try.ntmps90 rfl ?_
  refine Run.seq ?_
  refine Run.region ?_
  refine Ops.go rfl (Loud.box rfl rfl) ?_
  rintro _ _ ⟨b2, rfl, rfl⟩
  refine Ops.go rfl (Loud.box rfl rfl) ?_
  rintro _ _ ⟨b3, rfl, rfl⟩
  refine Ops.pure rfl (Pure.assign rfl) ?_
  refine Ops.nil ?_
  refine Run.seq ?_
  refine Run.region ?_
  refine Ops.pure rfl (Pure.ldBA 1 rfl cell28 rfl rfl rfl) ?_
  refine Ops.q rfl (QOp.call fn100 rfl (fun w hw => f_i_ValidPanel w _ _ _ _ (by exact RdL.old (by assumption) w hw) (by assumption) (by assumption) (by assumption) (by assumption) (by assumption))) ?_
  refine Ops.pure rfl (Pure.move rfl) ?_
  refine Ops.guard rfl rfl rfl rfl (fun c7 => ?_) (fun c7 => ?_)
  · skip
    have c7' := c7
    refine Ops.pure rfl (Pure.ldBA 1 rfl cell28 rfl rfl rfl) ?_
    refine Ops.guardY rfl rfl rfl c7 ?_
    refine Ops.pure rfl (Pure.ldBA 0 rfl cell57 rfl rfl rfl) ?_
    refine Ops.guardY rfl rfl rfl c7 ?_
    refine Ops.q rfl (QOp.call fn135 rfl (fun w hw => f_i_validWalker w _ _ _ _ _ _ _ (by exact okP_size (by assumption)))) ?_
    refine Ops.pure rfl (Pure.pickT rfl c7 rfl) ?_
    refine Ops.pure rfl (Pure.assign rfl) ?_
    refine Ops.nil ?_
    refine Run.ret1 rfl rfl ?_
    first
      | rfl
      | (simp_all; done)
  · skip
    replace c7 := Bool.eq_false_of_ne c7
    have c7' := c7
    refine Ops.guardN rfl rfl rfl rfl (by rw [c7]; decide) ?_
    refine Ops.guardN rfl rfl rfl rfl (by rw [c7]; decide) ?_
    refine Ops.pure rfl (Pure.pickF rfl c7 rfl) ?_
    refine Ops.pure rfl (Pure.assign rfl) ?_
    refine Ops.nil ?_
    refine Run.ret1 rfl rfl ?_
    first
      | rfl
      | (simp_all; done)

set_option maxRecDepth 4000 in
/-- impl.PassesOver -/
theorem f_i_PassesOver (w : World) (a : Int) (b : Int) (v : Value) (l : List Int) (x : Int) (y : Int) (dx : Int) (dy : Int) (hv : Rd w v 1 l.length (ints l)) (hl : l.length ≤ 1073741824) (a0 : -9223372036854775808 ≤ a) (a1 : a ≤ 9223372036854775807) (b0 : -9223372036854775808 ≤ b) (b1 : b ≤ 9223372036854775807) : RetV Try.prog 37 [.agg #[.int .i64 a, .int .i64 b, v], .agg #[.int .i64 x, .int .i64 y, .int .i64 dx, .int .i64 dy]] w (.tuple #[.bool (poB a b l x y dx dy), .int .i64 (poE a b l x y dx dy)]) := by
  refine Ret.enter Try.func37 rfl Try.ntmps37 rfl ?_
  refine Run.seq ?_
  refine Run.region ?_
  refine Ops.go rfl (Loud.box rfl rfl) ?_
  rintro _ _ ⟨b2, rfl, rfl⟩
  refine Ops.go rfl (Loud.box rfl rfl) ?_
  rintro _ _ ⟨b3, rfl, rfl⟩
  refine Ops.pure rfl (Pure.assign rfl) ?_
  refine Ops.pure rfl (Pure.assign rfl) ?_
  refine Ops.nil ?_
  refine Run.seq ?_
  refine Run.seq ?_
  refine Run.region ?_
  refine Ops.pure rfl (Pure.ldBA 1 rfl cell28 rfl rfl rfl) ?_
  refine Ops.pure rfl (Pure.ldBA 0 rfl cell57 rfl rfl rfl) ?_
  refine Ops.q rfl (QOp.call fn90 rfl (fun w hw => f_i_ValidWalker w _ _ _ _ _ _ _ _ (by exact RdL.old (by assumption) w hw) (by assumption) (by assumption) (by assumption) (by assumption) (by assumption))) ?_
  refine Ops.pure rfl (Pure.not rfl) ?_
  refine Ops.nil ?_
  refine Run.cond rfl (fun c9 => ?_) (fun c9 => ?_)
  · skip
    replace c9 := nT c9
    refine Run.seq ?_
    refine Run.region ?_
    refine Ops.pure rfl (Pure.assign rfl) ?_
    refine Ops.pure rfl (Pure.assign rfl) ?_
    refine Ops.nil ?_
    refine Run.ret2 rfl rfl rfl ?_
    rw [(po_bad c9).1, (po_bad c9).2]
  · skip
    replace c9 := nF c9
    have hwk := c9
    have hm := VW_mid (okP_size hwk.1) hwk.2
    have hk := hwk.1
    have hs := okP_size hk
    have hpt := hm.2.2.2.2.2.2.2.2.1
    refine Run.skip ?_
    refine Run.seq ?_
    refine Run.seq ?_
    refine Any.start follows ?_
    refine Any.take 0 rfl (by kernel_rfl) rfl (QOp.pure (Pure.ldBA 1 rfl cell28 rfl rfl rfl)) ?_
    refine Any.take 1 rfl (by kernel_rfl) rfl (QOp.pure (Pure.ldBA 0 rfl cell57 rfl rfl rfl)) ?_
    refine Any.take 2 rfl (by kernel_rfl) rfl (QOp.call fn92 rfl (fun w hw => f_i_Walker_next w _ _ _ _ (by omega) (by omega) (by omega) (by omega))) ?_
    refine Any.take 3 rfl (by kernel_rfl) rfl (QOp.call fn91 rfl (fun w hw => f_i_Panel_isCrossing w _ _ _ _ _ _ (by exact RdL.old (by assumption) w hw) (by assumption) (by assumption))) ?_
    refine Any.take 4 rfl (by kernel_rfl) rfl (QOp.pure (Pure.not rfl)) ?_
    refine Any.done (by kernel_rfl) ?_
    refine Run.cond rfl (fun c14 => ?_) (fun c14 => ?_)
    · skip
      replace c14 := nT c14
      refine Run.seq ?_
      refine Run.region ?_
      refine Ops.pure rfl (Pure.assign rfl) ?_
      refine Ops.pure rfl (Pure.assign rfl) ?_
      refine Ops.nil ?_
      refine Run.ret2 rfl rfl rfl ?_
      rw [(po_no hwk c14).1, (po_no hwk c14).2]
    · skip
      replace c14 := nF c14
      refine Run.skip ?_
      refine Run.seq ?_
      refine Any.start follows ?_
      refine Any.take 0 rfl (by kernel_rfl) rfl (QOp.pure (Pure.fieldAddrB fld57_1 rfl)) ?_
      refine Any.take 1 rfl (by kernel_rfl) rfl (QOp.pure (Pure.ldB 0 rfl cell2 rfl rfl)) ?_
      refine Any.take 2 rfl (by kernel_rfl) rfl (QOp.pure (Pure.fieldAddrB fld57_2 rfl)) ?_
      refine Any.take 3 rfl (by kernel_rfl) rfl (QOp.pure (Pure.ldB 0 rfl cell2 rfl rfl)) ?_
      refine Any.take 4 rfl (by kernel_rfl) rfl (QOp.pure (Pure.mul rfl rfl (by omega) (by omega))) ?_
      refine Any.take 5 rfl (by kernel_rfl) rfl (QOp.pure (Pure.ldBA 0 rfl cell57 rfl rfl rfl)) ?_
      refine Any.take 6 rfl (by kernel_rfl) rfl (QOp.call fn92 rfl (fun w hw => f_i_Walker_next w _ _ _ _ (by omega) (by omega) (by omega) (by omega))) ?_
      refine Any.take 7 rfl (by kernel_rfl) rfl (QOp.call fn93 rfl (fun w hw => f_i_overSlope w _ _ (by omega))) ?_
      refine Any.take 8 rfl (by kernel_rfl) rfl (QOp.pure (Pure.eql rfl rfl)) ?_
      refine Any.take 9 rfl (by kernel_rfl) rfl (QOp.pure (Pure.assign rfl)) ?_
      refine Any.take 10 rfl (by kernel_rfl) rfl (QOp.pure (Pure.assign rfl)) ?_
      refine Any.done (by kernel_rfl) ?_
      refine Run.ret2 rfl rfl rfl ?_
      rw [(po_ok hwk c14).1, (po_ok hwk c14).2, decide_eq_decide.2 (eq_comm)]

end Go.Proofs.Ytkplanpcmkbfiaa
