/- Contracts of functions, printed by program from annotations. -/
import Derived.Test.YtkabgeoafanmaaaTraceM
import Derived.Test.YtkabgeoafanmaaaPts
namespace Go.Proofs.Ytkabgeoafanmaaa
open Go Go.AW Go.RowKit
set_option linter.unusedVariables false
set_option linter.unusedSimpArgs false

theorem VW_mid {a b x y dx dy : Int} (hs : SizeOk a b) (h : VW a b (x, y, dx, dy)) : 0 ≤ x ∧ x ≤ 16 ∧ 0 ≤ y ∧ y ≤ 16 ∧ -1 ≤ dx ∧ dx ≤ 1 ∧ -1 ≤ dy ∧ dy ≤ 1 ∧ PtOk a b (x + dx) (y + dy) ∧ 0 ≤ x + dx ∧ -1 ≤ dx * dy ∧ dx * dy ≤ 1 := by
  obtain ⟨h1, h2, h3, h4⟩ := VW_mk.1 h
  have h5 := ptOk_mid hs h3
  have h6 := ptOk_mid hs h4
  refine ⟨by omega, by omega, by omega, by omega, by omega, by omega, by omega, by omega, h4, by omega, ?_⟩
  rcases h1 with rfl | rfl <;> rcases h2 with rfl | rfl <;> decide
/-- the code of a panel and a walker -/
def wkE (a b : Int) (l : List Int) (x y dx dy : Int) : Int := if okP a b l = true ∧ VW a b (x, y, dx, dy) then 0 else 1
theorem wkE_bad {a b x y dx dy : Int} {l : List Int} (h : ¬ (okP a b l = true ∧ VW a b (x, y, dx, dy))) : wkE a b l x y dx dy = 1 := by unfold wkE; rw [if_neg h]
theorem wkE_ok {a b x y dx dy : Int} {l : List Int} (h : okP a b l = true ∧ VW a b (x, y, dx, dy)) : wkE a b l x y dx dy = 0 := by unfold wkE; rw [if_pos h]
theorem wkE_zero {a b x y dx dy : Int} {l : List Int} (h : wkE a b l x y dx dy = 0) : okP a b l = true ∧ VW a b (x, y, dx, dy) := by
  unfold wkE at h
  split at h
  · assumption
  · cases h
theorem wkE_one {a b x y dx dy : Int} {l : List Int} (h : ¬ wkE a b l x y dx dy = 0) : ¬ (okP a b l = true ∧ VW a b (x, y, dx, dy)) := fun hh => h (wkE_ok hh)
def poE (a b : Int) (l : List Int) (x y dx dy : Int) : Int := if okP a b l = true ∧ VW a b (x, y, dx, dy) then (if CrAt a b l (x + dx) (y + dy) then 0 else 6) else 1
def poB (a b : Int) (l : List Int) (x y dx dy : Int) : Bool := if poE a b l x y dx dy = 0 then decide (slp (x + dx) = dx * dy) else false
theorem po_bad {a b x y dx dy : Int} {l : List Int} (h : ¬ (okP a b l = true ∧ VW a b (x, y, dx, dy))) : poE a b l x y dx dy = 1 ∧ poB a b l x y dx dy = false := by
  have h1 : poE a b l x y dx dy = 1 := by unfold poE; rw [if_neg h]
  refine ⟨h1, ?_⟩
  unfold poB
  rw [h1]
  rfl
theorem po_no {a b x y dx dy : Int} {l : List Int} (h : okP a b l = true ∧ VW a b (x, y, dx, dy)) (hc : ¬ CrAt a b l (x + dx) (y + dy)) : poE a b l x y dx dy = 6 ∧ poB a b l x y dx dy = false := by
  have h1 : poE a b l x y dx dy = 6 := by unfold poE; rw [if_pos h, if_neg hc]
  refine ⟨h1, ?_⟩
  unfold poB
  rw [h1]
  rfl
theorem po_ok {a b x y dx dy : Int} {l : List Int} (h : okP a b l = true ∧ VW a b (x, y, dx, dy)) (hc : CrAt a b l (x + dx) (y + dy)) : poE a b l x y dx dy = 0 ∧ poB a b l x y dx dy = decide (slp (x + dx) = dx * dy) := by
  have h1 : poE a b l x y dx dy = 0 := by unfold poE; rw [if_pos h, if_pos hc]
  refine ⟨h1, ?_⟩
  unfold poB
  rw [if_pos h1]

set_option maxRecDepth 4000 in
/-- spec.l03Next -/
theorem f_s_l03Next (w : World) (x : Int) (y : Int) (dx : Int) (dy : Int) (hx : -1000 ≤ x ∧ x ≤ 1000) (hy : -1000 ≤ y ∧ y ≤ 1000) (hdx : -1000 ≤ dx ∧ dx ≤ 1000) (hdy : -1000 ≤ dy ∧ dy ≤ 1000) : RetV Try.prog 114 [.agg #[.int .i64 x, .int .i64 y, .int .i64 dx, .int .i64 dy]] w (.agg #[.int .i64 (x + dx), .int .i64 (y + dy)]) := by
  refine Ret.enter Try.func114 rfl Try.ntmps114 rfl ?_
  refine Run.seq ?_
  refine Run.region ?_
  refine Ops.go rfl (Loud.box rfl rfl) ?_
  rintro _ _ ⟨b1, rfl, rfl⟩
  refine Ops.go rfl (Loud.alloc zero61 rfl) ?_
  rintro _ _ ⟨b2, rfl, rfl⟩
  refine Ops.nil ?_
  refine Run.seq ?_
  refine Run.region ?_
  refine Ops.pure rfl (Pure.fieldAddrB fld107_0 rfl) ?_
  refine Ops.pure rfl (Pure.fieldAddrB fld61_0 rfl) ?_
  refine Ops.pure rfl (Pure.ldB 1 rfl cell2 rfl rfl) ?_
  refine Ops.pure rfl (Pure.fieldAddrB fld107_1 rfl) ?_
  refine Ops.pure rfl (Pure.ldB 1 rfl cell2 rfl rfl) ?_
  refine Ops.pure rfl (Pure.add rfl rfl (by omega) (by omega)) ?_
  refine Ops.pure rfl (Pure.fieldAddrB fld107_0 rfl) ?_
  refine Ops.pure rfl (Pure.fieldAddrB fld61_1 rfl) ?_
  refine Ops.pure rfl (Pure.ldB 1 rfl cell2 rfl rfl) ?_
  refine Ops.pure rfl (Pure.fieldAddrB fld107_2 rfl) ?_
  refine Ops.pure rfl (Pure.ldB 1 rfl cell2 rfl rfl) ?_
  refine Ops.pure rfl (Pure.add rfl rfl (by omega) (by omega)) ?_
  refine Ops.pure rfl (Pure.build rfl (bld61_2 _ _ (by first | rfl | assumption) (by first | rfl | assumption))) ?_
  refine Ops.store (Stores.box 0 rfl rfl rfl size61 (allOne rfl) rfl rfl) ?_
  refine Ops.nil ?_
  refine Run.retC 0 rfl rfl rfl cell61 rfl ?_
  rfl

set_option maxRecDepth 4000 in
/-- (impl.Walker).next -/
theorem f_i_Walker_next (w : World) (x : Int) (y : Int) (dx : Int) (dy : Int) (hx : -1000 ≤ x ∧ x ≤ 1000) (hy : -1000 ≤ y ∧ y ≤ 1000) (hdx : -1000 ≤ dx ∧ dx ≤ 1000) (hdy : -1000 ≤ dy ∧ dy ≤ 1000) : RetV Try.prog 99 [.agg #[.int .i64 x, .int .i64 y, .int .i64 dx, .int .i64 dy]] w (.agg #[.int .i64 (x + dx), .int .i64 (y + dy)]) := by
  refine Ret.enter Try.func99 rfl Try.ntmps99 rfl ?_
  refine Run.seq ?_
  refine Run.region ?_
  refine Ops.go rfl (Loud.box rfl rfl) ?_
  rintro _ _ ⟨b1, rfl, rfl⟩
  refine Ops.go rfl (Loud.alloc zero61 rfl) ?_
  rintro _ _ ⟨b2, rfl, rfl⟩
  refine Ops.nil ?_
  refine Run.seq ?_
  refine Run.region ?_
  refine Ops.pure rfl (Pure.fieldAddrB fld107_0 rfl) ?_
  refine Ops.pure rfl (Pure.fieldAddrB fld61_0 rfl) ?_
  refine Ops.pure rfl (Pure.ldB 1 rfl cell2 rfl rfl) ?_
  refine Ops.pure rfl (Pure.fieldAddrB fld107_1 rfl) ?_
  refine Ops.pure rfl (Pure.ldB 1 rfl cell2 rfl rfl) ?_
  refine Ops.pure rfl (Pure.add rfl rfl (by omega) (by omega)) ?_
  refine Ops.pure rfl (Pure.fieldAddrB fld107_0 rfl) ?_
  refine Ops.pure rfl (Pure.fieldAddrB fld61_1 rfl) ?_
  refine Ops.pure rfl (Pure.ldB 1 rfl cell2 rfl rfl) ?_
  refine Ops.pure rfl (Pure.fieldAddrB fld107_2 rfl) ?_
  refine Ops.pure rfl (Pure.ldB 1 rfl cell2 rfl rfl) ?_
  refine Ops.pure rfl (Pure.add rfl rfl (by omega) (by omega)) ?_
  refine Ops.pure rfl (Pure.build rfl (bld61_2 _ _ (by first | rfl | assumption) (by first | rfl | assumption))) ?_
  refine Ops.store (Stores.box 0 rfl rfl rfl size61 (allOne rfl) rfl rfl) ?_
  refine Ops.nil ?_
  refine Run.retC 0 rfl rfl rfl cell61 rfl ?_
  rfl

set_option maxRecDepth 4000 in
/-- spec.l13Over -/
theorem f_s_l13Over (w : World) (a : Int) (b : Int) (x : Int) (y : Int) (dx : Int) (dy : Int) (hs : SizeOk a b) (hvw : VW a b (x, y, dx, dy)) : RetV Try.prog 117 [.agg #[.int .i64 x, .int .i64 y, .int .i64 dx, .int .i64 dy]] w (.bool (decide (slp (x + dx) = dx * dy))) := by
  have hm := VW_mid hs hvw
  refine Ret.enter Try.func117 rfl Try.ntmps117 rfl ?_
  refine Run.seq ?_
  refine Run.region ?_
  refine Ops.go rfl (Loud.box rfl rfl) ?_
  rintro _ _ ⟨b1, rfl, rfl⟩
  refine Ops.pure rfl (Pure.assign rfl) ?_
  refine Ops.nil ?_
  refine Run.seq ?_
  refine Any.start follows ?_
  refine Any.take 0 rfl (by kernel_rfl) rfl (QOp.pure (Pure.ldBA 0 rfl cell107 rfl rfl rfl)) ?_
  refine Any.take 1 rfl (by kernel_rfl) rfl (QOp.call fn114 rfl (fun w hw => f_s_l03Next w _ _ _ _ (by omega) (by omega) (by omega) (by omega))) ?_
  refine Any.take 2 rfl (by kernel_rfl) rfl (QOp.call fn125 rfl (fun w hw => f_s_l13Slope w _ _ (by omega))) ?_
  refine Any.take 3 rfl (by kernel_rfl) rfl (QOp.pure (Pure.fieldAddrB fld107_1 rfl)) ?_
  refine Any.take 4 rfl (by kernel_rfl) rfl (QOp.pure (Pure.ldB 0 rfl cell2 rfl rfl)) ?_
  refine Any.take 5 rfl (by kernel_rfl) rfl (QOp.pure (Pure.fieldAddrB fld107_2 rfl)) ?_
  refine Any.take 6 rfl (by kernel_rfl) rfl (QOp.pure (Pure.ldB 0 rfl cell2 rfl rfl)) ?_
  refine Any.take 7 rfl (by kernel_rfl) rfl (QOp.pure (Pure.mul rfl rfl (by omega) (by omega))) ?_
  refine Any.take 8 rfl (by kernel_rfl) rfl (QOp.pure (Pure.eql rfl rfl)) ?_
  refine Any.take 9 rfl (by kernel_rfl) rfl (QOp.pure (Pure.assign rfl)) ?_
  refine Any.done (by kernel_rfl) ?_
  refine Run.ret1 rfl rfl ?_
  rfl

end Go.Proofs.Ytkabgeoafanmaaa
