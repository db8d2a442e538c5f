/- Contracts of functions, printed by program from annotations. -/
import Derived.Test.YthomfbmgiokdbaaTraceM
import Derived.Test.YthomfbmgiokdbaaPts
namespace Go.Proofs.Ythomfbmgiokdbaa
open Go Go.AW Go.RowKit
set_option linter.unusedVariables false
set_option linter.unusedSimpArgs false

theorem VW_mid {a b x y dx dy : Int} (hs : SizeOk a b) (h : VW a b (x, y, dx, dy)) : 0 ≤ x ∧ x ≤ 16 ∧ 0 ≤ y ∧ y ≤ 16 ∧ -1 ≤ dx ∧ dx ≤ 1 ∧ -1 ≤ dy ∧ dy ≤ 1 ∧ PtOk a b (x + dx) (y + dy) ∧ 0 ≤ x + dx ∧ -1 ≤ dx * dy ∧ dx * dy ≤ 1 := by
  obtain ⟨h1, h2, h3, h4⟩ := VW_mk.1 h
  have h5 := ptOk_mid hs h3
  have h6 := ptOk_mid hs h4
  refine ⟨by omega, by omega, by omega, by omega, by omega, by omega, by omega, by omega, h4, by omega, ?_⟩
  rcases h1 with rfl | rfl <;> rcases h2 with rfl | rfl <;> decide
/-- the code of a panel and a walker -/
def wkE (a b : Int) (l : List Int) (x y dx dy : Int) : Int := if okP a b l = true ∧ VW a b (x, y, dx, dy) then 0 else 1
theorem wkE_bad {a b x y dx dy : Int} {l : List Int} (h : ¬ (okP a b l = true ∧ VW a b (x, y, dx, dy))) : wkE a b l x y dx dy = 1 := by unfold wkE; rw [if_neg h]
theorem wkE_ok {a b x y dx dy : Int} {l : List Int} (h : okP a b l = true ∧ VW a b (x, y, dx, dy)) : wkE a b l x y dx dy = 0 := by unfold wkE; rw [if_pos h]
theorem wkE_zero {a b x y dx dy : Int} {l : List Int} (h : wkE a b l x y dx dy = 0) : okP a b l = true ∧ VW a b (x, y, dx, dy) := by
  unfold wkE at h
  split at h
  · assumption
  · cases h
theorem wkE_one {a b x y dx dy : Int} {l : List Int} (h : ¬ wkE a b l x y dx dy = 0) : ¬ (okP a b l = true ∧ VW a b (x, y, dx, dy)) := fun hh => h (wkE_ok hh)
def poE (a b : Int) (l : List Int) (x y dx dy : Int) : Int := if okP a b l = true ∧ VW a b (x, y, dx, dy) then (if CrAt a b l (x + dx) (y + dy) then 0 else 6) else 1
def poB (a b : Int) (l : List Int) (x y dx dy : Int) : Bool := if poE a b l x y dx dy = 0 then decide (slp (x + dx) = dx * dy) else false
theorem po_bad {a b x y dx dy : Int} {l : List Int} (h : ¬ (okP a b l = true ∧ VW a b (x, y, dx, dy))) : poE a b l x y dx dy = 1 ∧ poB a b l x y dx dy = false := by
  have h1 : poE a b l x y dx dy = 1 := by unfold poE; rw [if_neg h]
  refine ⟨h1, ?_⟩
  unfold poB
  rw [h1]
  rfl
theorem po_no {a b x y dx dy : Int} {l : List Int} (h : okP a b l = true ∧ VW a b (x, y, dx, dy)) (hc : ¬ CrAt a b l (x + dx) (y + dy)) : poE a b l x y dx dy = 6 ∧ poB a b l x y dx dy = false := by
  have h1 : poE a b l x y dx dy = 6 := by unfold poE; rw [if_pos h, if_neg hc]
  refine ⟨h1, ?_⟩
  unfold poB
  rw [h1]
  rfl
theorem po_ok {a b x y dx dy : Int} {l : List Int} (h : okP a b l = true ∧ VW a b (x, y, dx, dy)) (hc : CrAt a b l (x + dx) (y + dy)) : poE a b l x y dx dy = 0 ∧ poB a b l x y dx dy = decide (slp (x + dx) = dx * dy) := by
  have h1 : poE a b l x y dx dy = 0 := by unfold poE; rw [if_pos h, if_pos hc]
  refine ⟨h1, ?_⟩
  unfold poB
  rw [if_pos h1]

set_option maxRecDepth 4000 in
/-- spec.l03Next -/
theorem f_s_l03Next (w : World) (x : Int) (y : Int) (dx : Int) (dy : Int) (hx : -1000 ≤ x ∧ x ≤ 1000) (hy : -1000 ≤ y ∧ y ≤ 1000) (hdx : -1000 ≤ dx ∧ dx ≤ 1000) (hdy : -1000 ≤ dy ∧ dy ≤ 1000) : RetV Try.prog 64 [.agg #[.int .i64 x, .int .i64 y, .int .i64 dx, .int .i64 dy]] w (.agg #[.int .i64 (x + dx), .int .i64 (y + dy)]) := by
  refine Ret.enter Try.func64 rfl Try.ntmps64 rfl ?_
  refine Run.seq ?_
  refine Run.region ?_
  refine Ops.go rfl (Loud.box rfl rfl) ?_
  rintro _ _ ⟨b1, rfl, rfl⟩
  refine Ops.go rfl (Loud.alloc zero45 rfl) ?_
  rintro _ _ ⟨b2, rfl, rfl⟩
  refine Ops.nil ?_
  refine Run.seq ?_
  refine Run.region ?_
  refine Ops.pure rfl (Pure.fieldAddrB fld54_0 rfl) ?_
  refine Ops.pure rfl (Pure.fieldAddrB fld45_0 rfl) ?_
  refine Ops.pure rfl (Pure.ldB 1 rfl cell2 rfl rfl) ?_
  refine Ops.pure rfl (Pure.fieldAddrB fld54_1 rfl) ?_
  refine Ops.pure rfl (Pure.ldB 1 rfl cell2 rfl rfl) ?_
  refine Ops.pure rfl (Pure.add rfl rfl (by omega) (by omega)) ?_
  refine Ops.pure rfl (Pure.fieldAddrB fld54_0 rfl) ?_
  refine Ops.pure rfl (Pure.fieldAddrB fld45_1 rfl) ?_
  refine Ops.pure rfl (Pure.ldB 1 rfl cell2 rfl rfl) ?_
  refine Ops.pure rfl (Pure.fieldAddrB fld54_2 rfl) ?_
  refine Ops.pure rfl (Pure.ldB 1 rfl cell2 rfl rfl) ?_
  refine Ops.pure rfl (Pure.add rfl rfl (by omega) (by omega)) ?_
  refine Ops.pure rfl (Pure.build rfl (bld45_2 _ _ (by first | rfl | assumption) (by first | rfl | assumption))) ?_
  refine Ops.store (Stores.box 0 rfl rfl rfl size45 (allOne rfl) rfl rfl) ?_
  refine Ops.nil ?_
  refine Run.retC 0 rfl rfl rfl cell45 rfl ?_
  rfl

set_option maxRecDepth 4000 in
/-- (impl.Walker).next -/
theorem f_i_Walker_next (w : World) (x : Int) (y : Int) (dx : Int) (dy : Int) (hx : -1000 ≤ x ∧ x ≤ 1000) (hy : -1000 ≤ y ∧ y ≤ 1000) (hdx : -1000 ≤ dx ∧ dx ≤ 1000) (hdy : -1000 ≤ dy ∧ dy ≤ 1000) : RetV Try.prog 67 [.agg #[.int .i64 x, .int .i64 y, .int .i64 dx, .int .i64 dy]] w (.agg #[.int .i64 (x + dx), .int .i64 (y + dy)]) := by
  refine Ret.enter Try.func67 rfl Try.ntmps67 rfl ?_
  refine Run.seq ?_
  refine Run.region ?_
  refine Ops.go rfl (Loud.box rfl rfl) ?_
  rintro _ _ ⟨b1, rfl, rfl⟩
  refine Ops.go rfl (Loud.alloc zero45 rfl) ?_
  rintro _ _ ⟨b2, rfl, rfl⟩
  refine Ops.nil ?_
  refine Run.seq ?_
  refine Run.region ?_
  refine Ops.pure rfl (Pure.fieldAddrB fld54_0 rfl) ?_
  refine Ops.pure rfl (Pure.fieldAddrB fld45_0 rfl) ?_
  refine Ops.pure rfl (Pure.ldB 1 rfl cell2 rfl rfl) ?_
  refine Ops.pure rfl (Pure.fieldAddrB fld54_1 rfl) ?_
  refine Ops.pure rfl (Pure.ldB 1 rfl cell2 rfl rfl) ?_
  refine Ops.pure rfl (Pure.add rfl rfl (by omega) (by omega)) ?_
  refine Ops.pure rfl (Pure.fieldAddrB fld54_0 rfl) ?_
  refine Ops.pure rfl (Pure.fieldAddrB fld45_1 rfl) ?_
  refine Ops.pure rfl (Pure.ldB 1 rfl cell2 rfl rfl) ?_
  refine Ops.pure rfl (Pure.fieldAddrB fld54_2 rfl) ?_
  refine Ops.pure rfl (Pure.ldB 1 rfl cell2 rfl rfl) ?_
  refine Ops.pure rfl (Pure.add rfl rfl (by omega) (by omega)) ?_
  refine Ops.pure rfl (Pure.build rfl (bld45_2 _ _ (by first | rfl | assumption) (by first | rfl | assumption))) ?_
  refine Ops.store (Stores.box 0 rfl rfl rfl size45 (allOne rfl) rfl rfl) ?_
  refine Ops.nil ?_
  refine Run.retC 0 rfl rfl rfl cell45 rfl ?_
  rfl

set_option maxRecDepth 4000 in
/-- spec.l03Sign -/
theorem f_s_l03Sign (w : World) (n : Int) : RetV Try.prog 92 [.int .i64 n] w (.bool (decide (n = 1 ∨ n = -1))) := by
  refine Ret.enter Try.func92 rfl Try.ntmps92 rfl ?_
  refine Run.seq ?_
  refine Run.region ?_
  refine Ops.pure rfl (Pure.assign rfl) ?_
  refine Ops.nil ?_
  refine Run.seq ?_
  refine Run.region ?_
  refine Ops.pure rfl (Pure.move rfl) ?_
  refine Ops.pure rfl (Pure.eql rfl rfl) ?_
  refine Ops.pure rfl (Pure.move rfl) ?_
  refine Ops.guard rfl rfl rfl rfl (fun c5 => ?_) (fun c5 => ?_)
  · skip
    have c5' := dF c5
    refine Ops.pure rfl (Pure.move rfl) ?_
    refine Ops.guardY rfl rfl rfl c5 ?_
    refine Ops.pure rfl (Pure.eql rfl rfl) ?_
    refine Ops.pure rfl (Pure.pickF rfl c5 rfl) ?_
    refine Ops.pure rfl (Pure.assign rfl) ?_
    refine Ops.nil ?_
    refine Run.ret1 rfl rfl ?_
    first
      | rfl
      | (simp_all; done)
      | (rw [decide_eq_true (by omega)])
      | (rw [decide_eq_false (by omega)])
      | exact congrArg Value.bool (decide_eq_decide.2 (by omega))
  · skip
    replace c5 := Bool.eq_true_of_ne c5
    have c5' := dT c5
    refine Ops.guardN rfl rfl rfl rfl (by rw [c5]; decide) ?_
    refine Ops.pure rfl (Pure.pickT rfl c5 rfl) ?_
    refine Ops.pure rfl (Pure.assign rfl) ?_
    refine Ops.nil ?_
    refine Run.ret1 rfl rfl ?_
    first
      | rfl
      | (simp_all; done)
      | (rw [decide_eq_true (by omega)])
      | (rw [decide_eq_false (by omega)])
      | exact congrArg Value.bool (decide_eq_decide.2 (by omega))

set_option maxRecDepth 4000 in
/-- spec.l03Ok -/
theorem f_s_l03Ok (w : World) (p : Nat) (a : Int) (b : Int) (v : Value) (x : Int) (y : Int) (dx : Int) (dy : Int) (hp : Rd w (boxS p) 3 1 [.int .i64 a, .int .i64 b, v]) (hs : SizeOk a b) : RetV Try.prog 88 [.pointer (some ⟨p, 0, none⟩), .agg #[.int .i64 x, .int .i64 y, .int .i64 dx, .int .i64 dy]] w (.bool (decide (VW a b (x, y, dx, dy)))) := by
  obtain ⟨hs1, hs2, hs3, hs4⟩ := id hs
  refine Ret.enter Try.func88 rfl Try.ntmps88 rfl ?_
  refine Run.seq ?_
  refine Run.region ?_
  refine Ops.go rfl (Loud.box rfl rfl) ?_
  rintro _ _ ⟨b3, rfl, rfl⟩
  refine Ops.pure rfl (Pure.assign rfl) ?_
  refine Ops.nil ?_
  refine Run.seq ?_
  refine Run.region ?_
  refine Ops.pure rfl (Pure.fieldAddrB fld54_1 rfl) ?_
  refine Ops.pure rfl (Pure.ldB 0 rfl cell2 rfl rfl) ?_
  refine Ops.q rfl (QOp.call fn92 rfl (fun w hw => f_s_l03Sign w _)) ?_
  refine Ops.pure rfl (Pure.move rfl) ?_
  refine Ops.guard rfl rfl rfl rfl (fun c8 => ?_) (fun c8 => ?_)
  · skip
    have c8' := dT c8
    refine Ops.pure rfl (Pure.fieldAddrB fld54_2 rfl) ?_
    refine Ops.guardY rfl rfl rfl c8 ?_
    refine Ops.pure rfl (Pure.ldB 0 rfl cell2 rfl rfl) ?_
    refine Ops.guardY rfl rfl rfl c8 ?_
    refine Ops.q rfl (QOp.call fn92 rfl (fun w hw => f_s_l03Sign w _)) ?_
    refine Ops.pure rfl (Pure.pickT rfl c8 rfl) ?_
    refine Ops.pure rfl (Pure.move rfl) ?_
    refine Ops.guard rfl rfl rfl rfl (fun c13 => ?_) (fun c13 => ?_)
    · skip
      have c13' := dT c13
      refine Ops.pure rfl (Pure.move rfl) ?_
      refine Ops.guardY rfl rfl rfl c13 ?_
      refine Ops.pure rfl (Pure.fieldAddrB fld54_0 rfl) ?_
      refine Ops.guardY rfl rfl rfl c13 ?_
      refine Ops.pure rfl (Pure.ldBA 0 rfl cell45 rfl rfl rfl) ?_
      refine Ops.guardY rfl rfl rfl c13 ?_
      refine Ops.q rfl (QOp.call fn53 rfl (fun w hw => f_s_l02Has w _ _ _ _ _ _ (by first | assumption | omega | exact RdL.old (by assumption) w hw | exact RdL.own 0 rfl w hw | exact RdL.own 1 rfl w hw | exact RdL.own 2 rfl w hw | exact RdL.own 3 rfl w hw | exact RdL.own 4 rfl w hw | exact RdL.own 5 rfl w hw | exact RdL.own 6 rfl w hw | exact RdL.own 7 rfl w hw | exact RdL.own 8 rfl w hw | exact RdL.own 9 rfl w hw | exact RdL.boxM 0 rfl rfl w hw | exact RdL.own 10 rfl w hw | exact RdL.own 11 rfl w hw | exact Sat.front 0 rfl hw | exact Sat.front 1 rfl hw | exact Sat.front 2 rfl hw | exact Sat.front 3 rfl hw | exact Sat.front 4 rfl hw | exact Sat.front 5 rfl hw | exact Sat.front 6 rfl hw | exact Sat.front 7 rfl hw | exact Sat.front 8 rfl hw | exact Sat.front 9 rfl hw | exact Sat.front 10 rfl hw | exact Sat.front 11 rfl hw | exact heldRd (RdL.own 0 rfl w hw) | exact heldRd (RdL.own 1 rfl w hw) | exact heldRd (RdL.own 2 rfl w hw) | exact heldRd (RdL.own 3 rfl w hw) | exact heldRd (RdL.own 4 rfl w hw) | exact heldRd (RdL.own 5 rfl w hw) | exact heldRd (RdL.own 6 rfl w hw) | exact heldRd (RdL.own 7 rfl w hw) | exact heldRd (RdL.own 8 rfl w hw) | exact heldRd (RdL.own 9 rfl w hw) | exact heldRd (RdL.own 10 rfl w hw) | exact heldRd (RdL.own 11 rfl w hw) | (rw [length_marks]; omega) | exact RdL.boxM 1 rfl rfl w hw | exact RdL.boxM 2 rfl rfl w hw | exact RdL.boxM 3 rfl rfl w hw | exact okP_size (by assumption)) (by first | assumption | omega | exact RdL.old (by assumption) w hw | exact RdL.own 0 rfl w hw | exact RdL.own 1 rfl w hw | exact RdL.own 2 rfl w hw | exact RdL.own 3 rfl w hw | exact RdL.own 4 rfl w hw | exact RdL.own 5 rfl w hw | exact RdL.own 6 rfl w hw | exact RdL.own 7 rfl w hw | exact RdL.own 8 rfl w hw | exact RdL.own 9 rfl w hw | exact RdL.boxM 0 rfl rfl w hw | exact RdL.own 10 rfl w hw | exact RdL.own 11 rfl w hw | exact Sat.front 0 rfl hw | exact Sat.front 1 rfl hw | exact Sat.front 2 rfl hw | exact Sat.front 3 rfl hw | exact Sat.front 4 rfl hw | exact Sat.front 5 rfl hw | exact Sat.front 6 rfl hw | exact Sat.front 7 rfl hw | exact Sat.front 8 rfl hw | exact Sat.front 9 rfl hw | exact Sat.front 10 rfl hw | exact Sat.front 11 rfl hw | exact heldRd (RdL.own 0 rfl w hw) | exact heldRd (RdL.own 1 rfl w hw) | exact heldRd (RdL.own 2 rfl w hw) | exact heldRd (RdL.own 3 rfl w hw) | exact heldRd (RdL.own 4 rfl w hw) | exact heldRd (RdL.own 5 rfl w hw) | exact heldRd (RdL.own 6 rfl w hw) | exact heldRd (RdL.own 7 rfl w hw) | exact heldRd (RdL.own 8 rfl w hw) | exact heldRd (RdL.own 9 rfl w hw) | exact heldRd (RdL.own 10 rfl w hw) | exact heldRd (RdL.own 11 rfl w hw) | (rw [length_marks]; omega) | exact RdL.boxM 1 rfl rfl w hw | exact RdL.boxM 2 rfl rfl w hw | exact RdL.boxM 3 rfl rfl w hw | exact okP_size (by assumption)))) ?_
      refine Ops.pure rfl (Pure.pickT rfl c13 rfl) ?_
      refine Ops.pure rfl (Pure.move rfl) ?_
      refine Ops.guard rfl rfl rfl rfl (fun c19 => ?_) (fun c19 => ?_)
      · skip
        have c19' := dT c19
        have hmid := ptOk_mid hs (show PtOk a b x y by assumption)
        refine Ops.pure rfl (Pure.move rfl) ?_
        refine Ops.guardY rfl rfl rfl c19 ?_
        refine Ops.pure rfl (Pure.ldBA 0 rfl cell54 rfl rfl rfl) ?_
        refine Ops.guardY rfl rfl rfl c19 ?_
        refine Ops.q rfl (QOp.call fn64 rfl (fun w hw => f_s_l03Next w _ _ _ _ (by first | assumption | omega | exact RdL.old (by assumption) w hw | exact RdL.own 0 rfl w hw | exact RdL.own 1 rfl w hw | exact RdL.own 2 rfl w hw | exact RdL.own 3 rfl w hw | exact RdL.own 4 rfl w hw | exact RdL.own 5 rfl w hw | exact RdL.own 6 rfl w hw | exact RdL.own 7 rfl w hw | exact RdL.own 8 rfl w hw | exact RdL.own 9 rfl w hw | exact RdL.boxM 0 rfl rfl w hw | exact RdL.own 10 rfl w hw | exact RdL.own 11 rfl w hw | exact Sat.front 0 rfl hw | exact Sat.front 1 rfl hw | exact Sat.front 2 rfl hw | exact Sat.front 3 rfl hw | exact Sat.front 4 rfl hw | exact Sat.front 5 rfl hw | exact Sat.front 6 rfl hw | exact Sat.front 7 rfl hw | exact Sat.front 8 rfl hw | exact Sat.front 9 rfl hw | exact Sat.front 10 rfl hw | exact Sat.front 11 rfl hw | exact heldRd (RdL.own 0 rfl w hw) | exact heldRd (RdL.own 1 rfl w hw) | exact heldRd (RdL.own 2 rfl w hw) | exact heldRd (RdL.own 3 rfl w hw) | exact heldRd (RdL.own 4 rfl w hw) | exact heldRd (RdL.own 5 rfl w hw) | exact heldRd (RdL.own 6 rfl w hw) | exact heldRd (RdL.own 7 rfl w hw) | exact heldRd (RdL.own 8 rfl w hw) | exact heldRd (RdL.own 9 rfl w hw) | exact heldRd (RdL.own 10 rfl w hw) | exact heldRd (RdL.own 11 rfl w hw) | (rw [length_marks]; omega) | exact RdL.boxM 1 rfl rfl w hw | exact RdL.boxM 2 rfl rfl w hw | exact RdL.boxM 3 rfl rfl w hw | exact okP_size (by assumption)) (by first | assumption | omega | exact RdL.old (by assumption) w hw | exact RdL.own 0 rfl w hw | exact RdL.own 1 rfl w hw | exact RdL.own 2 rfl w hw | exact RdL.own 3 rfl w hw | exact RdL.own 4 rfl w hw | exact RdL.own 5 rfl w hw | exact RdL.own 6 rfl w hw | exact RdL.own 7 rfl w hw | exact RdL.own 8 rfl w hw | exact RdL.own 9 rfl w hw | exact RdL.boxM 0 rfl rfl w hw | exact RdL.own 10 rfl w hw | exact RdL.own 11 rfl w hw | exact Sat.front 0 rfl hw | exact Sat.front 1 rfl hw | exact Sat.front 2 rfl hw | exact Sat.front 3 rfl hw | exact Sat.front 4 rfl hw | exact Sat.front 5 rfl hw | exact Sat.front 6 rfl hw | exact Sat.front 7 rfl hw | exact Sat.front 8 rfl hw | exact Sat.front 9 rfl hw | exact Sat.front 10 rfl hw | exact Sat.front 11 rfl hw | exact heldRd (RdL.own 0 rfl w hw) | exact heldRd (RdL.own 1 rfl w hw) | exact heldRd (RdL.own 2 rfl w hw) | exact heldRd (RdL.own 3 rfl w hw) | exact heldRd (RdL.own 4 rfl w hw) | exact heldRd (RdL.own 5 rfl w hw) | exact heldRd (RdL.own 6 rfl w hw) | exact heldRd (RdL.own 7 rfl w hw) | exact heldRd (RdL.own 8 rfl w hw) | exact heldRd (RdL.own 9 rfl w hw) | exact heldRd (RdL.own 10 rfl w hw) | exact heldRd (RdL.own 11 rfl w hw) | (rw [length_marks]; omega) | exact RdL.boxM 1 rfl rfl w hw | exact RdL.boxM 2 rfl rfl w hw | exact RdL.boxM 3 rfl rfl w hw | exact okP_size (by assumption)) (by first | assumption | omega | exact RdL.old (by assumption) w hw | exact RdL.own 0 rfl w hw | exact RdL.own 1 rfl w hw | exact RdL.own 2 rfl w hw | exact RdL.own 3 rfl w hw | exact RdL.own 4 rfl w hw | exact RdL.own 5 rfl w hw | exact RdL.own 6 rfl w hw | exact RdL.own 7 rfl w hw | exact RdL.own 8 rfl w hw | exact RdL.own 9 rfl w hw | exact RdL.boxM 0 rfl rfl w hw | exact RdL.own 10 rfl w hw | exact RdL.own 11 rfl w hw | exact Sat.front 0 rfl hw | exact Sat.front 1 rfl hw | exact Sat.front 2 rfl hw | exact Sat.front 3 rfl hw | exact Sat.front 4 rfl hw | exact Sat.front 5 rfl hw | exact Sat.front 6 rfl hw | exact Sat.front 7 rfl hw | exact Sat.front 8 rfl hw | exact Sat.front 9 rfl hw | exact Sat.front 10 rfl hw | exact Sat.front 11 rfl hw | exact heldRd (RdL.own 0 rfl w hw) | exact heldRd (RdL.own 1 rfl w hw) | exact heldRd (RdL.own 2 rfl w hw) | exact heldRd (RdL.own 3 rfl w hw) | exact heldRd (RdL.own 4 rfl w hw) | exact heldRd (RdL.own 5 rfl w hw) | exact heldRd (RdL.own 6 rfl w hw) | exact heldRd (RdL.own 7 rfl w hw) | exact heldRd (RdL.own 8 rfl w hw) | exact heldRd (RdL.own 9 rfl w hw) | exact heldRd (RdL.own 10 rfl w hw) | exact heldRd (RdL.own 11 rfl w hw) | (rw [length_marks]; omega) | exact RdL.boxM 1 rfl rfl w hw | exact RdL.boxM 2 rfl rfl w hw | exact RdL.boxM 3 rfl rfl w hw | exact okP_size (by assumption)) (by first | assumption | omega | exact RdL.old (by assumption) w hw | exact RdL.own 0 rfl w hw | exact RdL.own 1 rfl w hw | exact RdL.own 2 rfl w hw | exact RdL.own 3 rfl w hw | exact RdL.own 4 rfl w hw | exact RdL.own 5 rfl w hw | exact RdL.own 6 rfl w hw | exact RdL.own 7 rfl w hw | exact RdL.own 8 rfl w hw | exact RdL.own 9 rfl w hw | exact RdL.boxM 0 rfl rfl w hw | exact RdL.own 10 rfl w hw | exact RdL.own 11 rfl w hw | exact Sat.front 0 rfl hw | exact Sat.front 1 rfl hw | exact Sat.front 2 rfl hw | exact Sat.front 3 rfl hw | exact Sat.front 4 rfl hw | exact Sat.front 5 rfl hw | exact Sat.front 6 rfl hw | exact Sat.front 7 rfl hw | exact Sat.front 8 rfl hw | exact Sat.front 9 rfl hw | exact Sat.front 10 rfl hw | exact Sat.front 11 rfl hw | exact heldRd (RdL.own 0 rfl w hw) | exact heldRd (RdL.own 1 rfl w hw) | exact heldRd (RdL.own 2 rfl w hw) | exact heldRd (RdL.own 3 rfl w hw) | exact heldRd (RdL.own 4 rfl w hw) | exact heldRd (RdL.own 5 rfl w hw) | exact heldRd (RdL.own 6 rfl w hw) | exact heldRd (RdL.own 7 rfl w hw) | exact heldRd (RdL.own 8 rfl w hw) | exact heldRd (RdL.own 9 rfl w hw) | exact heldRd (RdL.own 10 rfl w hw) | exact heldRd (RdL.own 11 rfl w hw) | (rw [length_marks]; omega) | exact RdL.boxM 1 rfl rfl w hw | exact RdL.boxM 2 rfl rfl w hw | exact RdL.boxM 3 rfl rfl w hw | exact okP_size (by assumption)))) ?_
        refine Ops.guardY rfl rfl rfl c19 ?_
        refine Ops.q rfl (QOp.call fn53 rfl (fun w hw => f_s_l02Has w _ _ _ _ _ _ (by first | assumption | omega | exact RdL.old (by assumption) w hw | exact RdL.own 0 rfl w hw | exact RdL.own 1 rfl w hw | exact RdL.own 2 rfl w hw | exact RdL.own 3 rfl w hw | exact RdL.own 4 rfl w hw | exact RdL.own 5 rfl w hw | exact RdL.own 6 rfl w hw | exact RdL.own 7 rfl w hw | exact RdL.own 8 rfl w hw | exact RdL.own 9 rfl w hw | exact RdL.boxM 0 rfl rfl w hw | exact RdL.own 10 rfl w hw | exact RdL.own 11 rfl w hw | exact Sat.front 0 rfl hw | exact Sat.front 1 rfl hw | exact Sat.front 2 rfl hw | exact Sat.front 3 rfl hw | exact Sat.front 4 rfl hw | exact Sat.front 5 rfl hw | exact Sat.front 6 rfl hw | exact Sat.front 7 rfl hw | exact Sat.front 8 rfl hw | exact Sat.front 9 rfl hw | exact Sat.front 10 rfl hw | exact Sat.front 11 rfl hw | exact heldRd (RdL.own 0 rfl w hw) | exact heldRd (RdL.own 1 rfl w hw) | exact heldRd (RdL.own 2 rfl w hw) | exact heldRd (RdL.own 3 rfl w hw) | exact heldRd (RdL.own 4 rfl w hw) | exact heldRd (RdL.own 5 rfl w hw) | exact heldRd (RdL.own 6 rfl w hw) | exact heldRd (RdL.own 7 rfl w hw) | exact heldRd (RdL.own 8 rfl w hw) | exact heldRd (RdL.own 9 rfl w hw) | exact heldRd (RdL.own 10 rfl w hw) | exact heldRd (RdL.own 11 rfl w hw) | (rw [length_marks]; omega) | exact RdL.boxM 1 rfl rfl w hw | exact RdL.boxM 2 rfl rfl w hw | exact RdL.boxM 3 rfl rfl w hw | exact okP_size (by assumption)) (by first | assumption | omega | exact RdL.old (by assumption) w hw | exact RdL.own 0 rfl w hw | exact RdL.own 1 rfl w hw | exact RdL.own 2 rfl w hw | exact RdL.own 3 rfl w hw | exact RdL.own 4 rfl w hw | exact RdL.own 5 rfl w hw | exact RdL.own 6 rfl w hw | exact RdL.own 7 rfl w hw | exact RdL.own 8 rfl w hw | exact RdL.own 9 rfl w hw | exact RdL.boxM 0 rfl rfl w hw | exact RdL.own 10 rfl w hw | exact RdL.own 11 rfl w hw | exact Sat.front 0 rfl hw | exact Sat.front 1 rfl hw | exact Sat.front 2 rfl hw | exact Sat.front 3 rfl hw | exact Sat.front 4 rfl hw | exact Sat.front 5 rfl hw | exact Sat.front 6 rfl hw | exact Sat.front 7 rfl hw | exact Sat.front 8 rfl hw | exact Sat.front 9 rfl hw | exact Sat.front 10 rfl hw | exact Sat.front 11 rfl hw | exact heldRd (RdL.own 0 rfl w hw) | exact heldRd (RdL.own 1 rfl w hw) | exact heldRd (RdL.own 2 rfl w hw) | exact heldRd (RdL.own 3 rfl w hw) | exact heldRd (RdL.own 4 rfl w hw) | exact heldRd (RdL.own 5 rfl w hw) | exact heldRd (RdL.own 6 rfl w hw) | exact heldRd (RdL.own 7 rfl w hw) | exact heldRd (RdL.own 8 rfl w hw) | exact heldRd (RdL.own 9 rfl w hw) | exact heldRd (RdL.own 10 rfl w hw) | exact heldRd (RdL.own 11 rfl w hw) | (rw [length_marks]; omega) | exact RdL.boxM 1 rfl rfl w hw | exact RdL.boxM 2 rfl rfl w hw | exact RdL.boxM 3 rfl rfl w hw | exact okP_size (by assumption)))) ?_
        refine Ops.pure rfl (Pure.pickT rfl c19 rfl) ?_
        refine Ops.pure rfl (Pure.assign rfl) ?_
        refine Ops.nil ?_
        refine Run.ret1 rfl rfl ?_
        first
          | rfl
          | (rw [decide_eq_false (by rw [VW_mk]; rintro ⟨q1, q2, q3, q4⟩; first | omega | contradiction)])
          | exact congrArg Value.bool (decide_eq_decide.2 (by rw [VW_mk]; exact ⟨fun q4 => ⟨by omega, by omega, by assumption, q4⟩, fun q => q.2.2.2⟩))
      · skip
        replace c19 := Bool.eq_false_of_ne c19
        have c19' := dF c19
        refine Ops.guardN rfl rfl rfl rfl (by rw [c19]; decide) ?_
        refine Ops.guardN rfl rfl rfl rfl (by rw [c19]; decide) ?_
        refine Ops.guardN rfl rfl rfl rfl (by rw [c19]; decide) ?_
        refine Ops.pure rfl (Pure.pickF rfl c19 rfl) ?_
        refine Ops.pure rfl (Pure.assign rfl) ?_
        refine Ops.nil ?_
        refine Run.ret1 rfl rfl ?_
        first
          | rfl
          | (rw [decide_eq_false (by rw [VW_mk]; rintro ⟨q1, q2, q3, q4⟩; first | omega | contradiction)])
          | exact congrArg Value.bool (decide_eq_decide.2 (by rw [VW_mk]; exact ⟨fun q4 => ⟨by omega, by omega, by assumption, q4⟩, fun q => q.2.2.2⟩))
    · skip
      replace c13 := Bool.eq_false_of_ne c13
      have c13' := dF c13
      refine Ops.guardN rfl rfl rfl rfl (by rw [c13]; decide) ?_
      refine Ops.guardN rfl rfl rfl rfl (by rw [c13]; decide) ?_
      refine Ops.guardN rfl rfl rfl rfl (by rw [c13]; decide) ?_
      refine Ops.pure rfl (Pure.pickF rfl c13 rfl) ?_
      refine Ops.pure rfl (Pure.move rfl) ?_
      refine Ops.guardN rfl rfl rfl rfl (by decide) ?_
      refine Ops.guardN rfl rfl rfl rfl (by decide) ?_
      refine Ops.guardN rfl rfl rfl rfl (by decide) ?_
      refine Ops.guardN rfl rfl rfl rfl (by decide) ?_
      refine Ops.pure rfl (Pure.pickF rfl rfl rfl) ?_
      refine Ops.pure rfl (Pure.assign rfl) ?_
      refine Ops.nil ?_
      refine Run.ret1 rfl rfl ?_
      first
        | rfl
        | (rw [decide_eq_false (by rw [VW_mk]; rintro ⟨q1, q2, q3, q4⟩; first | omega | contradiction)])
        | exact congrArg Value.bool (decide_eq_decide.2 (by rw [VW_mk]; exact ⟨fun q4 => ⟨by omega, by omega, by assumption, q4⟩, fun q => q.2.2.2⟩))
  · skip
    replace c8 := Bool.eq_false_of_ne c8
    have c8' := dF c8
    refine Ops.guardN rfl rfl rfl rfl (by rw [c8]; decide) ?_
    refine Ops.guardN rfl rfl rfl rfl (by rw [c8]; decide) ?_
    refine Ops.pure rfl (Pure.pickF rfl c8 rfl) ?_
    refine Ops.pure rfl (Pure.move rfl) ?_
    refine Ops.guardN rfl rfl rfl rfl (by decide) ?_
    refine Ops.guardN rfl rfl rfl rfl (by decide) ?_
    refine Ops.guardN rfl rfl rfl rfl (by decide) ?_
    refine Ops.guardN rfl rfl rfl rfl (by decide) ?_
    refine Ops.pure rfl (Pure.pickF rfl rfl rfl) ?_
    refine Ops.pure rfl (Pure.move rfl) ?_
    refine Ops.guardN rfl rfl rfl rfl (by decide) ?_
    refine Ops.guardN rfl rfl rfl rfl (by decide) ?_
    refine Ops.guardN rfl rfl rfl rfl (by decide) ?_
    refine Ops.guardN rfl rfl rfl rfl (by decide) ?_
    refine Ops.pure rfl (Pure.pickF rfl rfl rfl) ?_
    refine Ops.pure rfl (Pure.assign rfl) ?_
    refine Ops.nil ?_
    refine Run.ret1 rfl rfl ?_
    first
      | rfl
      | (rw [decide_eq_false (by rw [VW_mk]; rintro ⟨q1, q2, q3, q4⟩; first | omega | contradiction)])
      | exact congrArg Value.bool (decide_eq_decide.2 (by rw [VW_mk]; exact ⟨fun q4 => ⟨by omega, by omega, by assumption, q4⟩, fun q => q.2.2.2⟩))

set_option maxRecDepth 4000 in
/-- impl.validWalker -/
theorem f_i_validWalker (w : World) (a : Int) (b : Int) (v : Value) (x : Int) (y : Int) (dx : Int) (dy : Int) (hs : SizeOk a b) : RetV Try.prog 89 [.agg #[.int .i64 a, .int .i64 b, v], .agg #[.int .i64 x, .int .i64 y, .int .i64 dx, .int .i64 dy]] w (.bool (decide (VW a b (x, y, dx, dy)))) := by
  obtain ⟨hs1, hs2, hs3, hs4⟩ := id hs
  refine Ret.enter Try.func89 rfl Try.ntmps89 rfl ?_
  refine Run.seq ?_
  refine Run.region ?_
  refine Ops.go rfl (Loud.box rfl rfl) ?_
  rintro _ _ ⟨b2, rfl, rfl⟩
  refine Ops.go rfl (Loud.box rfl rfl) ?_
  rintro _ _ ⟨b3, rfl, rfl⟩
  refine Ops.pure rfl (Pure.assign rfl) ?_
  refine Ops.nil ?_
  refine Run.seq ?_
  refine Any.start follows ?_
  refine Any.take 0 rfl (by kernel_rfl) rfl (QOp.pure (Pure.fieldAddrB fld54_1 rfl)) ?_
  refine Any.take 1 rfl (by kernel_rfl) rfl (QOp.pure (Pure.ldB 0 rfl cell2 rfl rfl)) ?_
  refine Any.take 2 rfl (by kernel_rfl) rfl (QOp.pure (Pure.eql rfl rfl)) ?_
  refine Any.take 3 rfl (by kernel_rfl) rfl (QOp.pure (Pure.move rfl)) ?_
  refine Any.splitG 8 rfl (fun c8 => ?_) (fun c8 => ?_)
  · skip
    have c8' := dT c8
    refine Any.takeN 4 rfl (by kernel_rfl) rfl rfl rfl rfl (by rw [c8]; decide) ?_
    refine Any.takeN 5 rfl (by kernel_rfl) rfl rfl rfl rfl (by rw [c8]; decide) ?_
    refine Any.takeN 6 rfl (by kernel_rfl) rfl rfl rfl rfl (by rw [c8]; decide) ?_
    refine Any.take 7 rfl (by kernel_rfl) rfl (QOp.pure (Pure.pickT rfl c8 rfl)) ?_
    refine Any.take 8 rfl (by kernel_rfl) rfl (QOp.pure (Pure.move rfl)) ?_
    refine Any.takeY 9 rfl (by kernel_rfl) rfl rfl rfl rfl rfl (QOp.pure (Pure.fieldAddrB fld54_2 rfl)) ?_
    refine Any.takeY 10 rfl (by kernel_rfl) rfl rfl rfl rfl rfl (QOp.pure (Pure.ldB 0 rfl cell2 rfl rfl)) ?_
    refine Any.takeY 11 rfl (by kernel_rfl) rfl rfl rfl rfl rfl (QOp.pure (Pure.eql rfl rfl)) ?_
    refine Any.takeY 12 rfl (by kernel_rfl) rfl rfl rfl rfl rfl (QOp.pure (Pure.move rfl)) ?_
    refine Any.splitG 17 rfl (fun c17 => ?_) (fun c17 => ?_)
    · skip
      have c17' := dT c17
      refine Any.takeN 13 rfl (by kernel_rfl) rfl rfl rfl rfl (by rw [c17]; decide) ?_
      refine Any.takeN 14 rfl (by kernel_rfl) rfl rfl rfl rfl (by rw [c17]; decide) ?_
      refine Any.takeN 15 rfl (by kernel_rfl) rfl rfl rfl rfl (by rw [c17]; decide) ?_
      refine Any.takeY 16 rfl (by kernel_rfl) rfl rfl rfl rfl rfl (QOp.pure (Pure.pickT rfl c17 rfl)) ?_
      refine Any.take 17 rfl (by kernel_rfl) rfl (QOp.pure (Pure.pickT rfl rfl rfl)) ?_
      refine Any.take 18 rfl (by kernel_rfl) rfl (QOp.pure (Pure.move rfl)) ?_
      refine Any.takeY 19 rfl (by kernel_rfl) rfl rfl rfl rfl rfl (QOp.pure (Pure.ldBA 1 rfl cell30 rfl rfl rfl)) ?_
      refine Any.takeY 20 rfl (by kernel_rfl) rfl rfl rfl rfl rfl (QOp.pure (Pure.fieldAddrB fld54_0 rfl)) ?_
      refine Any.takeY 21 rfl (by kernel_rfl) rfl rfl rfl rfl rfl (QOp.pure (Pure.ldBA 0 rfl cell45 rfl rfl rfl)) ?_
      refine Any.takeY 22 rfl (by kernel_rfl) rfl rfl rfl rfl rfl (QOp.call fn84 rfl (fun w hw => f_i_Panel_isPoint w _ _ _ _ _ (by first | assumption | omega | exact RdL.old (by assumption) w hw | exact RdL.own 0 rfl w hw | exact RdL.own 1 rfl w hw | exact RdL.own 2 rfl w hw | exact RdL.own 3 rfl w hw | exact RdL.own 4 rfl w hw | exact RdL.own 5 rfl w hw | exact RdL.own 6 rfl w hw | exact RdL.own 7 rfl w hw | exact RdL.own 8 rfl w hw | exact RdL.own 9 rfl w hw | exact RdL.boxM 0 rfl rfl w hw | exact RdL.own 10 rfl w hw | exact RdL.own 11 rfl w hw | exact Sat.front 0 rfl hw | exact Sat.front 1 rfl hw | exact Sat.front 2 rfl hw | exact Sat.front 3 rfl hw | exact Sat.front 4 rfl hw | exact Sat.front 5 rfl hw | exact Sat.front 6 rfl hw | exact Sat.front 7 rfl hw | exact Sat.front 8 rfl hw | exact Sat.front 9 rfl hw | exact Sat.front 10 rfl hw | exact Sat.front 11 rfl hw | exact heldRd (RdL.own 0 rfl w hw) | exact heldRd (RdL.own 1 rfl w hw) | exact heldRd (RdL.own 2 rfl w hw) | exact heldRd (RdL.own 3 rfl w hw) | exact heldRd (RdL.own 4 rfl w hw) | exact heldRd (RdL.own 5 rfl w hw) | exact heldRd (RdL.own 6 rfl w hw) | exact heldRd (RdL.own 7 rfl w hw) | exact heldRd (RdL.own 8 rfl w hw) | exact heldRd (RdL.own 9 rfl w hw) | exact heldRd (RdL.own 10 rfl w hw) | exact heldRd (RdL.own 11 rfl w hw) | (rw [length_marks]; omega) | exact RdL.boxM 1 rfl rfl w hw | exact RdL.boxM 2 rfl rfl w hw | exact RdL.boxM 3 rfl rfl w hw | exact okP_size (by assumption)))) ?_
      refine Any.take 23 rfl (by kernel_rfl) rfl (QOp.pure (Pure.pickT rfl rfl rfl)) ?_
      refine Any.take 24 rfl (by kernel_rfl) rfl (QOp.pure (Pure.move rfl)) ?_
      refine Any.splitG 29 rfl (fun c29 => ?_) (fun c29 => ?_)
      · skip
        have c29' := dT c29
        have hmid := ptOk_mid hs (show PtOk a b x y by assumption)
        refine Any.takeY 25 rfl (by kernel_rfl) rfl rfl rfl rfl c29 (QOp.pure (Pure.ldBA 1 rfl cell30 rfl rfl rfl)) ?_
        refine Any.takeY 26 rfl (by kernel_rfl) rfl rfl rfl rfl c29 (QOp.pure (Pure.ldBA 0 rfl cell54 rfl rfl rfl)) ?_
        refine Any.takeY 27 rfl (by kernel_rfl) rfl rfl rfl rfl c29 (QOp.call fn67 rfl (fun w hw => f_i_Walker_next w _ _ _ _ (by first | assumption | omega | exact RdL.old (by assumption) w hw | exact RdL.own 0 rfl w hw | exact RdL.own 1 rfl w hw | exact RdL.own 2 rfl w hw | exact RdL.own 3 rfl w hw | exact RdL.own 4 rfl w hw | exact RdL.own 5 rfl w hw | exact RdL.own 6 rfl w hw | exact RdL.own 7 rfl w hw | exact RdL.own 8 rfl w hw | exact RdL.own 9 rfl w hw | exact RdL.boxM 0 rfl rfl w hw | exact RdL.own 10 rfl w hw | exact RdL.own 11 rfl w hw | exact Sat.front 0 rfl hw | exact Sat.front 1 rfl hw | exact Sat.front 2 rfl hw | exact Sat.front 3 rfl hw | exact Sat.front 4 rfl hw | exact Sat.front 5 rfl hw | exact Sat.front 6 rfl hw | exact Sat.front 7 rfl hw | exact Sat.front 8 rfl hw | exact Sat.front 9 rfl hw | exact Sat.front 10 rfl hw | exact Sat.front 11 rfl hw | exact heldRd (RdL.own 0 rfl w hw) | exact heldRd (RdL.own 1 rfl w hw) | exact heldRd (RdL.own 2 rfl w hw) | exact heldRd (RdL.own 3 rfl w hw) | exact heldRd (RdL.own 4 rfl w hw) | exact heldRd (RdL.own 5 rfl w hw) | exact heldRd (RdL.own 6 rfl w hw) | exact heldRd (RdL.own 7 rfl w hw) | exact heldRd (RdL.own 8 rfl w hw) | exact heldRd (RdL.own 9 rfl w hw) | exact heldRd (RdL.own 10 rfl w hw) | exact heldRd (RdL.own 11 rfl w hw) | (rw [length_marks]; omega) | exact RdL.boxM 1 rfl rfl w hw | exact RdL.boxM 2 rfl rfl w hw | exact RdL.boxM 3 rfl rfl w hw | exact okP_size (by assumption)) (by first | assumption | omega | exact RdL.old (by assumption) w hw | exact RdL.own 0 rfl w hw | exact RdL.own 1 rfl w hw | exact RdL.own 2 rfl w hw | exact RdL.own 3 rfl w hw | exact RdL.own 4 rfl w hw | exact RdL.own 5 rfl w hw | exact RdL.own 6 rfl w hw | exact RdL.own 7 rfl w hw | exact RdL.own 8 rfl w hw | exact RdL.own 9 rfl w hw | exact RdL.boxM 0 rfl rfl w hw | exact RdL.own 10 rfl w hw | exact RdL.own 11 rfl w hw | exact Sat.front 0 rfl hw | exact Sat.front 1 rfl hw | exact Sat.front 2 rfl hw | exact Sat.front 3 rfl hw | exact Sat.front 4 rfl hw | exact Sat.front 5 rfl hw | exact Sat.front 6 rfl hw | exact Sat.front 7 rfl hw | exact Sat.front 8 rfl hw | exact Sat.front 9 rfl hw | exact Sat.front 10 rfl hw | exact Sat.front 11 rfl hw | exact heldRd (RdL.own 0 rfl w hw) | exact heldRd (RdL.own 1 rfl w hw) | exact heldRd (RdL.own 2 rfl w hw) | exact heldRd (RdL.own 3 rfl w hw) | exact heldRd (RdL.own 4 rfl w hw) | exact heldRd (RdL.own 5 rfl w hw) | exact heldRd (RdL.own 6 rfl w hw) | exact heldRd (RdL.own 7 rfl w hw) | exact heldRd (RdL.own 8 rfl w hw) | exact heldRd (RdL.own 9 rfl w hw) | exact heldRd (RdL.own 10 rfl w hw) | exact heldRd (RdL.own 11 rfl w hw) | (rw [length_marks]; omega) | exact RdL.boxM 1 rfl rfl w hw | exact RdL.boxM 2 rfl rfl w hw | exact RdL.boxM 3 rfl rfl w hw | exact okP_size (by assumption)) (by first | assumption | omega | exact RdL.old (by assumption) w hw | exact RdL.own 0 rfl w hw | exact RdL.own 1 rfl w hw | exact RdL.own 2 rfl w hw | exact RdL.own 3 rfl w hw | exact RdL.own 4 rfl w hw | exact RdL.own 5 rfl w hw | exact RdL.own 6 rfl w hw | exact RdL.own 7 rfl w hw | exact RdL.own 8 rfl w hw | exact RdL.own 9 rfl w hw | exact RdL.boxM 0 rfl rfl w hw | exact RdL.own 10 rfl w hw | exact RdL.own 11 rfl w hw | exact Sat.front 0 rfl hw | exact Sat.front 1 rfl hw | exact Sat.front 2 rfl hw | exact Sat.front 3 rfl hw | exact Sat.front 4 rfl hw | exact Sat.front 5 rfl hw | exact Sat.front 6 rfl hw | exact Sat.front 7 rfl hw | exact Sat.front 8 rfl hw | exact Sat.front 9 rfl hw | exact Sat.front 10 rfl hw | exact Sat.front 11 rfl hw | exact heldRd (RdL.own 0 rfl w hw) | exact heldRd (RdL.own 1 rfl w hw) | exact heldRd (RdL.own 2 rfl w hw) | exact heldRd (RdL.own 3 rfl w hw) | exact heldRd (RdL.own 4 rfl w hw) | exact heldRd (RdL.own 5 rfl w hw) | exact heldRd (RdL.own 6 rfl w hw) | exact heldRd (RdL.own 7 rfl w hw) | exact heldRd (RdL.own 8 rfl w hw) | exact heldRd (RdL.own 9 rfl w hw) | exact heldRd (RdL.own 10 rfl w hw) | exact heldRd (RdL.own 11 rfl w hw) | (rw [length_marks]; omega) | exact RdL.boxM 1 rfl rfl w hw | exact RdL.boxM 2 rfl rfl w hw | exact RdL.boxM 3 rfl rfl w hw | exact okP_size (by assumption)) (by first | assumption | omega | exact RdL.old (by assumption) w hw | exact RdL.own 0 rfl w hw | exact RdL.own 1 rfl w hw | exact RdL.own 2 rfl w hw | exact RdL.own 3 rfl w hw | exact RdL.own 4 rfl w hw | exact RdL.own 5 rfl w hw | exact RdL.own 6 rfl w hw | exact RdL.own 7 rfl w hw | exact RdL.own 8 rfl w hw | exact RdL.own 9 rfl w hw | exact RdL.boxM 0 rfl rfl w hw | exact RdL.own 10 rfl w hw | exact RdL.own 11 rfl w hw | exact Sat.front 0 rfl hw | exact Sat.front 1 rfl hw | exact Sat.front 2 rfl hw | exact Sat.front 3 rfl hw | exact Sat.front 4 rfl hw | exact Sat.front 5 rfl hw | exact Sat.front 6 rfl hw | exact Sat.front 7 rfl hw | exact Sat.front 8 rfl hw | exact Sat.front 9 rfl hw | exact Sat.front 10 rfl hw | exact Sat.front 11 rfl hw | exact heldRd (RdL.own 0 rfl w hw) | exact heldRd (RdL.own 1 rfl w hw) | exact heldRd (RdL.own 2 rfl w hw) | exact heldRd (RdL.own 3 rfl w hw) | exact heldRd (RdL.own 4 rfl w hw) | exact heldRd (RdL.own 5 rfl w hw) | exact heldRd (RdL.own 6 rfl w hw) | exact heldRd (RdL.own 7 rfl w hw) | exact heldRd (RdL.own 8 rfl w hw) | exact heldRd (RdL.own 9 rfl w hw) | exact heldRd (RdL.own 10 rfl w hw) | exact heldRd (RdL.own 11 rfl w hw) | (rw [length_marks]; omega) | exact RdL.boxM 1 rfl rfl w hw | exact RdL.boxM 2 rfl rfl w hw | exact RdL.boxM 3 rfl rfl w hw | exact okP_size (by assumption)))) ?_
        refine Any.takeY 28 rfl (by kernel_rfl) rfl rfl rfl rfl c29 (QOp.call fn84 rfl (fun w hw => f_i_Panel_isPoint w _ _ _ _ _ (by first | assumption | omega | exact RdL.old (by assumption) w hw | exact RdL.own 0 rfl w hw | exact RdL.own 1 rfl w hw | exact RdL.own 2 rfl w hw | exact RdL.own 3 rfl w hw | exact RdL.own 4 rfl w hw | exact RdL.own 5 rfl w hw | exact RdL.own 6 rfl w hw | exact RdL.own 7 rfl w hw | exact RdL.own 8 rfl w hw | exact RdL.own 9 rfl w hw | exact RdL.boxM 0 rfl rfl w hw | exact RdL.own 10 rfl w hw | exact RdL.own 11 rfl w hw | exact Sat.front 0 rfl hw | exact Sat.front 1 rfl hw | exact Sat.front 2 rfl hw | exact Sat.front 3 rfl hw | exact Sat.front 4 rfl hw | exact Sat.front 5 rfl hw | exact Sat.front 6 rfl hw | exact Sat.front 7 rfl hw | exact Sat.front 8 rfl hw | exact Sat.front 9 rfl hw | exact Sat.front 10 rfl hw | exact Sat.front 11 rfl hw | exact heldRd (RdL.own 0 rfl w hw) | exact heldRd (RdL.own 1 rfl w hw) | exact heldRd (RdL.own 2 rfl w hw) | exact heldRd (RdL.own 3 rfl w hw) | exact heldRd (RdL.own 4 rfl w hw) | exact heldRd (RdL.own 5 rfl w hw) | exact heldRd (RdL.own 6 rfl w hw) | exact heldRd (RdL.own 7 rfl w hw) | exact heldRd (RdL.own 8 rfl w hw) | exact heldRd (RdL.own 9 rfl w hw) | exact heldRd (RdL.own 10 rfl w hw) | exact heldRd (RdL.own 11 rfl w hw) | (rw [length_marks]; omega) | exact RdL.boxM 1 rfl rfl w hw | exact RdL.boxM 2 rfl rfl w hw | exact RdL.boxM 3 rfl rfl w hw | exact okP_size (by assumption)))) ?_
        refine Any.take 29 rfl (by kernel_rfl) rfl (QOp.pure (Pure.pickT rfl c29 rfl)) ?_
        refine Any.take 30 rfl (by kernel_rfl) rfl (QOp.pure (Pure.assign rfl)) ?_
        refine Any.done (by kernel_rfl) ?_
        refine Run.ret1 rfl rfl ?_
        first
          | rfl
          | (rw [decide_eq_false (by rw [VW_mk]; rintro ⟨q1, q2, q3, q4⟩; first | omega | contradiction)])
          | exact congrArg Value.bool (decide_eq_decide.2 (by rw [VW_mk]; exact ⟨fun q4 => ⟨by omega, by omega, by assumption, q4⟩, fun q => q.2.2.2⟩))
      · skip
        have c29' := dF c29
        refine Any.takeN 25 rfl (by kernel_rfl) rfl rfl rfl rfl (by rw [c29]; decide) ?_
        refine Any.takeN 26 rfl (by kernel_rfl) rfl rfl rfl rfl (by rw [c29]; decide) ?_
        refine Any.takeN 27 rfl (by kernel_rfl) rfl rfl rfl rfl (by rw [c29]; decide) ?_
        refine Any.takeN 28 rfl (by kernel_rfl) rfl rfl rfl rfl (by rw [c29]; decide) ?_
        refine Any.take 29 rfl (by kernel_rfl) rfl (QOp.pure (Pure.pickF rfl c29 rfl)) ?_
        refine Any.take 30 rfl (by kernel_rfl) rfl (QOp.pure (Pure.assign rfl)) ?_
        refine Any.done (by kernel_rfl) ?_
        refine Run.ret1 rfl rfl ?_
        first
          | rfl
          | (rw [decide_eq_false (by rw [VW_mk]; rintro ⟨q1, q2, q3, q4⟩; first | omega | contradiction)])
          | exact congrArg Value.bool (decide_eq_decide.2 (by rw [VW_mk]; exact ⟨fun q4 => ⟨by omega, by omega, by assumption, q4⟩, fun q => q.2.2.2⟩))
    · skip
      have c17' := dF c17
      refine Any.takeY 13 rfl (by kernel_rfl) rfl rfl rfl rfl c17 (QOp.pure (Pure.fieldAddrB fld54_2 rfl)) ?_
      refine Any.takeY 14 rfl (by kernel_rfl) rfl rfl rfl rfl c17 (QOp.pure (Pure.ldB 0 rfl cell2 rfl rfl)) ?_
      refine Any.takeY 15 rfl (by kernel_rfl) rfl rfl rfl rfl c17 (QOp.pure (Pure.eql rfl rfl)) ?_
      refine Any.takeY 16 rfl (by kernel_rfl) rfl rfl rfl rfl rfl (QOp.pure (Pure.pickF rfl c17 rfl)) ?_
      refine Any.take 17 rfl (by kernel_rfl) rfl (QOp.pure (Pure.pickT rfl rfl rfl)) ?_
      refine Any.take 18 rfl (by kernel_rfl) rfl (QOp.pure (Pure.move rfl)) ?_
      refine Any.splitG 23 rfl (fun c23 => ?_) (fun c23 => ?_)
      · skip
        have c23' := dT c23
        refine Any.takeY 19 rfl (by kernel_rfl) rfl rfl rfl rfl c23 (QOp.pure (Pure.ldBA 1 rfl cell30 rfl rfl rfl)) ?_
        refine Any.takeY 20 rfl (by kernel_rfl) rfl rfl rfl rfl c23 (QOp.pure (Pure.fieldAddrB fld54_0 rfl)) ?_
        refine Any.takeY 21 rfl (by kernel_rfl) rfl rfl rfl rfl c23 (QOp.pure (Pure.ldBA 0 rfl cell45 rfl rfl rfl)) ?_
        refine Any.takeY 22 rfl (by kernel_rfl) rfl rfl rfl rfl c23 (QOp.call fn84 rfl (fun w hw => f_i_Panel_isPoint w _ _ _ _ _ (by first | assumption | omega | exact RdL.old (by assumption) w hw | exact RdL.own 0 rfl w hw | exact RdL.own 1 rfl w hw | exact RdL.own 2 rfl w hw | exact RdL.own 3 rfl w hw | exact RdL.own 4 rfl w hw | exact RdL.own 5 rfl w hw | exact RdL.own 6 rfl w hw | exact RdL.own 7 rfl w hw | exact RdL.own 8 rfl w hw | exact RdL.own 9 rfl w hw | exact RdL.boxM 0 rfl rfl w hw | exact RdL.own 10 rfl w hw | exact RdL.own 11 rfl w hw | exact Sat.front 0 rfl hw | exact Sat.front 1 rfl hw | exact Sat.front 2 rfl hw | exact Sat.front 3 rfl hw | exact Sat.front 4 rfl hw | exact Sat.front 5 rfl hw | exact Sat.front 6 rfl hw | exact Sat.front 7 rfl hw | exact Sat.front 8 rfl hw | exact Sat.front 9 rfl hw | exact Sat.front 10 rfl hw | exact Sat.front 11 rfl hw | exact heldRd (RdL.own 0 rfl w hw) | exact heldRd (RdL.own 1 rfl w hw) | exact heldRd (RdL.own 2 rfl w hw) | exact heldRd (RdL.own 3 rfl w hw) | exact heldRd (RdL.own 4 rfl w hw) | exact heldRd (RdL.own 5 rfl w hw) | exact heldRd (RdL.own 6 rfl w hw) | exact heldRd (RdL.own 7 rfl w hw) | exact heldRd (RdL.own 8 rfl w hw) | exact heldRd (RdL.own 9 rfl w hw) | exact heldRd (RdL.own 10 rfl w hw) | exact heldRd (RdL.own 11 rfl w hw) | (rw [length_marks]; omega) | exact RdL.boxM 1 rfl rfl w hw | exact RdL.boxM 2 rfl rfl w hw | exact RdL.boxM 3 rfl rfl w hw | exact okP_size (by assumption)))) ?_
        refine Any.take 23 rfl (by kernel_rfl) rfl (QOp.pure (Pure.pickT rfl c23 rfl)) ?_
        refine Any.take 24 rfl (by kernel_rfl) rfl (QOp.pure (Pure.move rfl)) ?_
        refine Any.splitG 29 rfl (fun c29 => ?_) (fun c29 => ?_)
        · skip
          have c29' := dT c29
          have hmid := ptOk_mid hs (show PtOk a b x y by assumption)
          refine Any.takeY 25 rfl (by kernel_rfl) rfl rfl rfl rfl c29 (QOp.pure (Pure.ldBA 1 rfl cell30 rfl rfl rfl)) ?_
          refine Any.takeY 26 rfl (by kernel_rfl) rfl rfl rfl rfl c29 (QOp.pure (Pure.ldBA 0 rfl cell54 rfl rfl rfl)) ?_
          refine Any.takeY 27 rfl (by kernel_rfl) rfl rfl rfl rfl c29 (QOp.call fn67 rfl (fun w hw => f_i_Walker_next w _ _ _ _ (by first | assumption | omega | exact RdL.old (by assumption) w hw | exact RdL.own 0 rfl w hw | exact RdL.own 1 rfl w hw | exact RdL.own 2 rfl w hw | exact RdL.own 3 rfl w hw | exact RdL.own 4 rfl w hw | exact RdL.own 5 rfl w hw | exact RdL.own 6 rfl w hw | exact RdL.own 7 rfl w hw | exact RdL.own 8 rfl w hw | exact RdL.own 9 rfl w hw | exact RdL.boxM 0 rfl rfl w hw | exact RdL.own 10 rfl w hw | exact RdL.own 11 rfl w hw | exact Sat.front 0 rfl hw | exact Sat.front 1 rfl hw | exact Sat.front 2 rfl hw | exact Sat.front 3 rfl hw | exact Sat.front 4 rfl hw | exact Sat.front 5 rfl hw | exact Sat.front 6 rfl hw | exact Sat.front 7 rfl hw | exact Sat.front 8 rfl hw | exact Sat.front 9 rfl hw | exact Sat.front 10 rfl hw | exact Sat.front 11 rfl hw | exact heldRd (RdL.own 0 rfl w hw) | exact heldRd (RdL.own 1 rfl w hw) | exact heldRd (RdL.own 2 rfl w hw) | exact heldRd (RdL.own 3 rfl w hw) | exact heldRd (RdL.own 4 rfl w hw) | exact heldRd (RdL.own 5 rfl w hw) | exact heldRd (RdL.own 6 rfl w hw) | exact heldRd (RdL.own 7 rfl w hw) | exact heldRd (RdL.own 8 rfl w hw) | exact heldRd (RdL.own 9 rfl w hw) | exact heldRd (RdL.own 10 rfl w hw) | exact heldRd (RdL.own 11 rfl w hw) | (rw [length_marks]; omega) | exact RdL.boxM 1 rfl rfl w hw | exact RdL.boxM 2 rfl rfl w hw | exact RdL.boxM 3 rfl rfl w hw | exact okP_size (by assumption)) (by first | assumption | omega | exact RdL.old (by assumption) w hw | exact RdL.own 0 rfl w hw | exact RdL.own 1 rfl w hw | exact RdL.own 2 rfl w hw | exact RdL.own 3 rfl w hw | exact RdL.own 4 rfl w hw | exact RdL.own 5 rfl w hw | exact RdL.own 6 rfl w hw | exact RdL.own 7 rfl w hw | exact RdL.own 8 rfl w hw | exact RdL.own 9 rfl w hw | exact RdL.boxM 0 rfl rfl w hw | exact RdL.own 10 rfl w hw | exact RdL.own 11 rfl w hw | exact Sat.front 0 rfl hw | exact Sat.front 1 rfl hw | exact Sat.front 2 rfl hw | exact Sat.front 3 rfl hw | exact Sat.front 4 rfl hw | exact Sat.front 5 rfl hw | exact Sat.front 6 rfl hw | exact Sat.front 7 rfl hw | exact Sat.front 8 rfl hw | exact Sat.front 9 rfl hw | exact Sat.front 10 rfl hw | exact Sat.front 11 rfl hw | exact heldRd (RdL.own 0 rfl w hw) | exact heldRd (RdL.own 1 rfl w hw) | exact heldRd (RdL.own 2 rfl w hw) | exact heldRd (RdL.own 3 rfl w hw) | exact heldRd (RdL.own 4 rfl w hw) | exact heldRd (RdL.own 5 rfl w hw) | exact heldRd (RdL.own 6 rfl w hw) | exact heldRd (RdL.own 7 rfl w hw) | exact heldRd (RdL.own 8 rfl w hw) | exact heldRd (RdL.own 9 rfl w hw) | exact heldRd (RdL.own 10 rfl w hw) | exact heldRd (RdL.own 11 rfl w hw) | (rw [length_marks]; omega) | exact RdL.boxM 1 rfl rfl w hw | exact RdL.boxM 2 rfl rfl w hw | exact RdL.boxM 3 rfl rfl w hw | exact okP_size (by assumption)) (by first | assumption | omega | exact RdL.old (by assumption) w hw | exact RdL.own 0 rfl w hw | exact RdL.own 1 rfl w hw | exact RdL.own 2 rfl w hw | exact RdL.own 3 rfl w hw | exact RdL.own 4 rfl w hw | exact RdL.own 5 rfl w hw | exact RdL.own 6 rfl w hw | exact RdL.own 7 rfl w hw | exact RdL.own 8 rfl w hw | exact RdL.own 9 rfl w hw | exact RdL.boxM 0 rfl rfl w hw | exact RdL.own 10 rfl w hw | exact RdL.own 11 rfl w hw | exact Sat.front 0 rfl hw | exact Sat.front 1 rfl hw | exact Sat.front 2 rfl hw | exact Sat.front 3 rfl hw | exact Sat.front 4 rfl hw | exact Sat.front 5 rfl hw | exact Sat.front 6 rfl hw | exact Sat.front 7 rfl hw | exact Sat.front 8 rfl hw | exact Sat.front 9 rfl hw | exact Sat.front 10 rfl hw | exact Sat.front 11 rfl hw | exact heldRd (RdL.own 0 rfl w hw) | exact heldRd (RdL.own 1 rfl w hw) | exact heldRd (RdL.own 2 rfl w hw) | exact heldRd (RdL.own 3 rfl w hw) | exact heldRd (RdL.own 4 rfl w hw) | exact heldRd (RdL.own 5 rfl w hw) | exact heldRd (RdL.own 6 rfl w hw) | exact heldRd (RdL.own 7 rfl w hw) | exact heldRd (RdL.own 8 rfl w hw) | exact heldRd (RdL.own 9 rfl w hw) | exact heldRd (RdL.own 10 rfl w hw) | exact heldRd (RdL.own 11 rfl w hw) | (rw [length_marks]; omega) | exact RdL.boxM 1 rfl rfl w hw | exact RdL.boxM 2 rfl rfl w hw | exact RdL.boxM 3 rfl rfl w hw | exact okP_size (by assumption)) (by first | assumption | omega | exact RdL.old (by assumption) w hw | exact RdL.own 0 rfl w hw | exact RdL.own 1 rfl w hw | exact RdL.own 2 rfl w hw | exact RdL.own 3 rfl w hw | exact RdL.own 4 rfl w hw | exact RdL.own 5 rfl w hw | exact RdL.own 6 rfl w hw | exact RdL.own 7 rfl w hw | exact RdL.own 8 rfl w hw | exact RdL.own 9 rfl w hw | exact RdL.boxM 0 rfl rfl w hw | exact RdL.own 10 rfl w hw | exact RdL.own 11 rfl w hw | exact Sat.front 0 rfl hw | exact Sat.front 1 rfl hw | exact Sat.front 2 rfl hw | exact Sat.front 3 rfl hw | exact Sat.front 4 rfl hw | exact Sat.front 5 rfl hw | exact Sat.front 6 rfl hw | exact Sat.front 7 rfl hw | exact Sat.front 8 rfl hw | exact Sat.front 9 rfl hw | exact Sat.front 10 rfl hw | exact Sat.front 11 rfl hw | exact heldRd (RdL.own 0 rfl w hw) | exact heldRd (RdL.own 1 rfl w hw) | exact heldRd (RdL.own 2 rfl w hw) | exact heldRd (RdL.own 3 rfl w hw) | exact heldRd (RdL.own 4 rfl w hw) | exact heldRd (RdL.own 5 rfl w hw) | exact heldRd (RdL.own 6 rfl w hw) | exact heldRd (RdL.own 7 rfl w hw) | exact heldRd (RdL.own 8 rfl w hw) | exact heldRd (RdL.own 9 rfl w hw) | exact heldRd (RdL.own 10 rfl w hw) | exact heldRd (RdL.own 11 rfl w hw) | (rw [length_marks]; omega) | exact RdL.boxM 1 rfl rfl w hw | exact RdL.boxM 2 rfl rfl w hw | exact RdL.boxM 3 rfl rfl w hw | exact okP_size (by assumption)))) ?_
          refine Any.takeY 28 rfl (by kernel_rfl) rfl rfl rfl rfl c29 (QOp.call fn84 rfl (fun w hw => f_i_Panel_isPoint w _ _ _ _ _ (by first | assumption | omega | exact RdL.old (by assumption) w hw | exact RdL.own 0 rfl w hw | exact RdL.own 1 rfl w hw | exact RdL.own 2 rfl w hw | exact RdL.own 3 rfl w hw | exact RdL.own 4 rfl w hw | exact RdL.own 5 rfl w hw | exact RdL.own 6 rfl w hw | exact RdL.own 7 rfl w hw | exact RdL.own 8 rfl w hw | exact RdL.own 9 rfl w hw | exact RdL.boxM 0 rfl rfl w hw | exact RdL.own 10 rfl w hw | exact RdL.own 11 rfl w hw | exact Sat.front 0 rfl hw | exact Sat.front 1 rfl hw | exact Sat.front 2 rfl hw | exact Sat.front 3 rfl hw | exact Sat.front 4 rfl hw | exact Sat.front 5 rfl hw | exact Sat.front 6 rfl hw | exact Sat.front 7 rfl hw | exact Sat.front 8 rfl hw | exact Sat.front 9 rfl hw | exact Sat.front 10 rfl hw | exact Sat.front 11 rfl hw | exact heldRd (RdL.own 0 rfl w hw) | exact heldRd (RdL.own 1 rfl w hw) | exact heldRd (RdL.own 2 rfl w hw) | exact heldRd (RdL.own 3 rfl w hw) | exact heldRd (RdL.own 4 rfl w hw) | exact heldRd (RdL.own 5 rfl w hw) | exact heldRd (RdL.own 6 rfl w hw) | exact heldRd (RdL.own 7 rfl w hw) | exact heldRd (RdL.own 8 rfl w hw) | exact heldRd (RdL.own 9 rfl w hw) | exact heldRd (RdL.own 10 rfl w hw) | exact heldRd (RdL.own 11 rfl w hw) | (rw [length_marks]; omega) | exact RdL.boxM 1 rfl rfl w hw | exact RdL.boxM 2 rfl rfl w hw | exact RdL.boxM 3 rfl rfl w hw | exact okP_size (by assumption)))) ?_
          refine Any.take 29 rfl (by kernel_rfl) rfl (QOp.pure (Pure.pickT rfl c29 rfl)) ?_
          refine Any.take 30 rfl (by kernel_rfl) rfl (QOp.pure (Pure.assign rfl)) ?_
          refine Any.done (by kernel_rfl) ?_
          refine Run.ret1 rfl rfl ?_
          first
            | rfl
            | (rw [decide_eq_false (by rw [VW_mk]; rintro ⟨q1, q2, q3, q4⟩; first | omega | contradiction)])
            | exact congrArg Value.bool (decide_eq_decide.2 (by rw [VW_mk]; exact ⟨fun q4 => ⟨by omega, by omega, by assumption, q4⟩, fun q => q.2.2.2⟩))
        · skip
          have c29' := dF c29
          refine Any.takeN 25 rfl (by kernel_rfl) rfl rfl rfl rfl (by rw [c29]; decide) ?_
          refine Any.takeN 26 rfl (by kernel_rfl) rfl rfl rfl rfl (by rw [c29]; decide) ?_
          refine Any.takeN 27 rfl (by kernel_rfl) rfl rfl rfl rfl (by rw [c29]; decide) ?_
          refine Any.takeN 28 rfl (by kernel_rfl) rfl rfl rfl rfl (by rw [c29]; decide) ?_
          refine Any.take 29 rfl (by kernel_rfl) rfl (QOp.pure (Pure.pickF rfl c29 rfl)) ?_
          refine Any.take 30 rfl (by kernel_rfl) rfl (QOp.pure (Pure.assign rfl)) ?_
          refine Any.done (by kernel_rfl) ?_
          refine Run.ret1 rfl rfl ?_
          first
            | rfl
            | (rw [decide_eq_false (by rw [VW_mk]; rintro ⟨q1, q2, q3, q4⟩; first | omega | contradiction)])
            | exact congrArg Value.bool (decide_eq_decide.2 (by rw [VW_mk]; exact ⟨fun q4 => ⟨by omega, by omega, by assumption, q4⟩, fun q => q.2.2.2⟩))
      · skip
        have c23' := dF c23
        refine Any.takeN 19 rfl (by kernel_rfl) rfl rfl rfl rfl (by rw [c23]; decide) ?_
        refine Any.takeN 20 rfl (by kernel_rfl) rfl rfl rfl rfl (by rw [c23]; decide) ?_
        refine Any.takeN 21 rfl (by kernel_rfl) rfl rfl rfl rfl (by rw [c23]; decide) ?_
        refine Any.takeN 22 rfl (by kernel_rfl) rfl rfl rfl rfl (by rw [c23]; decide) ?_
        refine Any.take 23 rfl (by kernel_rfl) rfl (QOp.pure (Pure.pickF rfl c23 rfl)) ?_
        refine Any.take 24 rfl (by kernel_rfl) rfl (QOp.pure (Pure.move rfl)) ?_
        refine Any.takeN 25 rfl (by kernel_rfl) rfl rfl rfl rfl (by decide) ?_
        refine Any.takeN 26 rfl (by kernel_rfl) rfl rfl rfl rfl (by decide) ?_
        refine Any.takeN 27 rfl (by kernel_rfl) rfl rfl rfl rfl (by decide) ?_
        refine Any.takeN 28 rfl (by kernel_rfl) rfl rfl rfl rfl (by decide) ?_
        refine Any.take 29 rfl (by kernel_rfl) rfl (QOp.pure (Pure.pickF rfl rfl rfl)) ?_
        refine Any.take 30 rfl (by kernel_rfl) rfl (QOp.pure (Pure.assign rfl)) ?_
        refine Any.done (by kernel_rfl) ?_
        refine Run.ret1 rfl rfl ?_
        first
          | rfl
          | (rw [decide_eq_false (by rw [VW_mk]; rintro ⟨q1, q2, q3, q4⟩; first | omega | contradiction)])
          | exact congrArg Value.bool (decide_eq_decide.2 (by rw [VW_mk]; exact ⟨fun q4 => ⟨by omega, by omega, by assumption, q4⟩, fun q => q.2.2.2⟩))
  · skip
    have c8' := dF c8
    refine Any.takeY 4 rfl (by kernel_rfl) rfl rfl rfl rfl c8 (QOp.pure (Pure.fieldAddrB fld54_1 rfl)) ?_
    refine Any.takeY 5 rfl (by kernel_rfl) rfl rfl rfl rfl c8 (QOp.pure (Pure.ldB 0 rfl cell2 rfl rfl)) ?_
    refine Any.takeY 6 rfl (by kernel_rfl) rfl rfl rfl rfl c8 (QOp.pure (Pure.eql rfl rfl)) ?_
    refine Any.take 7 rfl (by kernel_rfl) rfl (QOp.pure (Pure.pickF rfl c8 rfl)) ?_
    refine Any.take 8 rfl (by kernel_rfl) rfl (QOp.pure (Pure.move rfl)) ?_
    refine Any.splitG 13 rfl (fun c13 => ?_) (fun c13 => ?_)
    · skip
      have c13' := dT c13
      refine Any.takeY 9 rfl (by kernel_rfl) rfl rfl rfl rfl c13 (QOp.pure (Pure.fieldAddrB fld54_2 rfl)) ?_
      refine Any.takeY 10 rfl (by kernel_rfl) rfl rfl rfl rfl c13 (QOp.pure (Pure.ldB 0 rfl cell2 rfl rfl)) ?_
      refine Any.takeY 11 rfl (by kernel_rfl) rfl rfl rfl rfl c13 (QOp.pure (Pure.eql rfl rfl)) ?_
      refine Any.takeY 12 rfl (by kernel_rfl) rfl rfl rfl rfl c13 (QOp.pure (Pure.move rfl)) ?_
      refine Any.splitG 17 rfl (fun c17 => ?_) (fun c17 => ?_)
      · skip
        have c17' := dT c17
        refine Any.takeN 13 rfl (by kernel_rfl) rfl rfl rfl rfl (by rw [c17]; decide) ?_
        refine Any.takeN 14 rfl (by kernel_rfl) rfl rfl rfl rfl (by rw [c17]; decide) ?_
        refine Any.takeN 15 rfl (by kernel_rfl) rfl rfl rfl rfl (by rw [c17]; decide) ?_
        refine Any.takeY 16 rfl (by kernel_rfl) rfl rfl rfl rfl c13 (QOp.pure (Pure.pickT rfl c17 rfl)) ?_
        refine Any.take 17 rfl (by kernel_rfl) rfl (QOp.pure (Pure.pickT rfl c13 rfl)) ?_
        refine Any.take 18 rfl (by kernel_rfl) rfl (QOp.pure (Pure.move rfl)) ?_
        refine Any.takeY 19 rfl (by kernel_rfl) rfl rfl rfl rfl rfl (QOp.pure (Pure.ldBA 1 rfl cell30 rfl rfl rfl)) ?_
        refine Any.takeY 20 rfl (by kernel_rfl) rfl rfl rfl rfl rfl (QOp.pure (Pure.fieldAddrB fld54_0 rfl)) ?_
        refine Any.takeY 21 rfl (by kernel_rfl) rfl rfl rfl rfl rfl (QOp.pure (Pure.ldBA 0 rfl cell45 rfl rfl rfl)) ?_
        refine Any.takeY 22 rfl (by kernel_rfl) rfl rfl rfl rfl rfl (QOp.call fn84 rfl (fun w hw => f_i_Panel_isPoint w _ _ _ _ _ (by first | assumption | omega | exact RdL.old (by assumption) w hw | exact RdL.own 0 rfl w hw | exact RdL.own 1 rfl w hw | exact RdL.own 2 rfl w hw | exact RdL.own 3 rfl w hw | exact RdL.own 4 rfl w hw | exact RdL.own 5 rfl w hw | exact RdL.own 6 rfl w hw | exact RdL.own 7 rfl w hw | exact RdL.own 8 rfl w hw | exact RdL.own 9 rfl w hw | exact RdL.boxM 0 rfl rfl w hw | exact RdL.own 10 rfl w hw | exact RdL.own 11 rfl w hw | exact Sat.front 0 rfl hw | exact Sat.front 1 rfl hw | exact Sat.front 2 rfl hw | exact Sat.front 3 rfl hw | exact Sat.front 4 rfl hw | exact Sat.front 5 rfl hw | exact Sat.front 6 rfl hw | exact Sat.front 7 rfl hw | exact Sat.front 8 rfl hw | exact Sat.front 9 rfl hw | exact Sat.front 10 rfl hw | exact Sat.front 11 rfl hw | exact heldRd (RdL.own 0 rfl w hw) | exact heldRd (RdL.own 1 rfl w hw) | exact heldRd (RdL.own 2 rfl w hw) | exact heldRd (RdL.own 3 rfl w hw) | exact heldRd (RdL.own 4 rfl w hw) | exact heldRd (RdL.own 5 rfl w hw) | exact heldRd (RdL.own 6 rfl w hw) | exact heldRd (RdL.own 7 rfl w hw) | exact heldRd (RdL.own 8 rfl w hw) | exact heldRd (RdL.own 9 rfl w hw) | exact heldRd (RdL.own 10 rfl w hw) | exact heldRd (RdL.own 11 rfl w hw) | (rw [length_marks]; omega) | exact RdL.boxM 1 rfl rfl w hw | exact RdL.boxM 2 rfl rfl w hw | exact RdL.boxM 3 rfl rfl w hw | exact okP_size (by assumption)))) ?_
        refine Any.take 23 rfl (by kernel_rfl) rfl (QOp.pure (Pure.pickT rfl rfl rfl)) ?_
        refine Any.take 24 rfl (by kernel_rfl) rfl (QOp.pure (Pure.move rfl)) ?_
        refine Any.splitG 29 rfl (fun c29 => ?_) (fun c29 => ?_)
        · skip
          have c29' := dT c29
          have hmid := ptOk_mid hs (show PtOk a b x y by assumption)
          refine Any.takeY 25 rfl (by kernel_rfl) rfl rfl rfl rfl c29 (QOp.pure (Pure.ldBA 1 rfl cell30 rfl rfl rfl)) ?_
          refine Any.takeY 26 rfl (by kernel_rfl) rfl rfl rfl rfl c29 (QOp.pure (Pure.ldBA 0 rfl cell54 rfl rfl rfl)) ?_
          refine Any.takeY 27 rfl (by kernel_rfl) rfl rfl rfl rfl c29 (QOp.call fn67 rfl (fun w hw => f_i_Walker_next w _ _ _ _ (by first | assumption | omega | exact RdL.old (by assumption) w hw | exact RdL.own 0 rfl w hw | exact RdL.own 1 rfl w hw | exact RdL.own 2 rfl w hw | exact RdL.own 3 rfl w hw | exact RdL.own 4 rfl w hw | exact RdL.own 5 rfl w hw | exact RdL.own 6 rfl w hw | exact RdL.own 7 rfl w hw | exact RdL.own 8 rfl w hw | exact RdL.own 9 rfl w hw | exact RdL.boxM 0 rfl rfl w hw | exact RdL.own 10 rfl w hw | exact RdL.own 11 rfl w hw | exact Sat.front 0 rfl hw | exact Sat.front 1 rfl hw | exact Sat.front 2 rfl hw | exact Sat.front 3 rfl hw | exact Sat.front 4 rfl hw | exact Sat.front 5 rfl hw | exact Sat.front 6 rfl hw | exact Sat.front 7 rfl hw | exact Sat.front 8 rfl hw | exact Sat.front 9 rfl hw | exact Sat.front 10 rfl hw | exact Sat.front 11 rfl hw | exact heldRd (RdL.own 0 rfl w hw) | exact heldRd (RdL.own 1 rfl w hw) | exact heldRd (RdL.own 2 rfl w hw) | exact heldRd (RdL.own 3 rfl w hw) | exact heldRd (RdL.own 4 rfl w hw) | exact heldRd (RdL.own 5 rfl w hw) | exact heldRd (RdL.own 6 rfl w hw) | exact heldRd (RdL.own 7 rfl w hw) | exact heldRd (RdL.own 8 rfl w hw) | exact heldRd (RdL.own 9 rfl w hw) | exact heldRd (RdL.own 10 rfl w hw) | exact heldRd (RdL.own 11 rfl w hw) | (rw [length_marks]; omega) | exact RdL.boxM 1 rfl rfl w hw | exact RdL.boxM 2 rfl rfl w hw | exact RdL.boxM 3 rfl rfl w hw | exact okP_size (by assumption)) (by first | assumption | omega | exact RdL.old (by assumption) w hw | exact RdL.own 0 rfl w hw | exact RdL.own 1 rfl w hw | exact RdL.own 2 rfl w hw | exact RdL.own 3 rfl w hw | exact RdL.own 4 rfl w hw | exact RdL.own 5 rfl w hw | exact RdL.own 6 rfl w hw | exact RdL.own 7 rfl w hw | exact RdL.own 8 rfl w hw | exact RdL.own 9 rfl w hw | exact RdL.boxM 0 rfl rfl w hw | exact RdL.own 10 rfl w hw | exact RdL.own 11 rfl w hw | exact Sat.front 0 rfl hw | exact Sat.front 1 rfl hw | exact Sat.front 2 rfl hw | exact Sat.front 3 rfl hw | exact Sat.front 4 rfl hw | exact Sat.front 5 rfl hw | exact Sat.front 6 rfl hw | exact Sat.front 7 rfl hw | exact Sat.front 8 rfl hw | exact Sat.front 9 rfl hw | exact Sat.front 10 rfl hw | exact Sat.front 11 rfl hw | exact heldRd (RdL.own 0 rfl w hw) | exact heldRd (RdL.own 1 rfl w hw) | exact heldRd (RdL.own 2 rfl w hw) | exact heldRd (RdL.own 3 rfl w hw) | exact heldRd (RdL.own 4 rfl w hw) | exact heldRd (RdL.own 5 rfl w hw) | exact heldRd (RdL.own 6 rfl w hw) | exact heldRd (RdL.own 7 rfl w hw) | exact heldRd (RdL.own 8 rfl w hw) | exact heldRd (RdL.own 9 rfl w hw) | exact heldRd (RdL.own 10 rfl w hw) | exact heldRd (RdL.own 11 rfl w hw) | (rw [length_marks]; omega) | exact RdL.boxM 1 rfl rfl w hw | exact RdL.boxM 2 rfl rfl w hw | exact RdL.boxM 3 rfl rfl w hw | exact okP_size (by assumption)) (by first | assumption | omega | exact RdL.old (by assumption) w hw | exact RdL.own 0 rfl w hw | exact RdL.own 1 rfl w hw | exact RdL.own 2 rfl w hw | exact RdL.own 3 rfl w hw | exact RdL.own 4 rfl w hw | exact RdL.own 5 rfl w hw | exact RdL.own 6 rfl w hw | exact RdL.own 7 rfl w hw | exact RdL.own 8 rfl w hw | exact RdL.own 9 rfl w hw | exact RdL.boxM 0 rfl rfl w hw | exact RdL.own 10 rfl w hw | exact RdL.own 11 rfl w hw | exact Sat.front 0 rfl hw | exact Sat.front 1 rfl hw | exact Sat.front 2 rfl hw | exact Sat.front 3 rfl hw | exact Sat.front 4 rfl hw | exact Sat.front 5 rfl hw | exact Sat.front 6 rfl hw | exact Sat.front 7 rfl hw | exact Sat.front 8 rfl hw | exact Sat.front 9 rfl hw | exact Sat.front 10 rfl hw | exact Sat.front 11 rfl hw | exact heldRd (RdL.own 0 rfl w hw) | exact heldRd (RdL.own 1 rfl w hw) | exact heldRd (RdL.own 2 rfl w hw) | exact heldRd (RdL.own 3 rfl w hw) | exact heldRd (RdL.own 4 rfl w hw) | exact heldRd (RdL.own 5 rfl w hw) | exact heldRd (RdL.own 6 rfl w hw) | exact heldRd (RdL.own 7 rfl w hw) | exact heldRd (RdL.own 8 rfl w hw) | exact heldRd (RdL.own 9 rfl w hw) | exact heldRd (RdL.own 10 rfl w hw) | exact heldRd (RdL.own 11 rfl w hw) | (rw [length_marks]; omega) | exact RdL.boxM 1 rfl rfl w hw | exact RdL.boxM 2 rfl rfl w hw | exact RdL.boxM 3 rfl rfl w hw | exact okP_size (by assumption)) (by first | assumption | omega | exact RdL.old (by assumption) w hw | exact RdL.own 0 rfl w hw | exact RdL.own 1 rfl w hw | exact RdL.own 2 rfl w hw | exact RdL.own 3 rfl w hw | exact RdL.own 4 rfl w hw | exact RdL.own 5 rfl w hw | exact RdL.own 6 rfl w hw | exact RdL.own 7 rfl w hw | exact RdL.own 8 rfl w hw | exact RdL.own 9 rfl w hw | exact RdL.boxM 0 rfl rfl w hw | exact RdL.own 10 rfl w hw | exact RdL.own 11 rfl w hw | exact Sat.front 0 rfl hw | exact Sat.front 1 rfl hw | exact Sat.front 2 rfl hw | exact Sat.front 3 rfl hw | exact Sat.front 4 rfl hw | exact Sat.front 5 rfl hw | exact Sat.front 6 rfl hw | exact Sat.front 7 rfl hw | exact Sat.front 8 rfl hw | exact Sat.front 9 rfl hw | exact Sat.front 10 rfl hw | exact Sat.front 11 rfl hw | exact heldRd (RdL.own 0 rfl w hw) | exact heldRd (RdL.own 1 rfl w hw) | exact heldRd (RdL.own 2 rfl w hw) | exact heldRd (RdL.own 3 rfl w hw) | exact heldRd (RdL.own 4 rfl w hw) | exact heldRd (RdL.own 5 rfl w hw) | exact heldRd (RdL.own 6 rfl w hw) | exact heldRd (RdL.own 7 rfl w hw) | exact heldRd (RdL.own 8 rfl w hw) | exact heldRd (RdL.own 9 rfl w hw) | exact heldRd (RdL.own 10 rfl w hw) | exact heldRd (RdL.own 11 rfl w hw) | (rw [length_marks]; omega) | exact RdL.boxM 1 rfl rfl w hw | exact RdL.boxM 2 rfl rfl w hw | exact RdL.boxM 3 rfl rfl w hw | exact okP_size (by assumption)))) ?_
          refine Any.takeY 28 rfl (by kernel_rfl) rfl rfl rfl rfl c29 (QOp.call fn84 rfl (fun w hw => f_i_Panel_isPoint w _ _ _ _ _ (by first | assumption | omega | exact RdL.old (by assumption) w hw | exact RdL.own 0 rfl w hw | exact RdL.own 1 rfl w hw | exact RdL.own 2 rfl w hw | exact RdL.own 3 rfl w hw | exact RdL.own 4 rfl w hw | exact RdL.own 5 rfl w hw | exact RdL.own 6 rfl w hw | exact RdL.own 7 rfl w hw | exact RdL.own 8 rfl w hw | exact RdL.own 9 rfl w hw | exact RdL.boxM 0 rfl rfl w hw | exact RdL.own 10 rfl w hw | exact RdL.own 11 rfl w hw | exact Sat.front 0 rfl hw | exact Sat.front 1 rfl hw | exact Sat.front 2 rfl hw | exact Sat.front 3 rfl hw | exact Sat.front 4 rfl hw | exact Sat.front 5 rfl hw | exact Sat.front 6 rfl hw | exact Sat.front 7 rfl hw | exact Sat.front 8 rfl hw | exact Sat.front 9 rfl hw | exact Sat.front 10 rfl hw | exact Sat.front 11 rfl hw | exact heldRd (RdL.own 0 rfl w hw) | exact heldRd (RdL.own 1 rfl w hw) | exact heldRd (RdL.own 2 rfl w hw) | exact heldRd (RdL.own 3 rfl w hw) | exact heldRd (RdL.own 4 rfl w hw) | exact heldRd (RdL.own 5 rfl w hw) | exact heldRd (RdL.own 6 rfl w hw) | exact heldRd (RdL.own 7 rfl w hw) | exact heldRd (RdL.own 8 rfl w hw) | exact heldRd (RdL.own 9 rfl w hw) | exact heldRd (RdL.own 10 rfl w hw) | exact heldRd (RdL.own 11 rfl w hw) | (rw [length_marks]; omega) | exact RdL.boxM 1 rfl rfl w hw | exact RdL.boxM 2 rfl rfl w hw | exact RdL.boxM 3 rfl rfl w hw | exact okP_size (by assumption)))) ?_
          refine Any.take 29 rfl (by kernel_rfl) rfl (QOp.pure (Pure.pickT rfl c29 rfl)) ?_
          refine Any.take 30 rfl (by kernel_rfl) rfl (QOp.pure (Pure.assign rfl)) ?_
          refine Any.done (by kernel_rfl) ?_
          refine Run.ret1 rfl rfl ?_
          first
            | rfl
            | (rw [decide_eq_false (by rw [VW_mk]; rintro ⟨q1, q2, q3, q4⟩; first | omega | contradiction)])
            | exact congrArg Value.bool (decide_eq_decide.2 (by rw [VW_mk]; exact ⟨fun q4 => ⟨by omega, by omega, by assumption, q4⟩, fun q => q.2.2.2⟩))
        · skip
          have c29' := dF c29
          refine Any.takeN 25 rfl (by kernel_rfl) rfl rfl rfl rfl (by rw [c29]; decide) ?_
          refine Any.takeN 26 rfl (by kernel_rfl) rfl rfl rfl rfl (by rw [c29]; decide) ?_
          refine Any.takeN 27 rfl (by kernel_rfl) rfl rfl rfl rfl (by rw [c29]; decide) ?_
          refine Any.takeN 28 rfl (by kernel_rfl) rfl rfl rfl rfl (by rw [c29]; decide) ?_
          refine Any.take 29 rfl (by kernel_rfl) rfl (QOp.pure (Pure.pickF rfl c29 rfl)) ?_
          refine Any.take 30 rfl (by kernel_rfl) rfl (QOp.pure (Pure.assign rfl)) ?_
          refine Any.done (by kernel_rfl) ?_
          refine Run.ret1 rfl rfl ?_
          first
            | rfl
            | (rw [decide_eq_false (by rw [VW_mk]; rintro ⟨q1, q2, q3, q4⟩; first | omega | contradiction)])
            | exact congrArg Value.bool (decide_eq_decide.2 (by rw [VW_mk]; exact ⟨fun q4 => ⟨by omega, by omega, by assumption, q4⟩, fun q => q.2.2.2⟩))
      · skip
        have c17' := dF c17
        refine Any.takeY 13 rfl (by kernel_rfl) rfl rfl rfl rfl c17 (QOp.pure (Pure.fieldAddrB fld54_2 rfl)) ?_
        refine Any.takeY 14 rfl (by kernel_rfl) rfl rfl rfl rfl c17 (QOp.pure (Pure.ldB 0 rfl cell2 rfl rfl)) ?_
        refine Any.takeY 15 rfl (by kernel_rfl) rfl rfl rfl rfl c17 (QOp.pure (Pure.eql rfl rfl)) ?_
        refine Any.takeY 16 rfl (by kernel_rfl) rfl rfl rfl rfl c13 (QOp.pure (Pure.pickF rfl c17 rfl)) ?_
        refine Any.take 17 rfl (by kernel_rfl) rfl (QOp.pure (Pure.pickT rfl c13 rfl)) ?_
        refine Any.take 18 rfl (by kernel_rfl) rfl (QOp.pure (Pure.move rfl)) ?_
        refine Any.splitG 23 rfl (fun c23 => ?_) (fun c23 => ?_)
        · skip
          have c23' := dT c23
          refine Any.takeY 19 rfl (by kernel_rfl) rfl rfl rfl rfl c23 (QOp.pure (Pure.ldBA 1 rfl cell30 rfl rfl rfl)) ?_
          refine Any.takeY 20 rfl (by kernel_rfl) rfl rfl rfl rfl c23 (QOp.pure (Pure.fieldAddrB fld54_0 rfl)) ?_
          refine Any.takeY 21 rfl (by kernel_rfl) rfl rfl rfl rfl c23 (QOp.pure (Pure.ldBA 0 rfl cell45 rfl rfl rfl)) ?_
          refine Any.takeY 22 rfl (by kernel_rfl) rfl rfl rfl rfl c23 (QOp.call fn84 rfl (fun w hw => f_i_Panel_isPoint w _ _ _ _ _ (by first | assumption | omega | exact RdL.old (by assumption) w hw | exact RdL.own 0 rfl w hw | exact RdL.own 1 rfl w hw | exact RdL.own 2 rfl w hw | exact RdL.own 3 rfl w hw | exact RdL.own 4 rfl w hw | exact RdL.own 5 rfl w hw | exact RdL.own 6 rfl w hw | exact RdL.own 7 rfl w hw | exact RdL.own 8 rfl w hw | exact RdL.own 9 rfl w hw | exact RdL.boxM 0 rfl rfl w hw | exact RdL.own 10 rfl w hw | exact RdL.own 11 rfl w hw | exact Sat.front 0 rfl hw | exact Sat.front 1 rfl hw | exact Sat.front 2 rfl hw | exact Sat.front 3 rfl hw | exact Sat.front 4 rfl hw | exact Sat.front 5 rfl hw | exact Sat.front 6 rfl hw | exact Sat.front 7 rfl hw | exact Sat.front 8 rfl hw | exact Sat.front 9 rfl hw | exact Sat.front 10 rfl hw | exact Sat.front 11 rfl hw | exact heldRd (RdL.own 0 rfl w hw) | exact heldRd (RdL.own 1 rfl w hw) | exact heldRd (RdL.own 2 rfl w hw) | exact heldRd (RdL.own 3 rfl w hw) | exact heldRd (RdL.own 4 rfl w hw) | exact heldRd (RdL.own 5 rfl w hw) | exact heldRd (RdL.own 6 rfl w hw) | exact heldRd (RdL.own 7 rfl w hw) | exact heldRd (RdL.own 8 rfl w hw) | exact heldRd (RdL.own 9 rfl w hw) | exact heldRd (RdL.own 10 rfl w hw) | exact heldRd (RdL.own 11 rfl w hw) | (rw [length_marks]; omega) | exact RdL.boxM 1 rfl rfl w hw | exact RdL.boxM 2 rfl rfl w hw | exact RdL.boxM 3 rfl rfl w hw | exact okP_size (by assumption)))) ?_
          refine Any.take 23 rfl (by kernel_rfl) rfl (QOp.pure (Pure.pickT rfl c23 rfl)) ?_
          refine Any.take 24 rfl (by kernel_rfl) rfl (QOp.pure (Pure.move rfl)) ?_
          refine Any.splitG 29 rfl (fun c29 => ?_) (fun c29 => ?_)
          · skip
            have c29' := dT c29
            have hmid := ptOk_mid hs (show PtOk a b x y by assumption)
            refine Any.takeY 25 rfl (by kernel_rfl) rfl rfl rfl rfl c29 (QOp.pure (Pure.ldBA 1 rfl cell30 rfl rfl rfl)) ?_
            refine Any.takeY 26 rfl (by kernel_rfl) rfl rfl rfl rfl c29 (QOp.pure (Pure.ldBA 0 rfl cell54 rfl rfl rfl)) ?_
            refine Any.takeY 27 rfl (by kernel_rfl) rfl rfl rfl rfl c29 (QOp.call fn67 rfl (fun w hw => f_i_Walker_next w _ _ _ _ (by first | assumption | omega | exact RdL.old (by assumption) w hw | exact RdL.own 0 rfl w hw | exact RdL.own 1 rfl w hw | exact RdL.own 2 rfl w hw | exact RdL.own 3 rfl w hw | exact RdL.own 4 rfl w hw | exact RdL.own 5 rfl w hw | exact RdL.own 6 rfl w hw | exact RdL.own 7 rfl w hw | exact RdL.own 8 rfl w hw | exact RdL.own 9 rfl w hw | exact RdL.boxM 0 rfl rfl w hw | exact RdL.own 10 rfl w hw | exact RdL.own 11 rfl w hw | exact Sat.front 0 rfl hw | exact Sat.front 1 rfl hw | exact Sat.front 2 rfl hw | exact Sat.front 3 rfl hw | exact Sat.front 4 rfl hw | exact Sat.front 5 rfl hw | exact Sat.front 6 rfl hw | exact Sat.front 7 rfl hw | exact Sat.front 8 rfl hw | exact Sat.front 9 rfl hw | exact Sat.front 10 rfl hw | exact Sat.front 11 rfl hw | exact heldRd (RdL.own 0 rfl w hw) | exact heldRd (RdL.own 1 rfl w hw) | exact heldRd (RdL.own 2 rfl w hw) | exact heldRd (RdL.own 3 rfl w hw) | exact heldRd (RdL.own 4 rfl w hw) | exact heldRd (RdL.own 5 rfl w hw) | exact heldRd (RdL.own 6 rfl w hw) | exact heldRd (RdL.own 7 rfl w hw) | exact heldRd (RdL.own 8 rfl w hw) | exact heldRd (RdL.own 9 rfl w hw) | exact heldRd (RdL.own 10 rfl w hw) | exact heldRd (RdL.own 11 rfl w hw) | (rw [length_marks]; omega) | exact RdL.boxM 1 rfl rfl w hw | exact RdL.boxM 2 rfl rfl w hw | exact RdL.boxM 3 rfl rfl w hw | exact okP_size (by assumption)) (by first | assumption | omega | exact RdL.old (by assumption) w hw | exact RdL.own 0 rfl w hw | exact RdL.own 1 rfl w hw | exact RdL.own 2 rfl w hw | exact RdL.own 3 rfl w hw | exact RdL.own 4 rfl w hw | exact RdL.own 5 rfl w hw | exact RdL.own 6 rfl w hw | exact RdL.own 7 rfl w hw | exact RdL.own 8 rfl w hw | exact RdL.own 9 rfl w hw | exact RdL.boxM 0 rfl rfl w hw | exact RdL.own 10 rfl w hw | exact RdL.own 11 rfl w hw | exact Sat.front 0 rfl hw | exact Sat.front 1 rfl hw | exact Sat.front 2 rfl hw | exact Sat.front 3 rfl hw | exact Sat.front 4 rfl hw | exact Sat.front 5 rfl hw | exact Sat.front 6 rfl hw | exact Sat.front 7 rfl hw | exact Sat.front 8 rfl hw | exact Sat.front 9 rfl hw | exact Sat.front 10 rfl hw | exact Sat.front 11 rfl hw | exact heldRd (RdL.own 0 rfl w hw) | exact heldRd (RdL.own 1 rfl w hw) | exact heldRd (RdL.own 2 rfl w hw) | exact heldRd (RdL.own 3 rfl w hw) | exact heldRd (RdL.own 4 rfl w hw) | exact heldRd (RdL.own 5 rfl w hw) | exact heldRd (RdL.own 6 rfl w hw) | exact heldRd (RdL.own 7 rfl w hw) | exact heldRd (RdL.own 8 rfl w hw) | exact heldRd (RdL.own 9 rfl w hw) | exact heldRd (RdL.own 10 rfl w hw) | exact heldRd (RdL.own 11 rfl w hw) | (rw [length_marks]; omega) | exact RdL.boxM 1 rfl rfl w hw | exact RdL.boxM 2 rfl rfl w hw | exact RdL.boxM 3 rfl rfl w hw | exact okP_size (by assumption)) (by first | assumption | omega | exact RdL.old (by assumption) w hw | exact RdL.own 0 rfl w hw | exact RdL.own 1 rfl w hw | exact RdL.own 2 rfl w hw | exact RdL.own 3 rfl w hw | exact RdL.own 4 rfl w hw | exact RdL.own 5 rfl w hw | exact RdL.own 6 rfl w hw | exact RdL.own 7 rfl w hw | exact RdL.own 8 rfl w hw | exact RdL.own 9 rfl w hw | exact RdL.boxM 0 rfl rfl w hw | exact RdL.own 10 rfl w hw | exact RdL.own 11 rfl w hw | exact Sat.front 0 rfl hw | exact Sat.front 1 rfl hw | exact Sat.front 2 rfl hw | exact Sat.front 3 rfl hw | exact Sat.front 4 rfl hw | exact Sat.front 5 rfl hw | exact Sat.front 6 rfl hw | exact Sat.front 7 rfl hw | exact Sat.front 8 rfl hw | exact Sat.front 9 rfl hw | exact Sat.front 10 rfl hw | exact Sat.front 11 rfl hw | exact heldRd (RdL.own 0 rfl w hw) | exact heldRd (RdL.own 1 rfl w hw) | exact heldRd (RdL.own 2 rfl w hw) | exact heldRd (RdL.own 3 rfl w hw) | exact heldRd (RdL.own 4 rfl w hw) | exact heldRd (RdL.own 5 rfl w hw) | exact heldRd (RdL.own 6 rfl w hw) | exact heldRd (RdL.own 7 rfl w hw) | exact heldRd (RdL.own 8 rfl w hw) | exact heldRd (RdL.own 9 rfl w hw) | exact heldRd (RdL.own 10 rfl w hw) | exact heldRd (RdL.own 11 rfl w hw) | (rw [length_marks]; omega) | exact RdL.boxM 1 rfl rfl w hw | exact RdL.boxM 2 rfl rfl w hw | exact RdL.boxM 3 rfl rfl w hw | exact okP_size (by assumption)) (by first | assumption | omega | exact RdL.old (by assumption) w hw | exact RdL.own 0 rfl w hw | exact RdL.own 1 rfl w hw | exact RdL.own 2 rfl w hw | exact RdL.own 3 rfl w hw | exact RdL.own 4 rfl w hw | exact RdL.own 5 rfl w hw | exact RdL.own 6 rfl w hw | exact RdL.own 7 rfl w hw | exact RdL.own 8 rfl w hw | exact RdL.own 9 rfl w hw | exact RdL.boxM 0 rfl rfl w hw | exact RdL.own 10 rfl w hw | exact RdL.own 11 rfl w hw | exact Sat.front 0 rfl hw | exact Sat.front 1 rfl hw | exact Sat.front 2 rfl hw | exact Sat.front 3 rfl hw | exact Sat.front 4 rfl hw | exact Sat.front 5 rfl hw | exact Sat.front 6 rfl hw | exact Sat.front 7 rfl hw | exact Sat.front 8 rfl hw | exact Sat.front 9 rfl hw | exact Sat.front 10 rfl hw | exact Sat.front 11 rfl hw | exact heldRd (RdL.own 0 rfl w hw) | exact heldRd (RdL.own 1 rfl w hw) | exact heldRd (RdL.own 2 rfl w hw) | exact heldRd (RdL.own 3 rfl w hw) | exact heldRd (RdL.own 4 rfl w hw) | exact heldRd (RdL.own 5 rfl w hw) | exact heldRd (RdL.own 6 rfl w hw) | exact heldRd (RdL.own 7 rfl w hw) | exact heldRd (RdL.own 8 rfl w hw) | exact heldRd (RdL.own 9 rfl w hw) | exact heldRd (RdL.own 10 rfl w hw) | exact heldRd (RdL.own 11 rfl w hw) | (rw [length_marks]; omega) | exact RdL.boxM 1 rfl rfl w hw | exact RdL.boxM 2 rfl rfl w hw | exact RdL.boxM 3 rfl rfl w hw | exact okP_size (by assumption)))) ?_
            refine Any.takeY 28 rfl (by kernel_rfl) rfl rfl rfl rfl c29 (QOp.call fn84 rfl (fun w hw => f_i_Panel_isPoint w _ _ _ _ _ (by first | assumption | omega | exact RdL.old (by assumption) w hw | exact RdL.own 0 rfl w hw | exact RdL.own 1 rfl w hw | exact RdL.own 2 rfl w hw | exact RdL.own 3 rfl w hw | exact RdL.own 4 rfl w hw | exact RdL.own 5 rfl w hw | exact RdL.own 6 rfl w hw | exact RdL.own 7 rfl w hw | exact RdL.own 8 rfl w hw | exact RdL.own 9 rfl w hw | exact RdL.boxM 0 rfl rfl w hw | exact RdL.own 10 rfl w hw | exact RdL.own 11 rfl w hw | exact Sat.front 0 rfl hw | exact Sat.front 1 rfl hw | exact Sat.front 2 rfl hw | exact Sat.front 3 rfl hw | exact Sat.front 4 rfl hw | exact Sat.front 5 rfl hw | exact Sat.front 6 rfl hw | exact Sat.front 7 rfl hw | exact Sat.front 8 rfl hw | exact Sat.front 9 rfl hw | exact Sat.front 10 rfl hw | exact Sat.front 11 rfl hw | exact heldRd (RdL.own 0 rfl w hw) | exact heldRd (RdL.own 1 rfl w hw) | exact heldRd (RdL.own 2 rfl w hw) | exact heldRd (RdL.own 3 rfl w hw) | exact heldRd (RdL.own 4 rfl w hw) | exact heldRd (RdL.own 5 rfl w hw) | exact heldRd (RdL.own 6 rfl w hw) | exact heldRd (RdL.own 7 rfl w hw) | exact heldRd (RdL.own 8 rfl w hw) | exact heldRd (RdL.own 9 rfl w hw) | exact heldRd (RdL.own 10 rfl w hw) | exact heldRd (RdL.own 11 rfl w hw) | (rw [length_marks]; omega) | exact RdL.boxM 1 rfl rfl w hw | exact RdL.boxM 2 rfl rfl w hw | exact RdL.boxM 3 rfl rfl w hw | exact okP_size (by assumption)))) ?_
            refine Any.take 29 rfl (by kernel_rfl) rfl (QOp.pure (Pure.pickT rfl c29 rfl)) ?_
            refine Any.take 30 rfl (by kernel_rfl) rfl (QOp.pure (Pure.assign rfl)) ?_
            refine Any.done (by kernel_rfl) ?_
            refine Run.ret1 rfl rfl ?_
            first
              | rfl
              | (rw [decide_eq_false (by rw [VW_mk]; rintro ⟨q1, q2, q3, q4⟩; first | omega | contradiction)])
              | exact congrArg Value.bool (decide_eq_decide.2 (by rw [VW_mk]; exact ⟨fun q4 => ⟨by omega, by omega, by assumption, q4⟩, fun q => q.2.2.2⟩))
          · skip
            have c29' := dF c29
            refine Any.takeN 25 rfl (by kernel_rfl) rfl rfl rfl rfl (by rw [c29]; decide) ?_
            refine Any.takeN 26 rfl (by kernel_rfl) rfl rfl rfl rfl (by rw [c29]; decide) ?_
            refine Any.takeN 27 rfl (by kernel_rfl) rfl rfl rfl rfl (by rw [c29]; decide) ?_
            refine Any.takeN 28 rfl (by kernel_rfl) rfl rfl rfl rfl (by rw [c29]; decide) ?_
            refine Any.take 29 rfl (by kernel_rfl) rfl (QOp.pure (Pure.pickF rfl c29 rfl)) ?_
            refine Any.take 30 rfl (by kernel_rfl) rfl (QOp.pure (Pure.assign rfl)) ?_
            refine Any.done (by kernel_rfl) ?_
            refine Run.ret1 rfl rfl ?_
            first
              | rfl
              | (rw [decide_eq_false (by rw [VW_mk]; rintro ⟨q1, q2, q3, q4⟩; first | omega | contradiction)])
              | exact congrArg Value.bool (decide_eq_decide.2 (by rw [VW_mk]; exact ⟨fun q4 => ⟨by omega, by omega, by assumption, q4⟩, fun q => q.2.2.2⟩))
        · skip
          have c23' := dF c23
          refine Any.takeN 19 rfl (by kernel_rfl) rfl rfl rfl rfl (by rw [c23]; decide) ?_
          refine Any.takeN 20 rfl (by kernel_rfl) rfl rfl rfl rfl (by rw [c23]; decide) ?_
          refine Any.takeN 21 rfl (by kernel_rfl) rfl rfl rfl rfl (by rw [c23]; decide) ?_
          refine Any.takeN 22 rfl (by kernel_rfl) rfl rfl rfl rfl (by rw [c23]; decide) ?_
          refine Any.take 23 rfl (by kernel_rfl) rfl (QOp.pure (Pure.pickF rfl c23 rfl)) ?_
          refine Any.take 24 rfl (by kernel_rfl) rfl (QOp.pure (Pure.move rfl)) ?_
          refine Any.takeN 25 rfl (by kernel_rfl) rfl rfl rfl rfl (by decide) ?_
          refine Any.takeN 26 rfl (by kernel_rfl) rfl rfl rfl rfl (by decide) ?_
          refine Any.takeN 27 rfl (by kernel_rfl) rfl rfl rfl rfl (by decide) ?_
          refine Any.takeN 28 rfl (by kernel_rfl) rfl rfl rfl rfl (by decide) ?_
          refine Any.take 29 rfl (by kernel_rfl) rfl (QOp.pure (Pure.pickF rfl rfl rfl)) ?_
          refine Any.take 30 rfl (by kernel_rfl) rfl (QOp.pure (Pure.assign rfl)) ?_
          refine Any.done (by kernel_rfl) ?_
          refine Run.ret1 rfl rfl ?_
          first
            | rfl
            | (rw [decide_eq_false (by rw [VW_mk]; rintro ⟨q1, q2, q3, q4⟩; first | omega | contradiction)])
            | exact congrArg Value.bool (decide_eq_decide.2 (by rw [VW_mk]; exact ⟨fun q4 => ⟨by omega, by omega, by assumption, q4⟩, fun q => q.2.2.2⟩))
    · skip
      have c13' := dF c13
      refine Any.takeN 9 rfl (by kernel_rfl) rfl rfl rfl rfl (by rw [c13]; decide) ?_
      refine Any.takeN 10 rfl (by kernel_rfl) rfl rfl rfl rfl (by rw [c13]; decide) ?_
      refine Any.takeN 11 rfl (by kernel_rfl) rfl rfl rfl rfl (by rw [c13]; decide) ?_
      refine Any.takeN 12 rfl (by kernel_rfl) rfl rfl rfl rfl (by rw [c13]; decide) ?_
      refine Any.takeU 13 rfl (by kernel_rfl) rfl rfl rfl rfl ?_
      refine Any.takeU 14 rfl (by kernel_rfl) rfl rfl rfl rfl ?_
      refine Any.takeU 15 rfl (by kernel_rfl) rfl rfl rfl rfl ?_
      refine Any.takeN 16 rfl (by kernel_rfl) rfl rfl rfl rfl (by rw [c13]; decide) ?_
      refine Any.take 17 rfl (by kernel_rfl) rfl (QOp.pure (Pure.pickF rfl c13 rfl)) ?_
      refine Any.take 18 rfl (by kernel_rfl) rfl (QOp.pure (Pure.move rfl)) ?_
      refine Any.takeN 19 rfl (by kernel_rfl) rfl rfl rfl rfl (by decide) ?_
      refine Any.takeN 20 rfl (by kernel_rfl) rfl rfl rfl rfl (by decide) ?_
      refine Any.takeN 21 rfl (by kernel_rfl) rfl rfl rfl rfl (by decide) ?_
      refine Any.takeN 22 rfl (by kernel_rfl) rfl rfl rfl rfl (by decide) ?_
      refine Any.take 23 rfl (by kernel_rfl) rfl (QOp.pure (Pure.pickF rfl rfl rfl)) ?_
      refine Any.take 24 rfl (by kernel_rfl) rfl (QOp.pure (Pure.move rfl)) ?_
      refine Any.takeN 25 rfl (by kernel_rfl) rfl rfl rfl rfl (by decide) ?_
      refine Any.takeN 26 rfl (by kernel_rfl) rfl rfl rfl rfl (by decide) ?_
      refine Any.takeN 27 rfl (by kernel_rfl) rfl rfl rfl rfl (by decide) ?_
      refine Any.takeN 28 rfl (by kernel_rfl) rfl rfl rfl rfl (by decide) ?_
      refine Any.take 29 rfl (by kernel_rfl) rfl (QOp.pure (Pure.pickF rfl rfl rfl)) ?_
      refine Any.take 30 rfl (by kernel_rfl) rfl (QOp.pure (Pure.assign rfl)) ?_
      refine Any.done (by kernel_rfl) ?_
      refine Run.ret1 rfl rfl ?_
      first
        | rfl
        | (rw [decide_eq_false (by rw [VW_mk]; rintro ⟨q1, q2, q3, q4⟩; first | omega | contradiction)])
        | exact congrArg Value.bool (decide_eq_decide.2 (by rw [VW_mk]; exact ⟨fun q4 => ⟨by omega, by omega, by assumption, q4⟩, fun q => q.2.2.2⟩))

set_option maxRecDepth 4000 in
/-- spec.l03Code -/
theorem f_s_l03Code (w : World) (p : Nat) (a : Int) (b : Int) (v : Value) (l : List Int) (x : Int) (y : Int) (dx : Int) (dy : Int) (hp : Rd w (boxS p) 3 1 [.int .i64 a, .int .i64 b, v]) (hv : Rd w v 1 l.length (ints l)) (hl : l.length ≤ 1073741824) (a0 : -9223372036854775808 ≤ a) (a1 : a ≤ 9223372036854775807) (b0 : -9223372036854775808 ≤ b) (b1 : b ≤ 9223372036854775807) : RetV Try.prog 63 [.pointer (some ⟨p, 0, none⟩), .agg #[.int .i64 x, .int .i64 y, .int .i64 dx, .int .i64 dy]] w (.int .i64 (wkE a b l x y dx dy)) := by
  refine Ret.enter Try.func63 rfl Try.ntmps63 rfl ?_
  refine Run.seq ?_
  refine Run.region ?_
  refine Ops.go rfl (Loud.box rfl rfl) ?_
  rintro _ _ ⟨b3, rfl, rfl⟩
  refine Ops.pure rfl (Pure.assign rfl) ?_
  refine Ops.nil ?_
  refine Run.seq ?_
  refine Run.seq ?_
  refine Run.region ?_
  refine Ops.pure rfl (Pure.move rfl) ?_
  refine Ops.q rfl (QOp.call fn44 rfl (fun w hw => f_s_l02Ok w _ _ _ _ _ (by first | assumption | omega | exact RdL.old (by assumption) w hw | exact RdL.own 0 rfl w hw | exact RdL.own 1 rfl w hw | exact RdL.own 2 rfl w hw | exact RdL.own 3 rfl w hw | exact RdL.own 4 rfl w hw | exact RdL.own 5 rfl w hw | exact RdL.own 6 rfl w hw | exact RdL.own 7 rfl w hw | exact RdL.own 8 rfl w hw | exact RdL.own 9 rfl w hw | exact RdL.boxM 0 rfl rfl w hw | exact RdL.own 10 rfl w hw | exact RdL.own 11 rfl w hw | exact Sat.front 0 rfl hw | exact Sat.front 1 rfl hw | exact Sat.front 2 rfl hw | exact Sat.front 3 rfl hw | exact Sat.front 4 rfl hw | exact Sat.front 5 rfl hw | exact Sat.front 6 rfl hw | exact Sat.front 7 rfl hw | exact Sat.front 8 rfl hw | exact Sat.front 9 rfl hw | exact Sat.front 10 rfl hw | exact Sat.front 11 rfl hw | exact heldRd (RdL.own 0 rfl w hw) | exact heldRd (RdL.own 1 rfl w hw) | exact heldRd (RdL.own 2 rfl w hw) | exact heldRd (RdL.own 3 rfl w hw) | exact heldRd (RdL.own 4 rfl w hw) | exact heldRd (RdL.own 5 rfl w hw) | exact heldRd (RdL.own 6 rfl w hw) | exact heldRd (RdL.own 7 rfl w hw) | exact heldRd (RdL.own 8 rfl w hw) | exact heldRd (RdL.own 9 rfl w hw) | exact heldRd (RdL.own 10 rfl w hw) | exact heldRd (RdL.own 11 rfl w hw) | (rw [length_marks]; omega) | exact RdL.boxM 1 rfl rfl w hw | exact RdL.boxM 2 rfl rfl w hw | exact RdL.boxM 3 rfl rfl w hw | exact okP_size (by assumption)) (by first | assumption | omega | exact RdL.old (by assumption) w hw | exact RdL.own 0 rfl w hw | exact RdL.own 1 rfl w hw | exact RdL.own 2 rfl w hw | exact RdL.own 3 rfl w hw | exact RdL.own 4 rfl w hw | exact RdL.own 5 rfl w hw | exact RdL.own 6 rfl w hw | exact RdL.own 7 rfl w hw | exact RdL.own 8 rfl w hw | exact RdL.own 9 rfl w hw | exact RdL.boxM 0 rfl rfl w hw | exact RdL.own 10 rfl w hw | exact RdL.own 11 rfl w hw | exact Sat.front 0 rfl hw | exact Sat.front 1 rfl hw | exact Sat.front 2 rfl hw | exact Sat.front 3 rfl hw | exact Sat.front 4 rfl hw | exact Sat.front 5 rfl hw | exact Sat.front 6 rfl hw | exact Sat.front 7 rfl hw | exact Sat.front 8 rfl hw | exact Sat.front 9 rfl hw | exact Sat.front 10 rfl hw | exact Sat.front 11 rfl hw | exact heldRd (RdL.own 0 rfl w hw) | exact heldRd (RdL.own 1 rfl w hw) | exact heldRd (RdL.own 2 rfl w hw) | exact heldRd (RdL.own 3 rfl w hw) | exact heldRd (RdL.own 4 rfl w hw) | exact heldRd (RdL.own 5 rfl w hw) | exact heldRd (RdL.own 6 rfl w hw) | exact heldRd (RdL.own 7 rfl w hw) | exact heldRd (RdL.own 8 rfl w hw) | exact heldRd (RdL.own 9 rfl w hw) | exact heldRd (RdL.own 10 rfl w hw) | exact heldRd (RdL.own 11 rfl w hw) | (rw [length_marks]; omega) | exact RdL.boxM 1 rfl rfl w hw | exact RdL.boxM 2 rfl rfl w hw | exact RdL.boxM 3 rfl rfl w hw | exact okP_size (by assumption)) (by first | assumption | omega | exact RdL.old (by assumption) w hw | exact RdL.own 0 rfl w hw | exact RdL.own 1 rfl w hw | exact RdL.own 2 rfl w hw | exact RdL.own 3 rfl w hw | exact RdL.own 4 rfl w hw | exact RdL.own 5 rfl w hw | exact RdL.own 6 rfl w hw | exact RdL.own 7 rfl w hw | exact RdL.own 8 rfl w hw | exact RdL.own 9 rfl w hw | exact RdL.boxM 0 rfl rfl w hw | exact RdL.own 10 rfl w hw | exact RdL.own 11 rfl w hw | exact Sat.front 0 rfl hw | exact Sat.front 1 rfl hw | exact Sat.front 2 rfl hw | exact Sat.front 3 rfl hw | exact Sat.front 4 rfl hw | exact Sat.front 5 rfl hw | exact Sat.front 6 rfl hw | exact Sat.front 7 rfl hw | exact Sat.front 8 rfl hw | exact Sat.front 9 rfl hw | exact Sat.front 10 rfl hw | exact Sat.front 11 rfl hw | exact heldRd (RdL.own 0 rfl w hw) | exact heldRd (RdL.own 1 rfl w hw) | exact heldRd (RdL.own 2 rfl w hw) | exact heldRd (RdL.own 3 rfl w hw) | exact heldRd (RdL.own 4 rfl w hw) | exact heldRd (RdL.own 5 rfl w hw) | exact heldRd (RdL.own 6 rfl w hw) | exact heldRd (RdL.own 7 rfl w hw) | exact heldRd (RdL.own 8 rfl w hw) | exact heldRd (RdL.own 9 rfl w hw) | exact heldRd (RdL.own 10 rfl w hw) | exact heldRd (RdL.own 11 rfl w hw) | (rw [length_marks]; omega) | exact RdL.boxM 1 rfl rfl w hw | exact RdL.boxM 2 rfl rfl w hw | exact RdL.boxM 3 rfl rfl w hw | exact okP_size (by assumption)) (by first | assumption | omega | exact RdL.old (by assumption) w hw | exact RdL.own 0 rfl w hw | exact RdL.own 1 rfl w hw | exact RdL.own 2 rfl w hw | exact RdL.own 3 rfl w hw | exact RdL.own 4 rfl w hw | exact RdL.own 5 rfl w hw | exact RdL.own 6 rfl w hw | exact RdL.own 7 rfl w hw | exact RdL.own 8 rfl w hw | exact RdL.own 9 rfl w hw | exact RdL.boxM 0 rfl rfl w hw | exact RdL.own 10 rfl w hw | exact RdL.own 11 rfl w hw | exact Sat.front 0 rfl hw | exact Sat.front 1 rfl hw | exact Sat.front 2 rfl hw | exact Sat.front 3 rfl hw | exact Sat.front 4 rfl hw | exact Sat.front 5 rfl hw | exact Sat.front 6 rfl hw | exact Sat.front 7 rfl hw | exact Sat.front 8 rfl hw | exact Sat.front 9 rfl hw | exact Sat.front 10 rfl hw | exact Sat.front 11 rfl hw | exact heldRd (RdL.own 0 rfl w hw) | exact heldRd (RdL.own 1 rfl w hw) | exact heldRd (RdL.own 2 rfl w hw) | exact heldRd (RdL.own 3 rfl w hw) | exact heldRd (RdL.own 4 rfl w hw) | exact heldRd (RdL.own 5 rfl w hw) | exact heldRd (RdL.own 6 rfl w hw) | exact heldRd (RdL.own 7 rfl w hw) | exact heldRd (RdL.own 8 rfl w hw) | exact heldRd (RdL.own 9 rfl w hw) | exact heldRd (RdL.own 10 rfl w hw) | exact heldRd (RdL.own 11 rfl w hw) | (rw [length_marks]; omega) | exact RdL.boxM 1 rfl rfl w hw | exact RdL.boxM 2 rfl rfl w hw | exact RdL.boxM 3 rfl rfl w hw | exact okP_size (by assumption)) (by first | assumption | omega | exact RdL.old (by assumption) w hw | exact RdL.own 0 rfl w hw | exact RdL.own 1 rfl w hw | exact RdL.own 2 rfl w hw | exact RdL.own 3 rfl w hw | exact RdL.own 4 rfl w hw | exact RdL.own 5 rfl w hw | exact RdL.own 6 rfl w hw | exact RdL.own 7 rfl w hw | exact RdL.own 8 rfl w hw | exact RdL.own 9 rfl w hw | exact RdL.boxM 0 rfl rfl w hw | exact RdL.own 10 rfl w hw | exact RdL.own 11 rfl w hw | exact Sat.front 0 rfl hw | exact Sat.front 1 rfl hw | exact Sat.front 2 rfl hw | exact Sat.front 3 rfl hw | exact Sat.front 4 rfl hw | exact Sat.front 5 rfl hw | exact Sat.front 6 rfl hw | exact Sat.front 7 rfl hw | exact Sat.front 8 rfl hw | exact Sat.front 9 rfl hw | exact Sat.front 10 rfl hw | exact Sat.front 11 rfl hw | exact heldRd (RdL.own 0 rfl w hw) | exact heldRd (RdL.own 1 rfl w hw) | exact heldRd (RdL.own 2 rfl w hw) | exact heldRd (RdL.own 3 rfl w hw) | exact heldRd (RdL.own 4 rfl w hw) | exact heldRd (RdL.own 5 rfl w hw) | exact heldRd (RdL.own 6 rfl w hw) | exact heldRd (RdL.own 7 rfl w hw) | exact heldRd (RdL.own 8 rfl w hw) | exact heldRd (RdL.own 9 rfl w hw) | exact heldRd (RdL.own 10 rfl w hw) | exact heldRd (RdL.own 11 rfl w hw) | (rw [length_marks]; omega) | exact RdL.boxM 1 rfl rfl w hw | exact RdL.boxM 2 rfl rfl w hw | exact RdL.boxM 3 rfl rfl w hw | exact okP_size (by assumption)) (by first | assumption | omega | exact RdL.old (by assumption) w hw | exact RdL.own 0 rfl w hw | exact RdL.own 1 rfl w hw | exact RdL.own 2 rfl w hw | exact RdL.own 3 rfl w hw | exact RdL.own 4 rfl w hw | exact RdL.own 5 rfl w hw | exact RdL.own 6 rfl w hw | exact RdL.own 7 rfl w hw | exact RdL.own 8 rfl w hw | exact RdL.own 9 rfl w hw | exact RdL.boxM 0 rfl rfl w hw | exact RdL.own 10 rfl w hw | exact RdL.own 11 rfl w hw | exact Sat.front 0 rfl hw | exact Sat.front 1 rfl hw | exact Sat.front 2 rfl hw | exact Sat.front 3 rfl hw | exact Sat.front 4 rfl hw | exact Sat.front 5 rfl hw | exact Sat.front 6 rfl hw | exact Sat.front 7 rfl hw | exact Sat.front 8 rfl hw | exact Sat.front 9 rfl hw | exact Sat.front 10 rfl hw | exact Sat.front 11 rfl hw | exact heldRd (RdL.own 0 rfl w hw) | exact heldRd (RdL.own 1 rfl w hw) | exact heldRd (RdL.own 2 rfl w hw) | exact heldRd (RdL.own 3 rfl w hw) | exact heldRd (RdL.own 4 rfl w hw) | exact heldRd (RdL.own 5 rfl w hw) | exact heldRd (RdL.own 6 rfl w hw) | exact heldRd (RdL.own 7 rfl w hw) | exact heldRd (RdL.own 8 rfl w hw) | exact heldRd (RdL.own 9 rfl w hw) | exact heldRd (RdL.own 10 rfl w hw) | exact heldRd (RdL.own 11 rfl w hw) | (rw [length_marks]; omega) | exact RdL.boxM 1 rfl rfl w hw | exact RdL.boxM 2 rfl rfl w hw | exact RdL.boxM 3 rfl rfl w hw | exact okP_size (by assumption)) (by first | assumption | omega | exact RdL.old (by assumption) w hw | exact RdL.own 0 rfl w hw | exact RdL.own 1 rfl w hw | exact RdL.own 2 rfl w hw | exact RdL.own 3 rfl w hw | exact RdL.own 4 rfl w hw | exact RdL.own 5 rfl w hw | exact RdL.own 6 rfl w hw | exact RdL.own 7 rfl w hw | exact RdL.own 8 rfl w hw | exact RdL.own 9 rfl w hw | exact RdL.boxM 0 rfl rfl w hw | exact RdL.own 10 rfl w hw | exact RdL.own 11 rfl w hw | exact Sat.front 0 rfl hw | exact Sat.front 1 rfl hw | exact Sat.front 2 rfl hw | exact Sat.front 3 rfl hw | exact Sat.front 4 rfl hw | exact Sat.front 5 rfl hw | exact Sat.front 6 rfl hw | exact Sat.front 7 rfl hw | exact Sat.front 8 rfl hw | exact Sat.front 9 rfl hw | exact Sat.front 10 rfl hw | exact Sat.front 11 rfl hw | exact heldRd (RdL.own 0 rfl w hw) | exact heldRd (RdL.own 1 rfl w hw) | exact heldRd (RdL.own 2 rfl w hw) | exact heldRd (RdL.own 3 rfl w hw) | exact heldRd (RdL.own 4 rfl w hw) | exact heldRd (RdL.own 5 rfl w hw) | exact heldRd (RdL.own 6 rfl w hw) | exact heldRd (RdL.own 7 rfl w hw) | exact heldRd (RdL.own 8 rfl w hw) | exact heldRd (RdL.own 9 rfl w hw) | exact heldRd (RdL.own 10 rfl w hw) | exact heldRd (RdL.own 11 rfl w hw) | (rw [length_marks]; omega) | exact RdL.boxM 1 rfl rfl w hw | exact RdL.boxM 2 rfl rfl w hw | exact RdL.boxM 3 rfl rfl w hw | exact okP_size (by assumption)))) ?_
  refine Ops.pure rfl (Pure.not rfl) ?_
  refine Ops.pure rfl (Pure.move rfl) ?_
  refine Ops.guard rfl rfl rfl rfl (fun c8 => ?_) (fun c8 => ?_)
  · skip
    have c8' := bF c8
    refine Ops.pure rfl (Pure.move rfl) ?_
    refine Ops.guardY rfl rfl rfl c8 ?_
    refine Ops.pure rfl (Pure.ldBA 0 rfl cell54 rfl rfl rfl) ?_
    refine Ops.guardY rfl rfl rfl c8 ?_
    refine Ops.q rfl (QOp.call fn88 rfl (fun w hw => f_s_l03Ok w _ _ _ _ _ _ _ _ (by first | assumption | omega | exact RdL.old (by assumption) w hw | exact RdL.own 0 rfl w hw | exact RdL.own 1 rfl w hw | exact RdL.own 2 rfl w hw | exact RdL.own 3 rfl w hw | exact RdL.own 4 rfl w hw | exact RdL.own 5 rfl w hw | exact RdL.own 6 rfl w hw | exact RdL.own 7 rfl w hw | exact RdL.own 8 rfl w hw | exact RdL.own 9 rfl w hw | exact RdL.boxM 0 rfl rfl w hw | exact RdL.own 10 rfl w hw | exact RdL.own 11 rfl w hw | exact Sat.front 0 rfl hw | exact Sat.front 1 rfl hw | exact Sat.front 2 rfl hw | exact Sat.front 3 rfl hw | exact Sat.front 4 rfl hw | exact Sat.front 5 rfl hw | exact Sat.front 6 rfl hw | exact Sat.front 7 rfl hw | exact Sat.front 8 rfl hw | exact Sat.front 9 rfl hw | exact Sat.front 10 rfl hw | exact Sat.front 11 rfl hw | exact heldRd (RdL.own 0 rfl w hw) | exact heldRd (RdL.own 1 rfl w hw) | exact heldRd (RdL.own 2 rfl w hw) | exact heldRd (RdL.own 3 rfl w hw) | exact heldRd (RdL.own 4 rfl w hw) | exact heldRd (RdL.own 5 rfl w hw) | exact heldRd (RdL.own 6 rfl w hw) | exact heldRd (RdL.own 7 rfl w hw) | exact heldRd (RdL.own 8 rfl w hw) | exact heldRd (RdL.own 9 rfl w hw) | exact heldRd (RdL.own 10 rfl w hw) | exact heldRd (RdL.own 11 rfl w hw) | (rw [length_marks]; omega) | exact RdL.boxM 1 rfl rfl w hw | exact RdL.boxM 2 rfl rfl w hw | exact RdL.boxM 3 rfl rfl w hw | exact okP_size (by assumption)) (by first | assumption | omega | exact RdL.old (by assumption) w hw | exact RdL.own 0 rfl w hw | exact RdL.own 1 rfl w hw | exact RdL.own 2 rfl w hw | exact RdL.own 3 rfl w hw | exact RdL.own 4 rfl w hw | exact RdL.own 5 rfl w hw | exact RdL.own 6 rfl w hw | exact RdL.own 7 rfl w hw | exact RdL.own 8 rfl w hw | exact RdL.own 9 rfl w hw | exact RdL.boxM 0 rfl rfl w hw | exact RdL.own 10 rfl w hw | exact RdL.own 11 rfl w hw | exact Sat.front 0 rfl hw | exact Sat.front 1 rfl hw | exact Sat.front 2 rfl hw | exact Sat.front 3 rfl hw | exact Sat.front 4 rfl hw | exact Sat.front 5 rfl hw | exact Sat.front 6 rfl hw | exact Sat.front 7 rfl hw | exact Sat.front 8 rfl hw | exact Sat.front 9 rfl hw | exact Sat.front 10 rfl hw | exact Sat.front 11 rfl hw | exact heldRd (RdL.own 0 rfl w hw) | exact heldRd (RdL.own 1 rfl w hw) | exact heldRd (RdL.own 2 rfl w hw) | exact heldRd (RdL.own 3 rfl w hw) | exact heldRd (RdL.own 4 rfl w hw) | exact heldRd (RdL.own 5 rfl w hw) | exact heldRd (RdL.own 6 rfl w hw) | exact heldRd (RdL.own 7 rfl w hw) | exact heldRd (RdL.own 8 rfl w hw) | exact heldRd (RdL.own 9 rfl w hw) | exact heldRd (RdL.own 10 rfl w hw) | exact heldRd (RdL.own 11 rfl w hw) | (rw [length_marks]; omega) | exact RdL.boxM 1 rfl rfl w hw | exact RdL.boxM 2 rfl rfl w hw | exact RdL.boxM 3 rfl rfl w hw | exact okP_size (by assumption)))) ?_
    refine Ops.guardY rfl rfl rfl c8 ?_
    refine Ops.pure rfl (Pure.not rfl) ?_
    refine Ops.pure rfl (Pure.pickF rfl c8 rfl) ?_
    refine Ops.nil ?_
    refine Run.cond rfl (fun c13 => ?_) (fun c13 => ?_)
    · skip
      replace c13 := nT c13
      refine Run.seq ?_
      refine Run.region ?_
      refine Ops.pure rfl (Pure.assign rfl) ?_
      refine Ops.nil ?_
      refine Run.ret1 rfl rfl ?_
      first
        | (rw [wkE_bad (fun h => by rw [c8'] at h; exact absurd h.1 (by decide))])
        | (rw [wkE_bad (fun h => c13 h.2)])
        | (rw [wkE_ok ⟨c8', c13⟩])
    · skip
      replace c13 := nF c13
      refine Run.skip ?_
      refine Run.seq ?_
      refine Run.region ?_
      refine Ops.pure rfl (Pure.assign rfl) ?_
      refine Ops.nil ?_
      refine Run.ret1 rfl rfl ?_
      first
        | (rw [wkE_bad (fun h => by rw [c8'] at h; exact absurd h.1 (by decide))])
        | (rw [wkE_bad (fun h => c13 h.2)])
        | (rw [wkE_ok ⟨c8', c13⟩])
  · skip
    replace c8 := Bool.eq_true_of_ne c8
    have c8' := bT c8
    refine Ops.guardN rfl rfl rfl rfl (by rw [c8]; decide) ?_
    refine Ops.guardN rfl rfl rfl rfl (by rw [c8]; decide) ?_
    refine Ops.guardN rfl rfl rfl rfl (by rw [c8]; decide) ?_
    refine Ops.pure rfl (Pure.pickT rfl c8 rfl) ?_
    refine Ops.nil ?_
    refine Run.condE rfl rfl ?_
    refine Run.seq ?_
    refine Run.region ?_
    refine Ops.pure rfl (Pure.assign rfl) ?_
    refine Ops.nil ?_
    refine Run.ret1 rfl rfl ?_
    first
      | (rw [wkE_bad (fun h => by rw [c8'] at h; exact absurd h.1 (by decide))])
      | (rw [wkE_bad (fun h => c13 h.2)])
      | (rw [wkE_ok ⟨c8', c13⟩])

set_option maxRecDepth 4000 in
/-- impl.ValidWalker -/
theorem f_i_ValidWalker (w : World) (a : Int) (b : Int) (v : Value) (l : List Int) (x : Int) (y : Int) (dx : Int) (dy : Int) (hv : Rd w v 1 l.length (ints l)) (hl : l.length ≤ 1073741824) (a0 : -9223372036854775808 ≤ a) (a1 : a ≤ 9223372036854775807) (b0 : -9223372036854775808 ≤ b) (b1 : b ≤ 9223372036854775807) : RetV Try.prog 66 [.agg #[.int .i64 a, .int .i64 b, v], .agg #[.int .i64 x, .int .i64 y, .int .i64 dx, .int .i64 dy]] w (.bool (decide (okP a b l = true ∧ VW a b (x, y, dx, dy)))) := by
  refine Ret.enter Try.func66 rfl Try.ntmps66 rfl ?_
  refine Run.seq ?_
  refine Run.region ?_
  refine Ops.go rfl (Loud.box rfl rfl) ?_
  rintro _ _ ⟨b2, rfl, rfl⟩
  refine Ops.go rfl (Loud.box rfl rfl) ?_
  rintro _ _ ⟨b3, rfl, rfl⟩
  refine Ops.pure rfl (Pure.assign rfl) ?_
  refine Ops.nil ?_
  refine Run.seq ?_
  refine Run.region ?_
  refine Ops.pure rfl (Pure.ldBA 1 rfl cell30 rfl rfl rfl) ?_
  refine Ops.q rfl (QOp.call fn46 rfl (fun w hw => f_i_ValidPanel w _ _ _ _ (by first | assumption | omega | exact RdL.old (by assumption) w hw | exact RdL.own 0 rfl w hw | exact RdL.own 1 rfl w hw | exact RdL.own 2 rfl w hw | exact RdL.own 3 rfl w hw | exact RdL.own 4 rfl w hw | exact RdL.own 5 rfl w hw | exact RdL.own 6 rfl w hw | exact RdL.own 7 rfl w hw | exact RdL.own 8 rfl w hw | exact RdL.own 9 rfl w hw | exact RdL.boxM 0 rfl rfl w hw | exact RdL.own 10 rfl w hw | exact RdL.own 11 rfl w hw | exact Sat.front 0 rfl hw | exact Sat.front 1 rfl hw | exact Sat.front 2 rfl hw | exact Sat.front 3 rfl hw | exact Sat.front 4 rfl hw | exact Sat.front 5 rfl hw | exact Sat.front 6 rfl hw | exact Sat.front 7 rfl hw | exact Sat.front 8 rfl hw | exact Sat.front 9 rfl hw | exact Sat.front 10 rfl hw | exact Sat.front 11 rfl hw | exact heldRd (RdL.own 0 rfl w hw) | exact heldRd (RdL.own 1 rfl w hw) | exact heldRd (RdL.own 2 rfl w hw) | exact heldRd (RdL.own 3 rfl w hw) | exact heldRd (RdL.own 4 rfl w hw) | exact heldRd (RdL.own 5 rfl w hw) | exact heldRd (RdL.own 6 rfl w hw) | exact heldRd (RdL.own 7 rfl w hw) | exact heldRd (RdL.own 8 rfl w hw) | exact heldRd (RdL.own 9 rfl w hw) | exact heldRd (RdL.own 10 rfl w hw) | exact heldRd (RdL.own 11 rfl w hw) | (rw [length_marks]; omega) | exact RdL.boxM 1 rfl rfl w hw | exact RdL.boxM 2 rfl rfl w hw | exact RdL.boxM 3 rfl rfl w hw | exact okP_size (by assumption)) (by first | assumption | omega | exact RdL.old (by assumption) w hw | exact RdL.own 0 rfl w hw | exact RdL.own 1 rfl w hw | exact RdL.own 2 rfl w hw | exact RdL.own 3 rfl w hw | exact RdL.own 4 rfl w hw | exact RdL.own 5 rfl w hw | exact RdL.own 6 rfl w hw | exact RdL.own 7 rfl w hw | exact RdL.own 8 rfl w hw | exact RdL.own 9 rfl w hw | exact RdL.boxM 0 rfl rfl w hw | exact RdL.own 10 rfl w hw | exact RdL.own 11 rfl w hw | exact Sat.front 0 rfl hw | exact Sat.front 1 rfl hw | exact Sat.front 2 rfl hw | exact Sat.front 3 rfl hw | exact Sat.front 4 rfl hw | exact Sat.front 5 rfl hw | exact Sat.front 6 rfl hw | exact Sat.front 7 rfl hw | exact Sat.front 8 rfl hw | exact Sat.front 9 rfl hw | exact Sat.front 10 rfl hw | exact Sat.front 11 rfl hw | exact heldRd (RdL.own 0 rfl w hw) | exact heldRd (RdL.own 1 rfl w hw) | exact heldRd (RdL.own 2 rfl w hw) | exact heldRd (RdL.own 3 rfl w hw) | exact heldRd (RdL.own 4 rfl w hw) | exact heldRd (RdL.own 5 rfl w hw) | exact heldRd (RdL.own 6 rfl w hw) | exact heldRd (RdL.own 7 rfl w hw) | exact heldRd (RdL.own 8 rfl w hw) | exact heldRd (RdL.own 9 rfl w hw) | exact heldRd (RdL.own 10 rfl w hw) | exact heldRd (RdL.own 11 rfl w hw) | (rw [length_marks]; omega) | exact RdL.boxM 1 rfl rfl w hw | exact RdL.boxM 2 rfl rfl w hw | exact RdL.boxM 3 rfl rfl w hw | exact okP_size (by assumption)) (by first | assumption | omega | exact RdL.old (by assumption) w hw | exact RdL.own 0 rfl w hw | exact RdL.own 1 rfl w hw | exact RdL.own 2 rfl w hw | exact RdL.own 3 rfl w hw | exact RdL.own 4 rfl w hw | exact RdL.own 5 rfl w hw | exact RdL.own 6 rfl w hw | exact RdL.own 7 rfl w hw | exact RdL.own 8 rfl w hw | exact RdL.own 9 rfl w hw | exact RdL.boxM 0 rfl rfl w hw | exact RdL.own 10 rfl w hw | exact RdL.own 11 rfl w hw | exact Sat.front 0 rfl hw | exact Sat.front 1 rfl hw | exact Sat.front 2 rfl hw | exact Sat.front 3 rfl hw | exact Sat.front 4 rfl hw | exact Sat.front 5 rfl hw | exact Sat.front 6 rfl hw | exact Sat.front 7 rfl hw | exact Sat.front 8 rfl hw | exact Sat.front 9 rfl hw | exact Sat.front 10 rfl hw | exact Sat.front 11 rfl hw | exact heldRd (RdL.own 0 rfl w hw) | exact heldRd (RdL.own 1 rfl w hw) | exact heldRd (RdL.own 2 rfl w hw) | exact heldRd (RdL.own 3 rfl w hw) | exact heldRd (RdL.own 4 rfl w hw) | exact heldRd (RdL.own 5 rfl w hw) | exact heldRd (RdL.own 6 rfl w hw) | exact heldRd (RdL.own 7 rfl w hw) | exact heldRd (RdL.own 8 rfl w hw) | exact heldRd (RdL.own 9 rfl w hw) | exact heldRd (RdL.own 10 rfl w hw) | exact heldRd (RdL.own 11 rfl w hw) | (rw [length_marks]; omega) | exact RdL.boxM 1 rfl rfl w hw | exact RdL.boxM 2 rfl rfl w hw | exact RdL.boxM 3 rfl rfl w hw | exact okP_size (by assumption)) (by first | assumption | omega | exact RdL.old (by assumption) w hw | exact RdL.own 0 rfl w hw | exact RdL.own 1 rfl w hw | exact RdL.own 2 rfl w hw | exact RdL.own 3 rfl w hw | exact RdL.own 4 rfl w hw | exact RdL.own 5 rfl w hw | exact RdL.own 6 rfl w hw | exact RdL.own 7 rfl w hw | exact RdL.own 8 rfl w hw | exact RdL.own 9 rfl w hw | exact RdL.boxM 0 rfl rfl w hw | exact RdL.own 10 rfl w hw | exact RdL.own 11 rfl w hw | exact Sat.front 0 rfl hw | exact Sat.front 1 rfl hw | exact Sat.front 2 rfl hw | exact Sat.front 3 rfl hw | exact Sat.front 4 rfl hw | exact Sat.front 5 rfl hw | exact Sat.front 6 rfl hw | exact Sat.front 7 rfl hw | exact Sat.front 8 rfl hw | exact Sat.front 9 rfl hw | exact Sat.front 10 rfl hw | exact Sat.front 11 rfl hw | exact heldRd (RdL.own 0 rfl w hw) | exact heldRd (RdL.own 1 rfl w hw) | exact heldRd (RdL.own 2 rfl w hw) | exact heldRd (RdL.own 3 rfl w hw) | exact heldRd (RdL.own 4 rfl w hw) | exact heldRd (RdL.own 5 rfl w hw) | exact heldRd (RdL.own 6 rfl w hw) | exact heldRd (RdL.own 7 rfl w hw) | exact heldRd (RdL.own 8 rfl w hw) | exact heldRd (RdL.own 9 rfl w hw) | exact heldRd (RdL.own 10 rfl w hw) | exact heldRd (RdL.own 11 rfl w hw) | (rw [length_marks]; omega) | exact RdL.boxM 1 rfl rfl w hw | exact RdL.boxM 2 rfl rfl w hw | exact RdL.boxM 3 rfl rfl w hw | exact okP_size (by assumption)) (by first | assumption | omega | exact RdL.old (by assumption) w hw | exact RdL.own 0 rfl w hw | exact RdL.own 1 rfl w hw | exact RdL.own 2 rfl w hw | exact RdL.own 3 rfl w hw | exact RdL.own 4 rfl w hw | exact RdL.own 5 rfl w hw | exact RdL.own 6 rfl w hw | exact RdL.own 7 rfl w hw | exact RdL.own 8 rfl w hw | exact RdL.own 9 rfl w hw | exact RdL.boxM 0 rfl rfl w hw | exact RdL.own 10 rfl w hw | exact RdL.own 11 rfl w hw | exact Sat.front 0 rfl hw | exact Sat.front 1 rfl hw | exact Sat.front 2 rfl hw | exact Sat.front 3 rfl hw | exact Sat.front 4 rfl hw | exact Sat.front 5 rfl hw | exact Sat.front 6 rfl hw | exact Sat.front 7 rfl hw | exact Sat.front 8 rfl hw | exact Sat.front 9 rfl hw | exact Sat.front 10 rfl hw | exact Sat.front 11 rfl hw | exact heldRd (RdL.own 0 rfl w hw) | exact heldRd (RdL.own 1 rfl w hw) | exact heldRd (RdL.own 2 rfl w hw) | exact heldRd (RdL.own 3 rfl w hw) | exact heldRd (RdL.own 4 rfl w hw) | exact heldRd (RdL.own 5 rfl w hw) | exact heldRd (RdL.own 6 rfl w hw) | exact heldRd (RdL.own 7 rfl w hw) | exact heldRd (RdL.own 8 rfl w hw) | exact heldRd (RdL.own 9 rfl w hw) | exact heldRd (RdL.own 10 rfl w hw) | exact heldRd (RdL.own 11 rfl w hw) | (rw [length_marks]; omega) | exact RdL.boxM 1 rfl rfl w hw | exact RdL.boxM 2 rfl rfl w hw | exact RdL.boxM 3 rfl rfl w hw | exact okP_size (by assumption)) (by first | assumption | omega | exact RdL.old (by assumption) w hw | exact RdL.own 0 rfl w hw | exact RdL.own 1 rfl w hw | exact RdL.own 2 rfl w hw | exact RdL.own 3 rfl w hw | exact RdL.own 4 rfl w hw | exact RdL.own 5 rfl w hw | exact RdL.own 6 rfl w hw | exact RdL.own 7 rfl w hw | exact RdL.own 8 rfl w hw | exact RdL.own 9 rfl w hw | exact RdL.boxM 0 rfl rfl w hw | exact RdL.own 10 rfl w hw | exact RdL.own 11 rfl w hw | exact Sat.front 0 rfl hw | exact Sat.front 1 rfl hw | exact Sat.front 2 rfl hw | exact Sat.front 3 rfl hw | exact Sat.front 4 rfl hw | exact Sat.front 5 rfl hw | exact Sat.front 6 rfl hw | exact Sat.front 7 rfl hw | exact Sat.front 8 rfl hw | exact Sat.front 9 rfl hw | exact Sat.front 10 rfl hw | exact Sat.front 11 rfl hw | exact heldRd (RdL.own 0 rfl w hw) | exact heldRd (RdL.own 1 rfl w hw) | exact heldRd (RdL.own 2 rfl w hw) | exact heldRd (RdL.own 3 rfl w hw) | exact heldRd (RdL.own 4 rfl w hw) | exact heldRd (RdL.own 5 rfl w hw) | exact heldRd (RdL.own 6 rfl w hw) | exact heldRd (RdL.own 7 rfl w hw) | exact heldRd (RdL.own 8 rfl w hw) | exact heldRd (RdL.own 9 rfl w hw) | exact heldRd (RdL.own 10 rfl w hw) | exact heldRd (RdL.own 11 rfl w hw) | (rw [length_marks]; omega) | exact RdL.boxM 1 rfl rfl w hw | exact RdL.boxM 2 rfl rfl w hw | exact RdL.boxM 3 rfl rfl w hw | exact okP_size (by assumption)))) ?_
  refine Ops.pure rfl (Pure.move rfl) ?_
  refine Ops.guard rfl rfl rfl rfl (fun c7 => ?_) (fun c7 => ?_)
  · skip
    have c7' := c7
    refine Ops.pure rfl (Pure.ldBA 1 rfl cell30 rfl rfl rfl) ?_
    refine Ops.guardY rfl rfl rfl c7 ?_
    refine Ops.pure rfl (Pure.ldBA 0 rfl cell54 rfl rfl rfl) ?_
    refine Ops.guardY rfl rfl rfl c7 ?_
    refine Ops.q rfl (QOp.call fn89 rfl (fun w hw => f_i_validWalker w _ _ _ _ _ _ _ (by first | assumption | omega | exact RdL.old (by assumption) w hw | exact RdL.own 0 rfl w hw | exact RdL.own 1 rfl w hw | exact RdL.own 2 rfl w hw | exact RdL.own 3 rfl w hw | exact RdL.own 4 rfl w hw | exact RdL.own 5 rfl w hw | exact RdL.own 6 rfl w hw | exact RdL.own 7 rfl w hw | exact RdL.own 8 rfl w hw | exact RdL.own 9 rfl w hw | exact RdL.boxM 0 rfl rfl w hw | exact RdL.own 10 rfl w hw | exact RdL.own 11 rfl w hw | exact Sat.front 0 rfl hw | exact Sat.front 1 rfl hw | exact Sat.front 2 rfl hw | exact Sat.front 3 rfl hw | exact Sat.front 4 rfl hw | exact Sat.front 5 rfl hw | exact Sat.front 6 rfl hw | exact Sat.front 7 rfl hw | exact Sat.front 8 rfl hw | exact Sat.front 9 rfl hw | exact Sat.front 10 rfl hw | exact Sat.front 11 rfl hw | exact heldRd (RdL.own 0 rfl w hw) | exact heldRd (RdL.own 1 rfl w hw) | exact heldRd (RdL.own 2 rfl w hw) | exact heldRd (RdL.own 3 rfl w hw) | exact heldRd (RdL.own 4 rfl w hw) | exact heldRd (RdL.own 5 rfl w hw) | exact heldRd (RdL.own 6 rfl w hw) | exact heldRd (RdL.own 7 rfl w hw) | exact heldRd (RdL.own 8 rfl w hw) | exact heldRd (RdL.own 9 rfl w hw) | exact heldRd (RdL.own 10 rfl w hw) | exact heldRd (RdL.own 11 rfl w hw) | (rw [length_marks]; omega) | exact RdL.boxM 1 rfl rfl w hw | exact RdL.boxM 2 rfl rfl w hw | exact RdL.boxM 3 rfl rfl w hw | exact okP_size (by assumption)))) ?_
    refine Ops.pure rfl (Pure.pickT rfl c7 rfl) ?_
    refine Ops.pure rfl (Pure.assign rfl) ?_
    refine Ops.nil ?_
    refine Run.ret1 rfl rfl ?_
    first
      | rfl
      | (simp_all; done)
  · skip
    replace c7 := Bool.eq_false_of_ne c7
    have c7' := c7
    refine Ops.guardN rfl rfl rfl rfl (by rw [c7]; decide) ?_
    refine Ops.guardN rfl rfl rfl rfl (by rw [c7]; decide) ?_
    refine Ops.pure rfl (Pure.pickF rfl c7 rfl) ?_
    refine Ops.pure rfl (Pure.assign rfl) ?_
    refine Ops.nil ?_
    refine Run.ret1 rfl rfl ?_
    first
      | rfl
      | (simp_all; done)

set_option maxRecDepth 4000 in
/-- spec.l13Over -/
theorem f_s_l13Over (w : World) (a : Int) (b : Int) (x : Int) (y : Int) (dx : Int) (dy : Int) (hs : SizeOk a b) (hvw : VW a b (x, y, dx, dy)) : RetV Try.prog 65 [.agg #[.int .i64 x, .int .i64 y, .int .i64 dx, .int .i64 dy]] w (.bool (decide (slp (x + dx) = dx * dy))) := by
  have hm := VW_mid hs hvw
  refine Ret.enter Try.func65 rfl Try.ntmps65 rfl ?_
  refine Run.seq ?_
  refine Run.region ?_
  refine Ops.go rfl (Loud.box rfl rfl) ?_
  rintro _ _ ⟨b1, rfl, rfl⟩
  refine Ops.pure rfl (Pure.assign rfl) ?_
  refine Ops.nil ?_
  refine Run.seq ?_
  refine Any.start follows ?_
  refine Any.take 0 rfl (by kernel_rfl) rfl (QOp.pure (Pure.ldBA 0 rfl cell54 rfl rfl rfl)) ?_
  refine Any.take 1 rfl (by kernel_rfl) rfl (QOp.call fn64 rfl (fun w hw => f_s_l03Next w _ _ _ _ (by first | assumption | omega | exact RdL.old (by assumption) w hw | exact RdL.own 0 rfl w hw | exact RdL.own 1 rfl w hw | exact RdL.own 2 rfl w hw | exact RdL.own 3 rfl w hw | exact RdL.own 4 rfl w hw | exact RdL.own 5 rfl w hw | exact RdL.own 6 rfl w hw | exact RdL.own 7 rfl w hw | exact RdL.own 8 rfl w hw | exact RdL.own 9 rfl w hw | exact RdL.boxM 0 rfl rfl w hw | exact RdL.own 10 rfl w hw | exact RdL.own 11 rfl w hw | exact Sat.front 0 rfl hw | exact Sat.front 1 rfl hw | exact Sat.front 2 rfl hw | exact Sat.front 3 rfl hw | exact Sat.front 4 rfl hw | exact Sat.front 5 rfl hw | exact Sat.front 6 rfl hw | exact Sat.front 7 rfl hw | exact Sat.front 8 rfl hw | exact Sat.front 9 rfl hw | exact Sat.front 10 rfl hw | exact Sat.front 11 rfl hw | exact heldRd (RdL.own 0 rfl w hw) | exact heldRd (RdL.own 1 rfl w hw) | exact heldRd (RdL.own 2 rfl w hw) | exact heldRd (RdL.own 3 rfl w hw) | exact heldRd (RdL.own 4 rfl w hw) | exact heldRd (RdL.own 5 rfl w hw) | exact heldRd (RdL.own 6 rfl w hw) | exact heldRd (RdL.own 7 rfl w hw) | exact heldRd (RdL.own 8 rfl w hw) | exact heldRd (RdL.own 9 rfl w hw) | exact heldRd (RdL.own 10 rfl w hw) | exact heldRd (RdL.own 11 rfl w hw) | (rw [length_marks]; omega) | exact RdL.boxM 1 rfl rfl w hw | exact RdL.boxM 2 rfl rfl w hw | exact RdL.boxM 3 rfl rfl w hw | exact okP_size (by assumption)) (by first | assumption | omega | exact RdL.old (by assumption) w hw | exact RdL.own 0 rfl w hw | exact RdL.own 1 rfl w hw | exact RdL.own 2 rfl w hw | exact RdL.own 3 rfl w hw | exact RdL.own 4 rfl w hw | exact RdL.own 5 rfl w hw | exact RdL.own 6 rfl w hw | exact RdL.own 7 rfl w hw | exact RdL.own 8 rfl w hw | exact RdL.own 9 rfl w hw | exact RdL.boxM 0 rfl rfl w hw | exact RdL.own 10 rfl w hw | exact RdL.own 11 rfl w hw | exact Sat.front 0 rfl hw | exact Sat.front 1 rfl hw | exact Sat.front 2 rfl hw | exact Sat.front 3 rfl hw | exact Sat.front 4 rfl hw | exact Sat.front 5 rfl hw | exact Sat.front 6 rfl hw | exact Sat.front 7 rfl hw | exact Sat.front 8 rfl hw | exact Sat.front 9 rfl hw | exact Sat.front 10 rfl hw | exact Sat.front 11 rfl hw | exact heldRd (RdL.own 0 rfl w hw) | exact heldRd (RdL.own 1 rfl w hw) | exact heldRd (RdL.own 2 rfl w hw) | exact heldRd (RdL.own 3 rfl w hw) | exact heldRd (RdL.own 4 rfl w hw) | exact heldRd (RdL.own 5 rfl w hw) | exact heldRd (RdL.own 6 rfl w hw) | exact heldRd (RdL.own 7 rfl w hw) | exact heldRd (RdL.own 8 rfl w hw) | exact heldRd (RdL.own 9 rfl w hw) | exact heldRd (RdL.own 10 rfl w hw) | exact heldRd (RdL.own 11 rfl w hw) | (rw [length_marks]; omega) | exact RdL.boxM 1 rfl rfl w hw | exact RdL.boxM 2 rfl rfl w hw | exact RdL.boxM 3 rfl rfl w hw | exact okP_size (by assumption)) (by first | assumption | omega | exact RdL.old (by assumption) w hw | exact RdL.own 0 rfl w hw | exact RdL.own 1 rfl w hw | exact RdL.own 2 rfl w hw | exact RdL.own 3 rfl w hw | exact RdL.own 4 rfl w hw | exact RdL.own 5 rfl w hw | exact RdL.own 6 rfl w hw | exact RdL.own 7 rfl w hw | exact RdL.own 8 rfl w hw | exact RdL.own 9 rfl w hw | exact RdL.boxM 0 rfl rfl w hw | exact RdL.own 10 rfl w hw | exact RdL.own 11 rfl w hw | exact Sat.front 0 rfl hw | exact Sat.front 1 rfl hw | exact Sat.front 2 rfl hw | exact Sat.front 3 rfl hw | exact Sat.front 4 rfl hw | exact Sat.front 5 rfl hw | exact Sat.front 6 rfl hw | exact Sat.front 7 rfl hw | exact Sat.front 8 rfl hw | exact Sat.front 9 rfl hw | exact Sat.front 10 rfl hw | exact Sat.front 11 rfl hw | exact heldRd (RdL.own 0 rfl w hw) | exact heldRd (RdL.own 1 rfl w hw) | exact heldRd (RdL.own 2 rfl w hw) | exact heldRd (RdL.own 3 rfl w hw) | exact heldRd (RdL.own 4 rfl w hw) | exact heldRd (RdL.own 5 rfl w hw) | exact heldRd (RdL.own 6 rfl w hw) | exact heldRd (RdL.own 7 rfl w hw) | exact heldRd (RdL.own 8 rfl w hw) | exact heldRd (RdL.own 9 rfl w hw) | exact heldRd (RdL.own 10 rfl w hw) | exact heldRd (RdL.own 11 rfl w hw) | (rw [length_marks]; omega) | exact RdL.boxM 1 rfl rfl w hw | exact RdL.boxM 2 rfl rfl w hw | exact RdL.boxM 3 rfl rfl w hw | exact okP_size (by assumption)) (by first | assumption | omega | exact RdL.old (by assumption) w hw | exact RdL.own 0 rfl w hw | exact RdL.own 1 rfl w hw | exact RdL.own 2 rfl w hw | exact RdL.own 3 rfl w hw | exact RdL.own 4 rfl w hw | exact RdL.own 5 rfl w hw | exact RdL.own 6 rfl w hw | exact RdL.own 7 rfl w hw | exact RdL.own 8 rfl w hw | exact RdL.own 9 rfl w hw | exact RdL.boxM 0 rfl rfl w hw | exact RdL.own 10 rfl w hw | exact RdL.own 11 rfl w hw | exact Sat.front 0 rfl hw | exact Sat.front 1 rfl hw | exact Sat.front 2 rfl hw | exact Sat.front 3 rfl hw | exact Sat.front 4 rfl hw | exact Sat.front 5 rfl hw | exact Sat.front 6 rfl hw | exact Sat.front 7 rfl hw | exact Sat.front 8 rfl hw | exact Sat.front 9 rfl hw | exact Sat.front 10 rfl hw | exact Sat.front 11 rfl hw | exact heldRd (RdL.own 0 rfl w hw) | exact heldRd (RdL.own 1 rfl w hw) | exact heldRd (RdL.own 2 rfl w hw) | exact heldRd (RdL.own 3 rfl w hw) | exact heldRd (RdL.own 4 rfl w hw) | exact heldRd (RdL.own 5 rfl w hw) | exact heldRd (RdL.own 6 rfl w hw) | exact heldRd (RdL.own 7 rfl w hw) | exact heldRd (RdL.own 8 rfl w hw) | exact heldRd (RdL.own 9 rfl w hw) | exact heldRd (RdL.own 10 rfl w hw) | exact heldRd (RdL.own 11 rfl w hw) | (rw [length_marks]; omega) | exact RdL.boxM 1 rfl rfl w hw | exact RdL.boxM 2 rfl rfl w hw | exact RdL.boxM 3 rfl rfl w hw | exact okP_size (by assumption)))) ?_
  refine Any.take 2 rfl (by kernel_rfl) rfl (QOp.call fn58 rfl (fun w hw => f_s_l13Slope w _ _ (by first | assumption | omega | exact RdL.old (by assumption) w hw | exact RdL.own 0 rfl w hw | exact RdL.own 1 rfl w hw | exact RdL.own 2 rfl w hw | exact RdL.own 3 rfl w hw | exact RdL.own 4 rfl w hw | exact RdL.own 5 rfl w hw | exact RdL.own 6 rfl w hw | exact RdL.own 7 rfl w hw | exact RdL.own 8 rfl w hw | exact RdL.own 9 rfl w hw | exact RdL.boxM 0 rfl rfl w hw | exact RdL.own 10 rfl w hw | exact RdL.own 11 rfl w hw | exact Sat.front 0 rfl hw | exact Sat.front 1 rfl hw | exact Sat.front 2 rfl hw | exact Sat.front 3 rfl hw | exact Sat.front 4 rfl hw | exact Sat.front 5 rfl hw | exact Sat.front 6 rfl hw | exact Sat.front 7 rfl hw | exact Sat.front 8 rfl hw | exact Sat.front 9 rfl hw | exact Sat.front 10 rfl hw | exact Sat.front 11 rfl hw | exact heldRd (RdL.own 0 rfl w hw) | exact heldRd (RdL.own 1 rfl w hw) | exact heldRd (RdL.own 2 rfl w hw) | exact heldRd (RdL.own 3 rfl w hw) | exact heldRd (RdL.own 4 rfl w hw) | exact heldRd (RdL.own 5 rfl w hw) | exact heldRd (RdL.own 6 rfl w hw) | exact heldRd (RdL.own 7 rfl w hw) | exact heldRd (RdL.own 8 rfl w hw) | exact heldRd (RdL.own 9 rfl w hw) | exact heldRd (RdL.own 10 rfl w hw) | exact heldRd (RdL.own 11 rfl w hw) | (rw [length_marks]; omega) | exact RdL.boxM 1 rfl rfl w hw | exact RdL.boxM 2 rfl rfl w hw | exact RdL.boxM 3 rfl rfl w hw | exact okP_size (by assumption)))) ?_
  refine Any.take 3 rfl (by kernel_rfl) rfl (QOp.pure (Pure.fieldAddrB fld54_1 rfl)) ?_
  refine Any.take 4 rfl (by kernel_rfl) rfl (QOp.pure (Pure.ldB 0 rfl cell2 rfl rfl)) ?_
  refine Any.take 5 rfl (by kernel_rfl) rfl (QOp.pure (Pure.fieldAddrB fld54_2 rfl)) ?_
  refine Any.take 6 rfl (by kernel_rfl) rfl (QOp.pure (Pure.ldB 0 rfl cell2 rfl rfl)) ?_
  refine Any.take 7 rfl (by kernel_rfl) rfl (QOp.pure (Pure.mul rfl rfl (by omega) (by omega))) ?_
  refine Any.take 8 rfl (by kernel_rfl) rfl (QOp.pure (Pure.eql rfl rfl)) ?_
  refine Any.take 9 rfl (by kernel_rfl) rfl (QOp.pure (Pure.assign rfl)) ?_
  refine Any.done (by kernel_rfl) ?_
  refine Run.ret1 rfl rfl ?_
  rfl

set_option maxRecDepth 4000 in
/-- spec.PassesOver -/
theorem f_s_PassesOver (w : World) (a : Int) (b : Int) (v : Value) (l : List Int) (x : Int) (y : Int) (dx : Int) (dy : Int) (hv : Rd w v 1 l.length (ints l)) (hl : l.length ≤ 1073741824) (a0 : -9223372036854775808 ≤ a) (a1 : a ≤ 9223372036854775807) (b0 : -9223372036854775808 ≤ b) (b1 : b ≤ 9223372036854775807) : RetV Try.prog 35 [.agg #[.int .i64 a, .int .i64 b, v], .agg #[.int .i64 x, .int .i64 y, .int .i64 dx, .int .i64 dy]] w (.tuple #[.bool (poB a b l x y dx dy), .int .i64 (poE a b l x y dx dy)]) := by
  refine Ret.enter Try.func35 rfl Try.ntmps35 rfl ?_
  refine Run.seq ?_
  refine Run.region ?_
  refine Ops.go rfl (Loud.box rfl rfl) ?_
  rintro _ _ ⟨b2, rfl, rfl⟩
  refine Ops.go rfl (Loud.box rfl rfl) ?_
  rintro _ _ ⟨b3, rfl, rfl⟩
  refine Ops.pure rfl (Pure.assign rfl) ?_
  refine Ops.pure rfl (Pure.assign rfl) ?_
  refine Ops.nil ?_
  refine Run.seq ?_
  refine Run.region ?_
  refine Ops.pure rfl (Pure.ldBA 0 rfl cell54 rfl rfl rfl) ?_
  refine Ops.q rfl (QOp.call fn63 rfl (fun w hw => f_s_l03Code w _ _ _ _ _ _ _ _ _ (by first | assumption | omega | exact RdL.old (by assumption) w hw | exact RdL.own 0 rfl w hw | exact RdL.own 1 rfl w hw | exact RdL.own 2 rfl w hw | exact RdL.own 3 rfl w hw | exact RdL.own 4 rfl w hw | exact RdL.own 5 rfl w hw | exact RdL.own 6 rfl w hw | exact RdL.own 7 rfl w hw | exact RdL.own 8 rfl w hw | exact RdL.own 9 rfl w hw | exact RdL.boxM 0 rfl rfl w hw | exact RdL.own 10 rfl w hw | exact RdL.own 11 rfl w hw | exact Sat.front 0 rfl hw | exact Sat.front 1 rfl hw | exact Sat.front 2 rfl hw | exact Sat.front 3 rfl hw | exact Sat.front 4 rfl hw | exact Sat.front 5 rfl hw | exact Sat.front 6 rfl hw | exact Sat.front 7 rfl hw | exact Sat.front 8 rfl hw | exact Sat.front 9 rfl hw | exact Sat.front 10 rfl hw | exact Sat.front 11 rfl hw | exact heldRd (RdL.own 0 rfl w hw) | exact heldRd (RdL.own 1 rfl w hw) | exact heldRd (RdL.own 2 rfl w hw) | exact heldRd (RdL.own 3 rfl w hw) | exact heldRd (RdL.own 4 rfl w hw) | exact heldRd (RdL.own 5 rfl w hw) | exact heldRd (RdL.own 6 rfl w hw) | exact heldRd (RdL.own 7 rfl w hw) | exact heldRd (RdL.own 8 rfl w hw) | exact heldRd (RdL.own 9 rfl w hw) | exact heldRd (RdL.own 10 rfl w hw) | exact heldRd (RdL.own 11 rfl w hw) | (rw [length_marks]; omega) | exact RdL.boxM 1 rfl rfl w hw | exact RdL.boxM 2 rfl rfl w hw | exact RdL.boxM 3 rfl rfl w hw | exact okP_size (by assumption)) (by first | assumption | omega | exact RdL.old (by assumption) w hw | exact RdL.own 0 rfl w hw | exact RdL.own 1 rfl w hw | exact RdL.own 2 rfl w hw | exact RdL.own 3 rfl w hw | exact RdL.own 4 rfl w hw | exact RdL.own 5 rfl w hw | exact RdL.own 6 rfl w hw | exact RdL.own 7 rfl w hw | exact RdL.own 8 rfl w hw | exact RdL.own 9 rfl w hw | exact RdL.boxM 0 rfl rfl w hw | exact RdL.own 10 rfl w hw | exact RdL.own 11 rfl w hw | exact Sat.front 0 rfl hw | exact Sat.front 1 rfl hw | exact Sat.front 2 rfl hw | exact Sat.front 3 rfl hw | exact Sat.front 4 rfl hw | exact Sat.front 5 rfl hw | exact Sat.front 6 rfl hw | exact Sat.front 7 rfl hw | exact Sat.front 8 rfl hw | exact Sat.front 9 rfl hw | exact Sat.front 10 rfl hw | exact Sat.front 11 rfl hw | exact heldRd (RdL.own 0 rfl w hw) | exact heldRd (RdL.own 1 rfl w hw) | exact heldRd (RdL.own 2 rfl w hw) | exact heldRd (RdL.own 3 rfl w hw) | exact heldRd (RdL.own 4 rfl w hw) | exact heldRd (RdL.own 5 rfl w hw) | exact heldRd (RdL.own 6 rfl w hw) | exact heldRd (RdL.own 7 rfl w hw) | exact heldRd (RdL.own 8 rfl w hw) | exact heldRd (RdL.own 9 rfl w hw) | exact heldRd (RdL.own 10 rfl w hw) | exact heldRd (RdL.own 11 rfl w hw) | (rw [length_marks]; omega) | exact RdL.boxM 1 rfl rfl w hw | exact RdL.boxM 2 rfl rfl w hw | exact RdL.boxM 3 rfl rfl w hw | exact okP_size (by assumption)) (by first | assumption | omega | exact RdL.old (by assumption) w hw | exact RdL.own 0 rfl w hw | exact RdL.own 1 rfl w hw | exact RdL.own 2 rfl w hw | exact RdL.own 3 rfl w hw | exact RdL.own 4 rfl w hw | exact RdL.own 5 rfl w hw | exact RdL.own 6 rfl w hw | exact RdL.own 7 rfl w hw | exact RdL.own 8 rfl w hw | exact RdL.own 9 rfl w hw | exact RdL.boxM 0 rfl rfl w hw | exact RdL.own 10 rfl w hw | exact RdL.own 11 rfl w hw | exact Sat.front 0 rfl hw | exact Sat.front 1 rfl hw | exact Sat.front 2 rfl hw | exact Sat.front 3 rfl hw | exact Sat.front 4 rfl hw | exact Sat.front 5 rfl hw | exact Sat.front 6 rfl hw | exact Sat.front 7 rfl hw | exact Sat.front 8 rfl hw | exact Sat.front 9 rfl hw | exact Sat.front 10 rfl hw | exact Sat.front 11 rfl hw | exact heldRd (RdL.own 0 rfl w hw) | exact heldRd (RdL.own 1 rfl w hw) | exact heldRd (RdL.own 2 rfl w hw) | exact heldRd (RdL.own 3 rfl w hw) | exact heldRd (RdL.own 4 rfl w hw) | exact heldRd (RdL.own 5 rfl w hw) | exact heldRd (RdL.own 6 rfl w hw) | exact heldRd (RdL.own 7 rfl w hw) | exact heldRd (RdL.own 8 rfl w hw) | exact heldRd (RdL.own 9 rfl w hw) | exact heldRd (RdL.own 10 rfl w hw) | exact heldRd (RdL.own 11 rfl w hw) | (rw [length_marks]; omega) | exact RdL.boxM 1 rfl rfl w hw | exact RdL.boxM 2 rfl rfl w hw | exact RdL.boxM 3 rfl rfl w hw | exact okP_size (by assumption)) (by first | assumption | omega | exact RdL.old (by assumption) w hw | exact RdL.own 0 rfl w hw | exact RdL.own 1 rfl w hw | exact RdL.own 2 rfl w hw | exact RdL.own 3 rfl w hw | exact RdL.own 4 rfl w hw | exact RdL.own 5 rfl w hw | exact RdL.own 6 rfl w hw | exact RdL.own 7 rfl w hw | exact RdL.own 8 rfl w hw | exact RdL.own 9 rfl w hw | exact RdL.boxM 0 rfl rfl w hw | exact RdL.own 10 rfl w hw | exact RdL.own 11 rfl w hw | exact Sat.front 0 rfl hw | exact Sat.front 1 rfl hw | exact Sat.front 2 rfl hw | exact Sat.front 3 rfl hw | exact Sat.front 4 rfl hw | exact Sat.front 5 rfl hw | exact Sat.front 6 rfl hw | exact Sat.front 7 rfl hw | exact Sat.front 8 rfl hw | exact Sat.front 9 rfl hw | exact Sat.front 10 rfl hw | exact Sat.front 11 rfl hw | exact heldRd (RdL.own 0 rfl w hw) | exact heldRd (RdL.own 1 rfl w hw) | exact heldRd (RdL.own 2 rfl w hw) | exact heldRd (RdL.own 3 rfl w hw) | exact heldRd (RdL.own 4 rfl w hw) | exact heldRd (RdL.own 5 rfl w hw) | exact heldRd (RdL.own 6 rfl w hw) | exact heldRd (RdL.own 7 rfl w hw) | exact heldRd (RdL.own 8 rfl w hw) | exact heldRd (RdL.own 9 rfl w hw) | exact heldRd (RdL.own 10 rfl w hw) | exact heldRd (RdL.own 11 rfl w hw) | (rw [length_marks]; omega) | exact RdL.boxM 1 rfl rfl w hw | exact RdL.boxM 2 rfl rfl w hw | exact RdL.boxM 3 rfl rfl w hw | exact okP_size (by assumption)) (by first | assumption | omega | exact RdL.old (by assumption) w hw | exact RdL.own 0 rfl w hw | exact RdL.own 1 rfl w hw | exact RdL.own 2 rfl w hw | exact RdL.own 3 rfl w hw | exact RdL.own 4 rfl w hw | exact RdL.own 5 rfl w hw | exact RdL.own 6 rfl w hw | exact RdL.own 7 rfl w hw | exact RdL.own 8 rfl w hw | exact RdL.own 9 rfl w hw | exact RdL.boxM 0 rfl rfl w hw | exact RdL.own 10 rfl w hw | exact RdL.own 11 rfl w hw | exact Sat.front 0 rfl hw | exact Sat.front 1 rfl hw | exact Sat.front 2 rfl hw | exact Sat.front 3 rfl hw | exact Sat.front 4 rfl hw | exact Sat.front 5 rfl hw | exact Sat.front 6 rfl hw | exact Sat.front 7 rfl hw | exact Sat.front 8 rfl hw | exact Sat.front 9 rfl hw | exact Sat.front 10 rfl hw | exact Sat.front 11 rfl hw | exact heldRd (RdL.own 0 rfl w hw) | exact heldRd (RdL.own 1 rfl w hw) | exact heldRd (RdL.own 2 rfl w hw) | exact heldRd (RdL.own 3 rfl w hw) | exact heldRd (RdL.own 4 rfl w hw) | exact heldRd (RdL.own 5 rfl w hw) | exact heldRd (RdL.own 6 rfl w hw) | exact heldRd (RdL.own 7 rfl w hw) | exact heldRd (RdL.own 8 rfl w hw) | exact heldRd (RdL.own 9 rfl w hw) | exact heldRd (RdL.own 10 rfl w hw) | exact heldRd (RdL.own 11 rfl w hw) | (rw [length_marks]; omega) | exact RdL.boxM 1 rfl rfl w hw | exact RdL.boxM 2 rfl rfl w hw | exact RdL.boxM 3 rfl rfl w hw | exact okP_size (by assumption)) (by first | assumption | omega | exact RdL.old (by assumption) w hw | exact RdL.own 0 rfl w hw | exact RdL.own 1 rfl w hw | exact RdL.own 2 rfl w hw | exact RdL.own 3 rfl w hw | exact RdL.own 4 rfl w hw | exact RdL.own 5 rfl w hw | exact RdL.own 6 rfl w hw | exact RdL.own 7 rfl w hw | exact RdL.own 8 rfl w hw | exact RdL.own 9 rfl w hw | exact RdL.boxM 0 rfl rfl w hw | exact RdL.own 10 rfl w hw | exact RdL.own 11 rfl w hw | exact Sat.front 0 rfl hw | exact Sat.front 1 rfl hw | exact Sat.front 2 rfl hw | exact Sat.front 3 rfl hw | exact Sat.front 4 rfl hw | exact Sat.front 5 rfl hw | exact Sat.front 6 rfl hw | exact Sat.front 7 rfl hw | exact Sat.front 8 rfl hw | exact Sat.front 9 rfl hw | exact Sat.front 10 rfl hw | exact Sat.front 11 rfl hw | exact heldRd (RdL.own 0 rfl w hw) | exact heldRd (RdL.own 1 rfl w hw) | exact heldRd (RdL.own 2 rfl w hw) | exact heldRd (RdL.own 3 rfl w hw) | exact heldRd (RdL.own 4 rfl w hw) | exact heldRd (RdL.own 5 rfl w hw) | exact heldRd (RdL.own 6 rfl w hw) | exact heldRd (RdL.own 7 rfl w hw) | exact heldRd (RdL.own 8 rfl w hw) | exact heldRd (RdL.own 9 rfl w hw) | exact heldRd (RdL.own 10 rfl w hw) | exact heldRd (RdL.own 11 rfl w hw) | (rw [length_marks]; omega) | exact RdL.boxM 1 rfl rfl w hw | exact RdL.boxM 2 rfl rfl w hw | exact RdL.boxM 3 rfl rfl w hw | exact okP_size (by assumption)) (by first | assumption | omega | exact RdL.old (by assumption) w hw | exact RdL.own 0 rfl w hw | exact RdL.own 1 rfl w hw | exact RdL.own 2 rfl w hw | exact RdL.own 3 rfl w hw | exact RdL.own 4 rfl w hw | exact RdL.own 5 rfl w hw | exact RdL.own 6 rfl w hw | exact RdL.own 7 rfl w hw | exact RdL.own 8 rfl w hw | exact RdL.own 9 rfl w hw | exact RdL.boxM 0 rfl rfl w hw | exact RdL.own 10 rfl w hw | exact RdL.own 11 rfl w hw | exact Sat.front 0 rfl hw | exact Sat.front 1 rfl hw | exact Sat.front 2 rfl hw | exact Sat.front 3 rfl hw | exact Sat.front 4 rfl hw | exact Sat.front 5 rfl hw | exact Sat.front 6 rfl hw | exact Sat.front 7 rfl hw | exact Sat.front 8 rfl hw | exact Sat.front 9 rfl hw | exact Sat.front 10 rfl hw | exact Sat.front 11 rfl hw | exact heldRd (RdL.own 0 rfl w hw) | exact heldRd (RdL.own 1 rfl w hw) | exact heldRd (RdL.own 2 rfl w hw) | exact heldRd (RdL.own 3 rfl w hw) | exact heldRd (RdL.own 4 rfl w hw) | exact heldRd (RdL.own 5 rfl w hw) | exact heldRd (RdL.own 6 rfl w hw) | exact heldRd (RdL.own 7 rfl w hw) | exact heldRd (RdL.own 8 rfl w hw) | exact heldRd (RdL.own 9 rfl w hw) | exact heldRd (RdL.own 10 rfl w hw) | exact heldRd (RdL.own 11 rfl w hw) | (rw [length_marks]; omega) | exact RdL.boxM 1 rfl rfl w hw | exact RdL.boxM 2 rfl rfl w hw | exact RdL.boxM 3 rfl rfl w hw | exact okP_size (by assumption)))) ?_
  refine Ops.pure rfl (Pure.assign rfl) ?_
  refine Ops.nil ?_
  refine Run.seq ?_
  refine Run.seq ?_
  refine Run.region ?_
  refine Ops.pure rfl (Pure.move rfl) ?_
  refine Ops.pure rfl (Pure.eql rfl rfl) ?_
  refine Ops.pure rfl (Pure.move rfl) ?_
  refine Ops.guard rfl rfl rfl rfl (fun c11 => ?_) (fun c11 => ?_)
  · skip
    have c11' := dT c11
    have hwk := wkE_zero c11'
    have hm := VW_mid (okP_size hwk.1) hwk.2
    have hk := hwk.1
    have hs := okP_size hk
    have hpt := hm.2.2.2.2.2.2.2.2.1
    refine Ops.pure rfl (Pure.ldBA 0 rfl cell54 rfl rfl rfl) ?_
    refine Ops.guardY rfl rfl rfl c11 ?_
    refine Ops.q rfl (QOp.call fn64 rfl (fun w hw => f_s_l03Next w _ _ _ _ (by first | assumption | omega | exact RdL.old (by assumption) w hw | exact RdL.own 0 rfl w hw | exact RdL.own 1 rfl w hw | exact RdL.own 2 rfl w hw | exact RdL.own 3 rfl w hw | exact RdL.own 4 rfl w hw | exact RdL.own 5 rfl w hw | exact RdL.own 6 rfl w hw | exact RdL.own 7 rfl w hw | exact RdL.own 8 rfl w hw | exact RdL.own 9 rfl w hw | exact RdL.boxM 0 rfl rfl w hw | exact RdL.own 10 rfl w hw | exact RdL.own 11 rfl w hw | exact Sat.front 0 rfl hw | exact Sat.front 1 rfl hw | exact Sat.front 2 rfl hw | exact Sat.front 3 rfl hw | exact Sat.front 4 rfl hw | exact Sat.front 5 rfl hw | exact Sat.front 6 rfl hw | exact Sat.front 7 rfl hw | exact Sat.front 8 rfl hw | exact Sat.front 9 rfl hw | exact Sat.front 10 rfl hw | exact Sat.front 11 rfl hw | exact heldRd (RdL.own 0 rfl w hw) | exact heldRd (RdL.own 1 rfl w hw) | exact heldRd (RdL.own 2 rfl w hw) | exact heldRd (RdL.own 3 rfl w hw) | exact heldRd (RdL.own 4 rfl w hw) | exact heldRd (RdL.own 5 rfl w hw) | exact heldRd (RdL.own 6 rfl w hw) | exact heldRd (RdL.own 7 rfl w hw) | exact heldRd (RdL.own 8 rfl w hw) | exact heldRd (RdL.own 9 rfl w hw) | exact heldRd (RdL.own 10 rfl w hw) | exact heldRd (RdL.own 11 rfl w hw) | (rw [length_marks]; omega) | exact RdL.boxM 1 rfl rfl w hw | exact RdL.boxM 2 rfl rfl w hw | exact RdL.boxM 3 rfl rfl w hw | exact okP_size (by assumption)) (by first | assumption | omega | exact RdL.old (by assumption) w hw | exact RdL.own 0 rfl w hw | exact RdL.own 1 rfl w hw | exact RdL.own 2 rfl w hw | exact RdL.own 3 rfl w hw | exact RdL.own 4 rfl w hw | exact RdL.own 5 rfl w hw | exact RdL.own 6 rfl w hw | exact RdL.own 7 rfl w hw | exact RdL.own 8 rfl w hw | exact RdL.own 9 rfl w hw | exact RdL.boxM 0 rfl rfl w hw | exact RdL.own 10 rfl w hw | exact RdL.own 11 rfl w hw | exact Sat.front 0 rfl hw | exact Sat.front 1 rfl hw | exact Sat.front 2 rfl hw | exact Sat.front 3 rfl hw | exact Sat.front 4 rfl hw | exact Sat.front 5 rfl hw | exact Sat.front 6 rfl hw | exact Sat.front 7 rfl hw | exact Sat.front 8 rfl hw | exact Sat.front 9 rfl hw | exact Sat.front 10 rfl hw | exact Sat.front 11 rfl hw | exact heldRd (RdL.own 0 rfl w hw) | exact heldRd (RdL.own 1 rfl w hw) | exact heldRd (RdL.own 2 rfl w hw) | exact heldRd (RdL.own 3 rfl w hw) | exact heldRd (RdL.own 4 rfl w hw) | exact heldRd (RdL.own 5 rfl w hw) | exact heldRd (RdL.own 6 rfl w hw) | exact heldRd (RdL.own 7 rfl w hw) | exact heldRd (RdL.own 8 rfl w hw) | exact heldRd (RdL.own 9 rfl w hw) | exact heldRd (RdL.own 10 rfl w hw) | exact heldRd (RdL.own 11 rfl w hw) | (rw [length_marks]; omega) | exact RdL.boxM 1 rfl rfl w hw | exact RdL.boxM 2 rfl rfl w hw | exact RdL.boxM 3 rfl rfl w hw | exact okP_size (by assumption)) (by first | assumption | omega | exact RdL.old (by assumption) w hw | exact RdL.own 0 rfl w hw | exact RdL.own 1 rfl w hw | exact RdL.own 2 rfl w hw | exact RdL.own 3 rfl w hw | exact RdL.own 4 rfl w hw | exact RdL.own 5 rfl w hw | exact RdL.own 6 rfl w hw | exact RdL.own 7 rfl w hw | exact RdL.own 8 rfl w hw | exact RdL.own 9 rfl w hw | exact RdL.boxM 0 rfl rfl w hw | exact RdL.own 10 rfl w hw | exact RdL.own 11 rfl w hw | exact Sat.front 0 rfl hw | exact Sat.front 1 rfl hw | exact Sat.front 2 rfl hw | exact Sat.front 3 rfl hw | exact Sat.front 4 rfl hw | exact Sat.front 5 rfl hw | exact Sat.front 6 rfl hw | exact Sat.front 7 rfl hw | exact Sat.front 8 rfl hw | exact Sat.front 9 rfl hw | exact Sat.front 10 rfl hw | exact Sat.front 11 rfl hw | exact heldRd (RdL.own 0 rfl w hw) | exact heldRd (RdL.own 1 rfl w hw) | exact heldRd (RdL.own 2 rfl w hw) | exact heldRd (RdL.own 3 rfl w hw) | exact heldRd (RdL.own 4 rfl w hw) | exact heldRd (RdL.own 5 rfl w hw) | exact heldRd (RdL.own 6 rfl w hw) | exact heldRd (RdL.own 7 rfl w hw) | exact heldRd (RdL.own 8 rfl w hw) | exact heldRd (RdL.own 9 rfl w hw) | exact heldRd (RdL.own 10 rfl w hw) | exact heldRd (RdL.own 11 rfl w hw) | (rw [length_marks]; omega) | exact RdL.boxM 1 rfl rfl w hw | exact RdL.boxM 2 rfl rfl w hw | exact RdL.boxM 3 rfl rfl w hw | exact okP_size (by assumption)) (by first | assumption | omega | exact RdL.old (by assumption) w hw | exact RdL.own 0 rfl w hw | exact RdL.own 1 rfl w hw | exact RdL.own 2 rfl w hw | exact RdL.own 3 rfl w hw | exact RdL.own 4 rfl w hw | exact RdL.own 5 rfl w hw | exact RdL.own 6 rfl w hw | exact RdL.own 7 rfl w hw | exact RdL.own 8 rfl w hw | exact RdL.own 9 rfl w hw | exact RdL.boxM 0 rfl rfl w hw | exact RdL.own 10 rfl w hw | exact RdL.own 11 rfl w hw | exact Sat.front 0 rfl hw | exact Sat.front 1 rfl hw | exact Sat.front 2 rfl hw | exact Sat.front 3 rfl hw | exact Sat.front 4 rfl hw | exact Sat.front 5 rfl hw | exact Sat.front 6 rfl hw | exact Sat.front 7 rfl hw | exact Sat.front 8 rfl hw | exact Sat.front 9 rfl hw | exact Sat.front 10 rfl hw | exact Sat.front 11 rfl hw | exact heldRd (RdL.own 0 rfl w hw) | exact heldRd (RdL.own 1 rfl w hw) | exact heldRd (RdL.own 2 rfl w hw) | exact heldRd (RdL.own 3 rfl w hw) | exact heldRd (RdL.own 4 rfl w hw) | exact heldRd (RdL.own 5 rfl w hw) | exact heldRd (RdL.own 6 rfl w hw) | exact heldRd (RdL.own 7 rfl w hw) | exact heldRd (RdL.own 8 rfl w hw) | exact heldRd (RdL.own 9 rfl w hw) | exact heldRd (RdL.own 10 rfl w hw) | exact heldRd (RdL.own 11 rfl w hw) | (rw [length_marks]; omega) | exact RdL.boxM 1 rfl rfl w hw | exact RdL.boxM 2 rfl rfl w hw | exact RdL.boxM 3 rfl rfl w hw | exact okP_size (by assumption)))) ?_
    refine Ops.guardY rfl rfl rfl c11 ?_
    refine Ops.q rfl (QOp.call fn54 rfl (fun w hw => f_s_l13Is w _ _ _ _ _ _ _ (by first | assumption | omega | exact RdL.old (by assumption) w hw | exact RdL.own 0 rfl w hw | exact RdL.own 1 rfl w hw | exact RdL.own 2 rfl w hw | exact RdL.own 3 rfl w hw | exact RdL.own 4 rfl w hw | exact RdL.own 5 rfl w hw | exact RdL.own 6 rfl w hw | exact RdL.own 7 rfl w hw | exact RdL.own 8 rfl w hw | exact RdL.own 9 rfl w hw | exact RdL.boxM 0 rfl rfl w hw | exact RdL.own 10 rfl w hw | exact RdL.own 11 rfl w hw | exact Sat.front 0 rfl hw | exact Sat.front 1 rfl hw | exact Sat.front 2 rfl hw | exact Sat.front 3 rfl hw | exact Sat.front 4 rfl hw | exact Sat.front 5 rfl hw | exact Sat.front 6 rfl hw | exact Sat.front 7 rfl hw | exact Sat.front 8 rfl hw | exact Sat.front 9 rfl hw | exact Sat.front 10 rfl hw | exact Sat.front 11 rfl hw | exact heldRd (RdL.own 0 rfl w hw) | exact heldRd (RdL.own 1 rfl w hw) | exact heldRd (RdL.own 2 rfl w hw) | exact heldRd (RdL.own 3 rfl w hw) | exact heldRd (RdL.own 4 rfl w hw) | exact heldRd (RdL.own 5 rfl w hw) | exact heldRd (RdL.own 6 rfl w hw) | exact heldRd (RdL.own 7 rfl w hw) | exact heldRd (RdL.own 8 rfl w hw) | exact heldRd (RdL.own 9 rfl w hw) | exact heldRd (RdL.own 10 rfl w hw) | exact heldRd (RdL.own 11 rfl w hw) | (rw [length_marks]; omega) | exact RdL.boxM 1 rfl rfl w hw | exact RdL.boxM 2 rfl rfl w hw | exact RdL.boxM 3 rfl rfl w hw | exact okP_size (by assumption)) (by first | assumption | omega | exact RdL.old (by assumption) w hw | exact RdL.own 0 rfl w hw | exact RdL.own 1 rfl w hw | exact RdL.own 2 rfl w hw | exact RdL.own 3 rfl w hw | exact RdL.own 4 rfl w hw | exact RdL.own 5 rfl w hw | exact RdL.own 6 rfl w hw | exact RdL.own 7 rfl w hw | exact RdL.own 8 rfl w hw | exact RdL.own 9 rfl w hw | exact RdL.boxM 0 rfl rfl w hw | exact RdL.own 10 rfl w hw | exact RdL.own 11 rfl w hw | exact Sat.front 0 rfl hw | exact Sat.front 1 rfl hw | exact Sat.front 2 rfl hw | exact Sat.front 3 rfl hw | exact Sat.front 4 rfl hw | exact Sat.front 5 rfl hw | exact Sat.front 6 rfl hw | exact Sat.front 7 rfl hw | exact Sat.front 8 rfl hw | exact Sat.front 9 rfl hw | exact Sat.front 10 rfl hw | exact Sat.front 11 rfl hw | exact heldRd (RdL.own 0 rfl w hw) | exact heldRd (RdL.own 1 rfl w hw) | exact heldRd (RdL.own 2 rfl w hw) | exact heldRd (RdL.own 3 rfl w hw) | exact heldRd (RdL.own 4 rfl w hw) | exact heldRd (RdL.own 5 rfl w hw) | exact heldRd (RdL.own 6 rfl w hw) | exact heldRd (RdL.own 7 rfl w hw) | exact heldRd (RdL.own 8 rfl w hw) | exact heldRd (RdL.own 9 rfl w hw) | exact heldRd (RdL.own 10 rfl w hw) | exact heldRd (RdL.own 11 rfl w hw) | (rw [length_marks]; omega) | exact RdL.boxM 1 rfl rfl w hw | exact RdL.boxM 2 rfl rfl w hw | exact RdL.boxM 3 rfl rfl w hw | exact okP_size (by assumption)) (by first | assumption | omega | exact RdL.old (by assumption) w hw | exact RdL.own 0 rfl w hw | exact RdL.own 1 rfl w hw | exact RdL.own 2 rfl w hw | exact RdL.own 3 rfl w hw | exact RdL.own 4 rfl w hw | exact RdL.own 5 rfl w hw | exact RdL.own 6 rfl w hw | exact RdL.own 7 rfl w hw | exact RdL.own 8 rfl w hw | exact RdL.own 9 rfl w hw | exact RdL.boxM 0 rfl rfl w hw | exact RdL.own 10 rfl w hw | exact RdL.own 11 rfl w hw | exact Sat.front 0 rfl hw | exact Sat.front 1 rfl hw | exact Sat.front 2 rfl hw | exact Sat.front 3 rfl hw | exact Sat.front 4 rfl hw | exact Sat.front 5 rfl hw | exact Sat.front 6 rfl hw | exact Sat.front 7 rfl hw | exact Sat.front 8 rfl hw | exact Sat.front 9 rfl hw | exact Sat.front 10 rfl hw | exact Sat.front 11 rfl hw | exact heldRd (RdL.own 0 rfl w hw) | exact heldRd (RdL.own 1 rfl w hw) | exact heldRd (RdL.own 2 rfl w hw) | exact heldRd (RdL.own 3 rfl w hw) | exact heldRd (RdL.own 4 rfl w hw) | exact heldRd (RdL.own 5 rfl w hw) | exact heldRd (RdL.own 6 rfl w hw) | exact heldRd (RdL.own 7 rfl w hw) | exact heldRd (RdL.own 8 rfl w hw) | exact heldRd (RdL.own 9 rfl w hw) | exact heldRd (RdL.own 10 rfl w hw) | exact heldRd (RdL.own 11 rfl w hw) | (rw [length_marks]; omega) | exact RdL.boxM 1 rfl rfl w hw | exact RdL.boxM 2 rfl rfl w hw | exact RdL.boxM 3 rfl rfl w hw | exact okP_size (by assumption)) (by first | assumption | omega | exact RdL.old (by assumption) w hw | exact RdL.own 0 rfl w hw | exact RdL.own 1 rfl w hw | exact RdL.own 2 rfl w hw | exact RdL.own 3 rfl w hw | exact RdL.own 4 rfl w hw | exact RdL.own 5 rfl w hw | exact RdL.own 6 rfl w hw | exact RdL.own 7 rfl w hw | exact RdL.own 8 rfl w hw | exact RdL.own 9 rfl w hw | exact RdL.boxM 0 rfl rfl w hw | exact RdL.own 10 rfl w hw | exact RdL.own 11 rfl w hw | exact Sat.front 0 rfl hw | exact Sat.front 1 rfl hw | exact Sat.front 2 rfl hw | exact Sat.front 3 rfl hw | exact Sat.front 4 rfl hw | exact Sat.front 5 rfl hw | exact Sat.front 6 rfl hw | exact Sat.front 7 rfl hw | exact Sat.front 8 rfl hw | exact Sat.front 9 rfl hw | exact Sat.front 10 rfl hw | exact Sat.front 11 rfl hw | exact heldRd (RdL.own 0 rfl w hw) | exact heldRd (RdL.own 1 rfl w hw) | exact heldRd (RdL.own 2 rfl w hw) | exact heldRd (RdL.own 3 rfl w hw) | exact heldRd (RdL.own 4 rfl w hw) | exact heldRd (RdL.own 5 rfl w hw) | exact heldRd (RdL.own 6 rfl w hw) | exact heldRd (RdL.own 7 rfl w hw) | exact heldRd (RdL.own 8 rfl w hw) | exact heldRd (RdL.own 9 rfl w hw) | exact heldRd (RdL.own 10 rfl w hw) | exact heldRd (RdL.own 11 rfl w hw) | (rw [length_marks]; omega) | exact RdL.boxM 1 rfl rfl w hw | exact RdL.boxM 2 rfl rfl w hw | exact RdL.boxM 3 rfl rfl w hw | exact okP_size (by assumption)))) ?_
    refine Ops.guardY rfl rfl rfl c11 ?_
    refine Ops.pure rfl (Pure.not rfl) ?_
    refine Ops.pure rfl (Pure.pickT rfl c11 rfl) ?_
    refine Ops.nil ?_
    refine Run.cond rfl (fun c16 => ?_) (fun c16 => ?_)
    · skip
      replace c16 := nT c16
      refine Run.region ?_
      refine Ops.pure rfl (Pure.assign rfl) ?_
      refine Ops.nil ?_
      refine Run.seq ?_
      refine Run.seq ?_
      refine Run.region ?_
      refine Ops.pure rfl (Pure.move rfl) ?_
      refine Ops.pure rfl (Pure.neq rfl rfl) ?_
      refine Ops.nil ?_
      refine Run.condE rfl rfl ?_
      refine Run.seq ?_
      refine Run.region ?_
      refine Ops.pure rfl (Pure.move rfl) ?_
      refine Ops.pure rfl (Pure.assign rfl) ?_
      refine Ops.pure rfl (Pure.assign rfl) ?_
      refine Ops.nil ?_
      refine Run.ret2 rfl rfl rfl ?_
      first
        | (rw [(po_bad (wkE_one c18)).1, (po_bad (wkE_one c18)).2, wkE_bad (wkE_one c18)]; done)
        | (rw [(po_no hwk c16).1, (po_no hwk c16).2]; done)
    · skip
      replace c16 := nF c16
      refine Run.skip ?_
      refine Run.seq ?_
      refine Run.seq ?_
      refine Run.region ?_
      refine Ops.pure rfl (Pure.move rfl) ?_
      refine Ops.pure rfl (Pure.neq rfl rfl) ?_
      refine Ops.nil ?_
      refine Run.cond rfl (fun c18 => ?_) (fun c18 => ?_)
      · skip
        replace c18 := nT c18
        refine Run.seq ?_
        refine Run.region ?_
        refine Ops.pure rfl (Pure.move rfl) ?_
        refine Ops.pure rfl (Pure.assign rfl) ?_
        refine Ops.pure rfl (Pure.assign rfl) ?_
        refine Ops.nil ?_
        refine Run.ret2 rfl rfl rfl ?_
        first
          | (rw [(po_bad (wkE_one c18)).1, (po_bad (wkE_one c18)).2, wkE_bad (wkE_one c18)]; done)
          | (rw [(po_no hwk c16).1, (po_no hwk c16).2]; done)
      · skip
        replace c18 := nF c18
        have hwk2 := wkE_zero c18
        refine Run.skip ?_
        refine Run.seq ?_
        refine Run.region ?_
        refine Ops.pure rfl (Pure.ldBA 0 rfl cell54 rfl rfl rfl) ?_
        refine Ops.q rfl (QOp.call fn65 rfl (fun w hw => f_s_l13Over w a b _ _ _ _ (okP_size hwk2.1) hwk2.2)) ?_
        refine Ops.pure rfl (Pure.assign rfl) ?_
        refine Ops.pure rfl (Pure.assign rfl) ?_
        refine Ops.nil ?_
        refine Run.ret2 rfl rfl rfl ?_
        first
          | (rw [(po_ok hwk2 c16).1, (po_ok hwk2 c16).2]; done)
          | (exfalso; omega)
  · skip
    replace c11 := Bool.eq_false_of_ne c11
    have c11' := dF c11
    refine Ops.guardN rfl rfl rfl rfl (by rw [c11]; decide) ?_
    refine Ops.guardN rfl rfl rfl rfl (by rw [c11]; decide) ?_
    refine Ops.guardN rfl rfl rfl rfl (by rw [c11]; decide) ?_
    refine Ops.pure rfl (Pure.pickF rfl c11 rfl) ?_
    refine Ops.nil ?_
    refine Run.condEF rfl rfl ?_
    refine Run.skip ?_
    refine Run.seq ?_
    refine Run.seq ?_
    refine Run.region ?_
    refine Ops.pure rfl (Pure.move rfl) ?_
    refine Ops.pure rfl (Pure.neq rfl rfl) ?_
    refine Ops.nil ?_
    refine Run.cond rfl (fun c18 => ?_) (fun c18 => ?_)
    · skip
      replace c18 := nT c18
      refine Run.seq ?_
      refine Run.region ?_
      refine Ops.pure rfl (Pure.move rfl) ?_
      refine Ops.pure rfl (Pure.assign rfl) ?_
      refine Ops.pure rfl (Pure.assign rfl) ?_
      refine Ops.nil ?_
      refine Run.ret2 rfl rfl rfl ?_
      first
        | (rw [(po_bad (wkE_one c18)).1, (po_bad (wkE_one c18)).2, wkE_bad (wkE_one c18)]; done)
        | (rw [(po_no hwk c16).1, (po_no hwk c16).2]; done)
    · skip
      replace c18 := nF c18
      have hwk2 := wkE_zero c18
      refine Run.skip ?_
      refine Run.seq ?_
      refine Run.region ?_
      refine Ops.pure rfl (Pure.ldBA 0 rfl cell54 rfl rfl rfl) ?_
      refine Ops.q rfl (QOp.call fn65 rfl (fun w hw => f_s_l13Over w a b _ _ _ _ (okP_size hwk2.1) hwk2.2)) ?_
      refine Ops.pure rfl (Pure.assign rfl) ?_
      refine Ops.pure rfl (Pure.assign rfl) ?_
      refine Ops.nil ?_
      refine Run.ret2 rfl rfl rfl ?_
      first
        | (rw [(po_ok hwk2 c16).1, (po_ok hwk2 c16).2]; done)
        | (exfalso; omega)

set_option maxRecDepth 4000 in
/-- impl.PassesOver -/
theorem f_i_PassesOver (w : World) (a : Int) (b : Int) (v : Value) (l : List Int) (x : Int) (y : Int) (dx : Int) (dy : Int) (hv : Rd w v 1 l.length (ints l)) (hl : l.length ≤ 1073741824) (a0 : -9223372036854775808 ≤ a) (a1 : a ≤ 9223372036854775807) (b0 : -9223372036854775808 ≤ b) (b1 : b ≤ 9223372036854775807) : RetV Try.prog 37 [.agg #[.int .i64 a, .int .i64 b, v], .agg #[.int .i64 x, .int .i64 y, .int .i64 dx, .int .i64 dy]] w (.tuple #[.bool (poB a b l x y dx dy), .int .i64 (poE a b l x y dx dy)]) := by
  refine Ret.enter Try.func37 rfl Try.ntmps37 rfl ?_
  refine Run.seq ?_
  refine Run.region ?_
  refine Ops.go rfl (Loud.box rfl rfl) ?_
  rintro _ _ ⟨b2, rfl, rfl⟩
  refine Ops.go rfl (Loud.box rfl rfl) ?_
  rintro _ _ ⟨b3, rfl, rfl⟩
  refine Ops.pure rfl (Pure.assign rfl) ?_
  refine Ops.pure rfl (Pure.assign rfl) ?_
  refine Ops.nil ?_
  refine Run.seq ?_
  refine Run.seq ?_
  refine Run.region ?_
  refine Ops.pure rfl (Pure.ldBA 1 rfl cell30 rfl rfl rfl) ?_
  refine Ops.pure rfl (Pure.ldBA 0 rfl cell54 rfl rfl rfl) ?_
  refine Ops.q rfl (QOp.call fn66 rfl (fun w hw => f_i_ValidWalker w _ _ _ _ _ _ _ _ (by first | assumption | omega | exact RdL.old (by assumption) w hw | exact RdL.own 0 rfl w hw | exact RdL.own 1 rfl w hw | exact RdL.own 2 rfl w hw | exact RdL.own 3 rfl w hw | exact RdL.own 4 rfl w hw | exact RdL.own 5 rfl w hw | exact RdL.own 6 rfl w hw | exact RdL.own 7 rfl w hw | exact RdL.own 8 rfl w hw | exact RdL.own 9 rfl w hw | exact RdL.boxM 0 rfl rfl w hw | exact RdL.own 10 rfl w hw | exact RdL.own 11 rfl w hw | exact Sat.front 0 rfl hw | exact Sat.front 1 rfl hw | exact Sat.front 2 rfl hw | exact Sat.front 3 rfl hw | exact Sat.front 4 rfl hw | exact Sat.front 5 rfl hw | exact Sat.front 6 rfl hw | exact Sat.front 7 rfl hw | exact Sat.front 8 rfl hw | exact Sat.front 9 rfl hw | exact Sat.front 10 rfl hw | exact Sat.front 11 rfl hw | exact heldRd (RdL.own 0 rfl w hw) | exact heldRd (RdL.own 1 rfl w hw) | exact heldRd (RdL.own 2 rfl w hw) | exact heldRd (RdL.own 3 rfl w hw) | exact heldRd (RdL.own 4 rfl w hw) | exact heldRd (RdL.own 5 rfl w hw) | exact heldRd (RdL.own 6 rfl w hw) | exact heldRd (RdL.own 7 rfl w hw) | exact heldRd (RdL.own 8 rfl w hw) | exact heldRd (RdL.own 9 rfl w hw) | exact heldRd (RdL.own 10 rfl w hw) | exact heldRd (RdL.own 11 rfl w hw) | (rw [length_marks]; omega) | exact RdL.boxM 1 rfl rfl w hw | exact RdL.boxM 2 rfl rfl w hw | exact RdL.boxM 3 rfl rfl w hw | exact okP_size (by assumption)) (by first | assumption | omega | exact RdL.old (by assumption) w hw | exact RdL.own 0 rfl w hw | exact RdL.own 1 rfl w hw | exact RdL.own 2 rfl w hw | exact RdL.own 3 rfl w hw | exact RdL.own 4 rfl w hw | exact RdL.own 5 rfl w hw | exact RdL.own 6 rfl w hw | exact RdL.own 7 rfl w hw | exact RdL.own 8 rfl w hw | exact RdL.own 9 rfl w hw | exact RdL.boxM 0 rfl rfl w hw | exact RdL.own 10 rfl w hw | exact RdL.own 11 rfl w hw | exact Sat.front 0 rfl hw | exact Sat.front 1 rfl hw | exact Sat.front 2 rfl hw | exact Sat.front 3 rfl hw | exact Sat.front 4 rfl hw | exact Sat.front 5 rfl hw | exact Sat.front 6 rfl hw | exact Sat.front 7 rfl hw | exact Sat.front 8 rfl hw | exact Sat.front 9 rfl hw | exact Sat.front 10 rfl hw | exact Sat.front 11 rfl hw | exact heldRd (RdL.own 0 rfl w hw) | exact heldRd (RdL.own 1 rfl w hw) | exact heldRd (RdL.own 2 rfl w hw) | exact heldRd (RdL.own 3 rfl w hw) | exact heldRd (RdL.own 4 rfl w hw) | exact heldRd (RdL.own 5 rfl w hw) | exact heldRd (RdL.own 6 rfl w hw) | exact heldRd (RdL.own 7 rfl w hw) | exact heldRd (RdL.own 8 rfl w hw) | exact heldRd (RdL.own 9 rfl w hw) | exact heldRd (RdL.own 10 rfl w hw) | exact heldRd (RdL.own 11 rfl w hw) | (rw [length_marks]; omega) | exact RdL.boxM 1 rfl rfl w hw | exact RdL.boxM 2 rfl rfl w hw | exact RdL.boxM 3 rfl rfl w hw | exact okP_size (by assumption)) (by first | assumption | omega | exact RdL.old (by assumption) w hw | exact RdL.own 0 rfl w hw | exact RdL.own 1 rfl w hw | exact RdL.own 2 rfl w hw | exact RdL.own 3 rfl w hw | exact RdL.own 4 rfl w hw | exact RdL.own 5 rfl w hw | exact RdL.own 6 rfl w hw | exact RdL.own 7 rfl w hw | exact RdL.own 8 rfl w hw | exact RdL.own 9 rfl w hw | exact RdL.boxM 0 rfl rfl w hw | exact RdL.own 10 rfl w hw | exact RdL.own 11 rfl w hw | exact Sat.front 0 rfl hw | exact Sat.front 1 rfl hw | exact Sat.front 2 rfl hw | exact Sat.front 3 rfl hw | exact Sat.front 4 rfl hw | exact Sat.front 5 rfl hw | exact Sat.front 6 rfl hw | exact Sat.front 7 rfl hw | exact Sat.front 8 rfl hw | exact Sat.front 9 rfl hw | exact Sat.front 10 rfl hw | exact Sat.front 11 rfl hw | exact heldRd (RdL.own 0 rfl w hw) | exact heldRd (RdL.own 1 rfl w hw) | exact heldRd (RdL.own 2 rfl w hw) | exact heldRd (RdL.own 3 rfl w hw) | exact heldRd (RdL.own 4 rfl w hw) | exact heldRd (RdL.own 5 rfl w hw) | exact heldRd (RdL.own 6 rfl w hw) | exact heldRd (RdL.own 7 rfl w hw) | exact heldRd (RdL.own 8 rfl w hw) | exact heldRd (RdL.own 9 rfl w hw) | exact heldRd (RdL.own 10 rfl w hw) | exact heldRd (RdL.own 11 rfl w hw) | (rw [length_marks]; omega) | exact RdL.boxM 1 rfl rfl w hw | exact RdL.boxM 2 rfl rfl w hw | exact RdL.boxM 3 rfl rfl w hw | exact okP_size (by assumption)) (by first | assumption | omega | exact RdL.old (by assumption) w hw | exact RdL.own 0 rfl w hw | exact RdL.own 1 rfl w hw | exact RdL.own 2 rfl w hw | exact RdL.own 3 rfl w hw | exact RdL.own 4 rfl w hw | exact RdL.own 5 rfl w hw | exact RdL.own 6 rfl w hw | exact RdL.own 7 rfl w hw | exact RdL.own 8 rfl w hw | exact RdL.own 9 rfl w hw | exact RdL.boxM 0 rfl rfl w hw | exact RdL.own 10 rfl w hw | exact RdL.own 11 rfl w hw | exact Sat.front 0 rfl hw | exact Sat.front 1 rfl hw | exact Sat.front 2 rfl hw | exact Sat.front 3 rfl hw | exact Sat.front 4 rfl hw | exact Sat.front 5 rfl hw | exact Sat.front 6 rfl hw | exact Sat.front 7 rfl hw | exact Sat.front 8 rfl hw | exact Sat.front 9 rfl hw | exact Sat.front 10 rfl hw | exact Sat.front 11 rfl hw | exact heldRd (RdL.own 0 rfl w hw) | exact heldRd (RdL.own 1 rfl w hw) | exact heldRd (RdL.own 2 rfl w hw) | exact heldRd (RdL.own 3 rfl w hw) | exact heldRd (RdL.own 4 rfl w hw) | exact heldRd (RdL.own 5 rfl w hw) | exact heldRd (RdL.own 6 rfl w hw) | exact heldRd (RdL.own 7 rfl w hw) | exact heldRd (RdL.own 8 rfl w hw) | exact heldRd (RdL.own 9 rfl w hw) | exact heldRd (RdL.own 10 rfl w hw) | exact heldRd (RdL.own 11 rfl w hw) | (rw [length_marks]; omega) | exact RdL.boxM 1 rfl rfl w hw | exact RdL.boxM 2 rfl rfl w hw | exact RdL.boxM 3 rfl rfl w hw | exact okP_size (by assumption)) (by first | assumption | omega | exact RdL.old (by assumption) w hw | exact RdL.own 0 rfl w hw | exact RdL.own 1 rfl w hw | exact RdL.own 2 rfl w hw | exact RdL.own 3 rfl w hw | exact RdL.own 4 rfl w hw | exact RdL.own 5 rfl w hw | exact RdL.own 6 rfl w hw | exact RdL.own 7 rfl w hw | exact RdL.own 8 rfl w hw | exact RdL.own 9 rfl w hw | exact RdL.boxM 0 rfl rfl w hw | exact RdL.own 10 rfl w hw | exact RdL.own 11 rfl w hw | exact Sat.front 0 rfl hw | exact Sat.front 1 rfl hw | exact Sat.front 2 rfl hw | exact Sat.front 3 rfl hw | exact Sat.front 4 rfl hw | exact Sat.front 5 rfl hw | exact Sat.front 6 rfl hw | exact Sat.front 7 rfl hw | exact Sat.front 8 rfl hw | exact Sat.front 9 rfl hw | exact Sat.front 10 rfl hw | exact Sat.front 11 rfl hw | exact heldRd (RdL.own 0 rfl w hw) | exact heldRd (RdL.own 1 rfl w hw) | exact heldRd (RdL.own 2 rfl w hw) | exact heldRd (RdL.own 3 rfl w hw) | exact heldRd (RdL.own 4 rfl w hw) | exact heldRd (RdL.own 5 rfl w hw) | exact heldRd (RdL.own 6 rfl w hw) | exact heldRd (RdL.own 7 rfl w hw) | exact heldRd (RdL.own 8 rfl w hw) | exact heldRd (RdL.own 9 rfl w hw) | exact heldRd (RdL.own 10 rfl w hw) | exact heldRd (RdL.own 11 rfl w hw) | (rw [length_marks]; omega) | exact RdL.boxM 1 rfl rfl w hw | exact RdL.boxM 2 rfl rfl w hw | exact RdL.boxM 3 rfl rfl w hw | exact okP_size (by assumption)) (by first | assumption | omega | exact RdL.old (by assumption) w hw | exact RdL.own 0 rfl w hw | exact RdL.own 1 rfl w hw | exact RdL.own 2 rfl w hw | exact RdL.own 3 rfl w hw | exact RdL.own 4 rfl w hw | exact RdL.own 5 rfl w hw | exact RdL.own 6 rfl w hw | exact RdL.own 7 rfl w hw | exact RdL.own 8 rfl w hw | exact RdL.own 9 rfl w hw | exact RdL.boxM 0 rfl rfl w hw | exact RdL.own 10 rfl w hw | exact RdL.own 11 rfl w hw | exact Sat.front 0 rfl hw | exact Sat.front 1 rfl hw | exact Sat.front 2 rfl hw | exact Sat.front 3 rfl hw | exact Sat.front 4 rfl hw | exact Sat.front 5 rfl hw | exact Sat.front 6 rfl hw | exact Sat.front 7 rfl hw | exact Sat.front 8 rfl hw | exact Sat.front 9 rfl hw | exact Sat.front 10 rfl hw | exact Sat.front 11 rfl hw | exact heldRd (RdL.own 0 rfl w hw) | exact heldRd (RdL.own 1 rfl w hw) | exact heldRd (RdL.own 2 rfl w hw) | exact heldRd (RdL.own 3 rfl w hw) | exact heldRd (RdL.own 4 rfl w hw) | exact heldRd (RdL.own 5 rfl w hw) | exact heldRd (RdL.own 6 rfl w hw) | exact heldRd (RdL.own 7 rfl w hw) | exact heldRd (RdL.own 8 rfl w hw) | exact heldRd (RdL.own 9 rfl w hw) | exact heldRd (RdL.own 10 rfl w hw) | exact heldRd (RdL.own 11 rfl w hw) | (rw [length_marks]; omega) | exact RdL.boxM 1 rfl rfl w hw | exact RdL.boxM 2 rfl rfl w hw | exact RdL.boxM 3 rfl rfl w hw | exact okP_size (by assumption)))) ?_
  refine Ops.pure rfl (Pure.not rfl) ?_
  refine Ops.nil ?_
  refine Run.cond rfl (fun c9 => ?_) (fun c9 => ?_)
  · skip
    replace c9 := nT c9
    refine Run.seq ?_
    refine Run.region ?_
    refine Ops.pure rfl (Pure.assign rfl) ?_
    refine Ops.pure rfl (Pure.assign rfl) ?_
    refine Ops.nil ?_
    refine Run.ret2 rfl rfl rfl ?_
    rw [(po_bad c9).1, (po_bad c9).2]
  · skip
    replace c9 := nF c9
    have hwk := c9
    have hm := VW_mid (okP_size hwk.1) hwk.2
    have hk := hwk.1
    have hs := okP_size hk
    have hpt := hm.2.2.2.2.2.2.2.2.1
    refine Run.skip ?_
    refine Run.seq ?_
    refine Run.seq ?_
    refine Any.start follows ?_
    refine Any.take 0 rfl (by kernel_rfl) rfl (QOp.pure (Pure.ldBA 1 rfl cell30 rfl rfl rfl)) ?_
    refine Any.take 1 rfl (by kernel_rfl) rfl (QOp.pure (Pure.ldBA 0 rfl cell54 rfl rfl rfl)) ?_
    refine Any.take 2 rfl (by kernel_rfl) rfl (QOp.call fn67 rfl (fun w hw => f_i_Walker_next w _ _ _ _ (by first | assumption | omega | exact RdL.old (by assumption) w hw | exact RdL.own 0 rfl w hw | exact RdL.own 1 rfl w hw | exact RdL.own 2 rfl w hw | exact RdL.own 3 rfl w hw | exact RdL.own 4 rfl w hw | exact RdL.own 5 rfl w hw | exact RdL.own 6 rfl w hw | exact RdL.own 7 rfl w hw | exact RdL.own 8 rfl w hw | exact RdL.own 9 rfl w hw | exact RdL.boxM 0 rfl rfl w hw | exact RdL.own 10 rfl w hw | exact RdL.own 11 rfl w hw | exact Sat.front 0 rfl hw | exact Sat.front 1 rfl hw | exact Sat.front 2 rfl hw | exact Sat.front 3 rfl hw | exact Sat.front 4 rfl hw | exact Sat.front 5 rfl hw | exact Sat.front 6 rfl hw | exact Sat.front 7 rfl hw | exact Sat.front 8 rfl hw | exact Sat.front 9 rfl hw | exact Sat.front 10 rfl hw | exact Sat.front 11 rfl hw | exact heldRd (RdL.own 0 rfl w hw) | exact heldRd (RdL.own 1 rfl w hw) | exact heldRd (RdL.own 2 rfl w hw) | exact heldRd (RdL.own 3 rfl w hw) | exact heldRd (RdL.own 4 rfl w hw) | exact heldRd (RdL.own 5 rfl w hw) | exact heldRd (RdL.own 6 rfl w hw) | exact heldRd (RdL.own 7 rfl w hw) | exact heldRd (RdL.own 8 rfl w hw) | exact heldRd (RdL.own 9 rfl w hw) | exact heldRd (RdL.own 10 rfl w hw) | exact heldRd (RdL.own 11 rfl w hw) | (rw [length_marks]; omega) | exact RdL.boxM 1 rfl rfl w hw | exact RdL.boxM 2 rfl rfl w hw | exact RdL.boxM 3 rfl rfl w hw | exact okP_size (by assumption)) (by first | assumption | omega | exact RdL.old (by assumption) w hw | exact RdL.own 0 rfl w hw | exact RdL.own 1 rfl w hw | exact RdL.own 2 rfl w hw | exact RdL.own 3 rfl w hw | exact RdL.own 4 rfl w hw | exact RdL.own 5 rfl w hw | exact RdL.own 6 rfl w hw | exact RdL.own 7 rfl w hw | exact RdL.own 8 rfl w hw | exact RdL.own 9 rfl w hw | exact RdL.boxM 0 rfl rfl w hw | exact RdL.own 10 rfl w hw | exact RdL.own 11 rfl w hw | exact Sat.front 0 rfl hw | exact Sat.front 1 rfl hw | exact Sat.front 2 rfl hw | exact Sat.front 3 rfl hw | exact Sat.front 4 rfl hw | exact Sat.front 5 rfl hw | exact Sat.front 6 rfl hw | exact Sat.front 7 rfl hw | exact Sat.front 8 rfl hw | exact Sat.front 9 rfl hw | exact Sat.front 10 rfl hw | exact Sat.front 11 rfl hw | exact heldRd (RdL.own 0 rfl w hw) | exact heldRd (RdL.own 1 rfl w hw) | exact heldRd (RdL.own 2 rfl w hw) | exact heldRd (RdL.own 3 rfl w hw) | exact heldRd (RdL.own 4 rfl w hw) | exact heldRd (RdL.own 5 rfl w hw) | exact heldRd (RdL.own 6 rfl w hw) | exact heldRd (RdL.own 7 rfl w hw) | exact heldRd (RdL.own 8 rfl w hw) | exact heldRd (RdL.own 9 rfl w hw) | exact heldRd (RdL.own 10 rfl w hw) | exact heldRd (RdL.own 11 rfl w hw) | (rw [length_marks]; omega) | exact RdL.boxM 1 rfl rfl w hw | exact RdL.boxM 2 rfl rfl w hw | exact RdL.boxM 3 rfl rfl w hw | exact okP_size (by assumption)) (by first | assumption | omega | exact RdL.old (by assumption) w hw | exact RdL.own 0 rfl w hw | exact RdL.own 1 rfl w hw | exact RdL.own 2 rfl w hw | exact RdL.own 3 rfl w hw | exact RdL.own 4 rfl w hw | exact RdL.own 5 rfl w hw | exact RdL.own 6 rfl w hw | exact RdL.own 7 rfl w hw | exact RdL.own 8 rfl w hw | exact RdL.own 9 rfl w hw | exact RdL.boxM 0 rfl rfl w hw | exact RdL.own 10 rfl w hw | exact RdL.own 11 rfl w hw | exact Sat.front 0 rfl hw | exact Sat.front 1 rfl hw | exact Sat.front 2 rfl hw | exact Sat.front 3 rfl hw | exact Sat.front 4 rfl hw | exact Sat.front 5 rfl hw | exact Sat.front 6 rfl hw | exact Sat.front 7 rfl hw | exact Sat.front 8 rfl hw | exact Sat.front 9 rfl hw | exact Sat.front 10 rfl hw | exact Sat.front 11 rfl hw | exact heldRd (RdL.own 0 rfl w hw) | exact heldRd (RdL.own 1 rfl w hw) | exact heldRd (RdL.own 2 rfl w hw) | exact heldRd (RdL.own 3 rfl w hw) | exact heldRd (RdL.own 4 rfl w hw) | exact heldRd (RdL.own 5 rfl w hw) | exact heldRd (RdL.own 6 rfl w hw) | exact heldRd (RdL.own 7 rfl w hw) | exact heldRd (RdL.own 8 rfl w hw) | exact heldRd (RdL.own 9 rfl w hw) | exact heldRd (RdL.own 10 rfl w hw) | exact heldRd (RdL.own 11 rfl w hw) | (rw [length_marks]; omega) | exact RdL.boxM 1 rfl rfl w hw | exact RdL.boxM 2 rfl rfl w hw | exact RdL.boxM 3 rfl rfl w hw | exact okP_size (by assumption)) (by first | assumption | omega | exact RdL.old (by assumption) w hw | exact RdL.own 0 rfl w hw | exact RdL.own 1 rfl w hw | exact RdL.own 2 rfl w hw | exact RdL.own 3 rfl w hw | exact RdL.own 4 rfl w hw | exact RdL.own 5 rfl w hw | exact RdL.own 6 rfl w hw | exact RdL.own 7 rfl w hw | exact RdL.own 8 rfl w hw | exact RdL.own 9 rfl w hw | exact RdL.boxM 0 rfl rfl w hw | exact RdL.own 10 rfl w hw | exact RdL.own 11 rfl w hw | exact Sat.front 0 rfl hw | exact Sat.front 1 rfl hw | exact Sat.front 2 rfl hw | exact Sat.front 3 rfl hw | exact Sat.front 4 rfl hw | exact Sat.front 5 rfl hw | exact Sat.front 6 rfl hw | exact Sat.front 7 rfl hw | exact Sat.front 8 rfl hw | exact Sat.front 9 rfl hw | exact Sat.front 10 rfl hw | exact Sat.front 11 rfl hw | exact heldRd (RdL.own 0 rfl w hw) | exact heldRd (RdL.own 1 rfl w hw) | exact heldRd (RdL.own 2 rfl w hw) | exact heldRd (RdL.own 3 rfl w hw) | exact heldRd (RdL.own 4 rfl w hw) | exact heldRd (RdL.own 5 rfl w hw) | exact heldRd (RdL.own 6 rfl w hw) | exact heldRd (RdL.own 7 rfl w hw) | exact heldRd (RdL.own 8 rfl w hw) | exact heldRd (RdL.own 9 rfl w hw) | exact heldRd (RdL.own 10 rfl w hw) | exact heldRd (RdL.own 11 rfl w hw) | (rw [length_marks]; omega) | exact RdL.boxM 1 rfl rfl w hw | exact RdL.boxM 2 rfl rfl w hw | exact RdL.boxM 3 rfl rfl w hw | exact okP_size (by assumption)))) ?_
    refine Any.take 3 rfl (by kernel_rfl) rfl (QOp.call fn56 rfl (fun w hw => f_i_Panel_isCrossing w _ _ _ _ _ _ (by first | assumption | omega | exact RdL.old (by assumption) w hw | exact RdL.own 0 rfl w hw | exact RdL.own 1 rfl w hw | exact RdL.own 2 rfl w hw | exact RdL.own 3 rfl w hw | exact RdL.own 4 rfl w hw | exact RdL.own 5 rfl w hw | exact RdL.own 6 rfl w hw | exact RdL.own 7 rfl w hw | exact RdL.own 8 rfl w hw | exact RdL.own 9 rfl w hw | exact RdL.boxM 0 rfl rfl w hw | exact RdL.own 10 rfl w hw | exact RdL.own 11 rfl w hw | exact Sat.front 0 rfl hw | exact Sat.front 1 rfl hw | exact Sat.front 2 rfl hw | exact Sat.front 3 rfl hw | exact Sat.front 4 rfl hw | exact Sat.front 5 rfl hw | exact Sat.front 6 rfl hw | exact Sat.front 7 rfl hw | exact Sat.front 8 rfl hw | exact Sat.front 9 rfl hw | exact Sat.front 10 rfl hw | exact Sat.front 11 rfl hw | exact heldRd (RdL.own 0 rfl w hw) | exact heldRd (RdL.own 1 rfl w hw) | exact heldRd (RdL.own 2 rfl w hw) | exact heldRd (RdL.own 3 rfl w hw) | exact heldRd (RdL.own 4 rfl w hw) | exact heldRd (RdL.own 5 rfl w hw) | exact heldRd (RdL.own 6 rfl w hw) | exact heldRd (RdL.own 7 rfl w hw) | exact heldRd (RdL.own 8 rfl w hw) | exact heldRd (RdL.own 9 rfl w hw) | exact heldRd (RdL.own 10 rfl w hw) | exact heldRd (RdL.own 11 rfl w hw) | (rw [length_marks]; omega) | exact RdL.boxM 1 rfl rfl w hw | exact RdL.boxM 2 rfl rfl w hw | exact RdL.boxM 3 rfl rfl w hw | exact okP_size (by assumption)) (by first | assumption | omega | exact RdL.old (by assumption) w hw | exact RdL.own 0 rfl w hw | exact RdL.own 1 rfl w hw | exact RdL.own 2 rfl w hw | exact RdL.own 3 rfl w hw | exact RdL.own 4 rfl w hw | exact RdL.own 5 rfl w hw | exact RdL.own 6 rfl w hw | exact RdL.own 7 rfl w hw | exact RdL.own 8 rfl w hw | exact RdL.own 9 rfl w hw | exact RdL.boxM 0 rfl rfl w hw | exact RdL.own 10 rfl w hw | exact RdL.own 11 rfl w hw | exact Sat.front 0 rfl hw | exact Sat.front 1 rfl hw | exact Sat.front 2 rfl hw | exact Sat.front 3 rfl hw | exact Sat.front 4 rfl hw | exact Sat.front 5 rfl hw | exact Sat.front 6 rfl hw | exact Sat.front 7 rfl hw | exact Sat.front 8 rfl hw | exact Sat.front 9 rfl hw | exact Sat.front 10 rfl hw | exact Sat.front 11 rfl hw | exact heldRd (RdL.own 0 rfl w hw) | exact heldRd (RdL.own 1 rfl w hw) | exact heldRd (RdL.own 2 rfl w hw) | exact heldRd (RdL.own 3 rfl w hw) | exact heldRd (RdL.own 4 rfl w hw) | exact heldRd (RdL.own 5 rfl w hw) | exact heldRd (RdL.own 6 rfl w hw) | exact heldRd (RdL.own 7 rfl w hw) | exact heldRd (RdL.own 8 rfl w hw) | exact heldRd (RdL.own 9 rfl w hw) | exact heldRd (RdL.own 10 rfl w hw) | exact heldRd (RdL.own 11 rfl w hw) | (rw [length_marks]; omega) | exact RdL.boxM 1 rfl rfl w hw | exact RdL.boxM 2 rfl rfl w hw | exact RdL.boxM 3 rfl rfl w hw | exact okP_size (by assumption)) (by first | assumption | omega | exact RdL.old (by assumption) w hw | exact RdL.own 0 rfl w hw | exact RdL.own 1 rfl w hw | exact RdL.own 2 rfl w hw | exact RdL.own 3 rfl w hw | exact RdL.own 4 rfl w hw | exact RdL.own 5 rfl w hw | exact RdL.own 6 rfl w hw | exact RdL.own 7 rfl w hw | exact RdL.own 8 rfl w hw | exact RdL.own 9 rfl w hw | exact RdL.boxM 0 rfl rfl w hw | exact RdL.own 10 rfl w hw | exact RdL.own 11 rfl w hw | exact Sat.front 0 rfl hw | exact Sat.front 1 rfl hw | exact Sat.front 2 rfl hw | exact Sat.front 3 rfl hw | exact Sat.front 4 rfl hw | exact Sat.front 5 rfl hw | exact Sat.front 6 rfl hw | exact Sat.front 7 rfl hw | exact Sat.front 8 rfl hw | exact Sat.front 9 rfl hw | exact Sat.front 10 rfl hw | exact Sat.front 11 rfl hw | exact heldRd (RdL.own 0 rfl w hw) | exact heldRd (RdL.own 1 rfl w hw) | exact heldRd (RdL.own 2 rfl w hw) | exact heldRd (RdL.own 3 rfl w hw) | exact heldRd (RdL.own 4 rfl w hw) | exact heldRd (RdL.own 5 rfl w hw) | exact heldRd (RdL.own 6 rfl w hw) | exact heldRd (RdL.own 7 rfl w hw) | exact heldRd (RdL.own 8 rfl w hw) | exact heldRd (RdL.own 9 rfl w hw) | exact heldRd (RdL.own 10 rfl w hw) | exact heldRd (RdL.own 11 rfl w hw) | (rw [length_marks]; omega) | exact RdL.boxM 1 rfl rfl w hw | exact RdL.boxM 2 rfl rfl w hw | exact RdL.boxM 3 rfl rfl w hw | exact okP_size (by assumption)))) ?_
    refine Any.take 4 rfl (by kernel_rfl) rfl (QOp.pure (Pure.not rfl)) ?_
    refine Any.done (by kernel_rfl) ?_
    refine Run.cond rfl (fun c14 => ?_) (fun c14 => ?_)
    · skip
      replace c14 := nT c14
      refine Run.seq ?_
      refine Run.region ?_
      refine Ops.pure rfl (Pure.assign rfl) ?_
      refine Ops.pure rfl (Pure.assign rfl) ?_
      refine Ops.nil ?_
      refine Run.ret2 rfl rfl rfl ?_
      rw [(po_no hwk c14).1, (po_no hwk c14).2]
    · skip
      replace c14 := nF c14
      refine Run.skip ?_
      refine Run.seq ?_
      refine Any.start follows ?_
      refine Any.take 0 rfl (by kernel_rfl) rfl (QOp.pure (Pure.fieldAddrB fld54_1 rfl)) ?_
      refine Any.take 1 rfl (by kernel_rfl) rfl (QOp.pure (Pure.ldB 0 rfl cell2 rfl rfl)) ?_
      refine Any.take 2 rfl (by kernel_rfl) rfl (QOp.pure (Pure.fieldAddrB fld54_2 rfl)) ?_
      refine Any.take 3 rfl (by kernel_rfl) rfl (QOp.pure (Pure.ldB 0 rfl cell2 rfl rfl)) ?_
      refine Any.take 4 rfl (by kernel_rfl) rfl (QOp.pure (Pure.mul rfl rfl (by omega) (by omega))) ?_
      refine Any.take 5 rfl (by kernel_rfl) rfl (QOp.pure (Pure.ldBA 0 rfl cell54 rfl rfl rfl)) ?_
      refine Any.take 6 rfl (by kernel_rfl) rfl (QOp.call fn67 rfl (fun w hw => f_i_Walker_next w _ _ _ _ (by first | assumption | omega | exact RdL.old (by assumption) w hw | exact RdL.own 0 rfl w hw | exact RdL.own 1 rfl w hw | exact RdL.own 2 rfl w hw | exact RdL.own 3 rfl w hw | exact RdL.own 4 rfl w hw | exact RdL.own 5 rfl w hw | exact RdL.own 6 rfl w hw | exact RdL.own 7 rfl w hw | exact RdL.own 8 rfl w hw | exact RdL.own 9 rfl w hw | exact RdL.boxM 0 rfl rfl w hw | exact RdL.own 10 rfl w hw | exact RdL.own 11 rfl w hw | exact Sat.front 0 rfl hw | exact Sat.front 1 rfl hw | exact Sat.front 2 rfl hw | exact Sat.front 3 rfl hw | exact Sat.front 4 rfl hw | exact Sat.front 5 rfl hw | exact Sat.front 6 rfl hw | exact Sat.front 7 rfl hw | exact Sat.front 8 rfl hw | exact Sat.front 9 rfl hw | exact Sat.front 10 rfl hw | exact Sat.front 11 rfl hw | exact heldRd (RdL.own 0 rfl w hw) | exact heldRd (RdL.own 1 rfl w hw) | exact heldRd (RdL.own 2 rfl w hw) | exact heldRd (RdL.own 3 rfl w hw) | exact heldRd (RdL.own 4 rfl w hw) | exact heldRd (RdL.own 5 rfl w hw) | exact heldRd (RdL.own 6 rfl w hw) | exact heldRd (RdL.own 7 rfl w hw) | exact heldRd (RdL.own 8 rfl w hw) | exact heldRd (RdL.own 9 rfl w hw) | exact heldRd (RdL.own 10 rfl w hw) | exact heldRd (RdL.own 11 rfl w hw) | (rw [length_marks]; omega) | exact RdL.boxM 1 rfl rfl w hw | exact RdL.boxM 2 rfl rfl w hw | exact RdL.boxM 3 rfl rfl w hw | exact okP_size (by assumption)) (by first | assumption | omega | exact RdL.old (by assumption) w hw | exact RdL.own 0 rfl w hw | exact RdL.own 1 rfl w hw | exact RdL.own 2 rfl w hw | exact RdL.own 3 rfl w hw | exact RdL.own 4 rfl w hw | exact RdL.own 5 rfl w hw | exact RdL.own 6 rfl w hw | exact RdL.own 7 rfl w hw | exact RdL.own 8 rfl w hw | exact RdL.own 9 rfl w hw | exact RdL.boxM 0 rfl rfl w hw | exact RdL.own 10 rfl w hw | exact RdL.own 11 rfl w hw | exact Sat.front 0 rfl hw | exact Sat.front 1 rfl hw | exact Sat.front 2 rfl hw | exact Sat.front 3 rfl hw | exact Sat.front 4 rfl hw | exact Sat.front 5 rfl hw | exact Sat.front 6 rfl hw | exact Sat.front 7 rfl hw | exact Sat.front 8 rfl hw | exact Sat.front 9 rfl hw | exact Sat.front 10 rfl hw | exact Sat.front 11 rfl hw | exact heldRd (RdL.own 0 rfl w hw) | exact heldRd (RdL.own 1 rfl w hw) | exact heldRd (RdL.own 2 rfl w hw) | exact heldRd (RdL.own 3 rfl w hw) | exact heldRd (RdL.own 4 rfl w hw) | exact heldRd (RdL.own 5 rfl w hw) | exact heldRd (RdL.own 6 rfl w hw) | exact heldRd (RdL.own 7 rfl w hw) | exact heldRd (RdL.own 8 rfl w hw) | exact heldRd (RdL.own 9 rfl w hw) | exact heldRd (RdL.own 10 rfl w hw) | exact heldRd (RdL.own 11 rfl w hw) | (rw [length_marks]; omega) | exact RdL.boxM 1 rfl rfl w hw | exact RdL.boxM 2 rfl rfl w hw | exact RdL.boxM 3 rfl rfl w hw | exact okP_size (by assumption)) (by first | assumption | omega | exact RdL.old (by assumption) w hw | exact RdL.own 0 rfl w hw | exact RdL.own 1 rfl w hw | exact RdL.own 2 rfl w hw | exact RdL.own 3 rfl w hw | exact RdL.own 4 rfl w hw | exact RdL.own 5 rfl w hw | exact RdL.own 6 rfl w hw | exact RdL.own 7 rfl w hw | exact RdL.own 8 rfl w hw | exact RdL.own 9 rfl w hw | exact RdL.boxM 0 rfl rfl w hw | exact RdL.own 10 rfl w hw | exact RdL.own 11 rfl w hw | exact Sat.front 0 rfl hw | exact Sat.front 1 rfl hw | exact Sat.front 2 rfl hw | exact Sat.front 3 rfl hw | exact Sat.front 4 rfl hw | exact Sat.front 5 rfl hw | exact Sat.front 6 rfl hw | exact Sat.front 7 rfl hw | exact Sat.front 8 rfl hw | exact Sat.front 9 rfl hw | exact Sat.front 10 rfl hw | exact Sat.front 11 rfl hw | exact heldRd (RdL.own 0 rfl w hw) | exact heldRd (RdL.own 1 rfl w hw) | exact heldRd (RdL.own 2 rfl w hw) | exact heldRd (RdL.own 3 rfl w hw) | exact heldRd (RdL.own 4 rfl w hw) | exact heldRd (RdL.own 5 rfl w hw) | exact heldRd (RdL.own 6 rfl w hw) | exact heldRd (RdL.own 7 rfl w hw) | exact heldRd (RdL.own 8 rfl w hw) | exact heldRd (RdL.own 9 rfl w hw) | exact heldRd (RdL.own 10 rfl w hw) | exact heldRd (RdL.own 11 rfl w hw) | (rw [length_marks]; omega) | exact RdL.boxM 1 rfl rfl w hw | exact RdL.boxM 2 rfl rfl w hw | exact RdL.boxM 3 rfl rfl w hw | exact okP_size (by assumption)) (by first | assumption | omega | exact RdL.old (by assumption) w hw | exact RdL.own 0 rfl w hw | exact RdL.own 1 rfl w hw | exact RdL.own 2 rfl w hw | exact RdL.own 3 rfl w hw | exact RdL.own 4 rfl w hw | exact RdL.own 5 rfl w hw | exact RdL.own 6 rfl w hw | exact RdL.own 7 rfl w hw | exact RdL.own 8 rfl w hw | exact RdL.own 9 rfl w hw | exact RdL.boxM 0 rfl rfl w hw | exact RdL.own 10 rfl w hw | exact RdL.own 11 rfl w hw | exact Sat.front 0 rfl hw | exact Sat.front 1 rfl hw | exact Sat.front 2 rfl hw | exact Sat.front 3 rfl hw | exact Sat.front 4 rfl hw | exact Sat.front 5 rfl hw | exact Sat.front 6 rfl hw | exact Sat.front 7 rfl hw | exact Sat.front 8 rfl hw | exact Sat.front 9 rfl hw | exact Sat.front 10 rfl hw | exact Sat.front 11 rfl hw | exact heldRd (RdL.own 0 rfl w hw) | exact heldRd (RdL.own 1 rfl w hw) | exact heldRd (RdL.own 2 rfl w hw) | exact heldRd (RdL.own 3 rfl w hw) | exact heldRd (RdL.own 4 rfl w hw) | exact heldRd (RdL.own 5 rfl w hw) | exact heldRd (RdL.own 6 rfl w hw) | exact heldRd (RdL.own 7 rfl w hw) | exact heldRd (RdL.own 8 rfl w hw) | exact heldRd (RdL.own 9 rfl w hw) | exact heldRd (RdL.own 10 rfl w hw) | exact heldRd (RdL.own 11 rfl w hw) | (rw [length_marks]; omega) | exact RdL.boxM 1 rfl rfl w hw | exact RdL.boxM 2 rfl rfl w hw | exact RdL.boxM 3 rfl rfl w hw | exact okP_size (by assumption)))) ?_
      refine Any.take 7 rfl (by kernel_rfl) rfl (QOp.call fn60 rfl (fun w hw => f_i_overSlope w _ _ (by first | assumption | omega | exact RdL.old (by assumption) w hw | exact RdL.own 0 rfl w hw | exact RdL.own 1 rfl w hw | exact RdL.own 2 rfl w hw | exact RdL.own 3 rfl w hw | exact RdL.own 4 rfl w hw | exact RdL.own 5 rfl w hw | exact RdL.own 6 rfl w hw | exact RdL.own 7 rfl w hw | exact RdL.own 8 rfl w hw | exact RdL.own 9 rfl w hw | exact RdL.boxM 0 rfl rfl w hw | exact RdL.own 10 rfl w hw | exact RdL.own 11 rfl w hw | exact Sat.front 0 rfl hw | exact Sat.front 1 rfl hw | exact Sat.front 2 rfl hw | exact Sat.front 3 rfl hw | exact Sat.front 4 rfl hw | exact Sat.front 5 rfl hw | exact Sat.front 6 rfl hw | exact Sat.front 7 rfl hw | exact Sat.front 8 rfl hw | exact Sat.front 9 rfl hw | exact Sat.front 10 rfl hw | exact Sat.front 11 rfl hw | exact heldRd (RdL.own 0 rfl w hw) | exact heldRd (RdL.own 1 rfl w hw) | exact heldRd (RdL.own 2 rfl w hw) | exact heldRd (RdL.own 3 rfl w hw) | exact heldRd (RdL.own 4 rfl w hw) | exact heldRd (RdL.own 5 rfl w hw) | exact heldRd (RdL.own 6 rfl w hw) | exact heldRd (RdL.own 7 rfl w hw) | exact heldRd (RdL.own 8 rfl w hw) | exact heldRd (RdL.own 9 rfl w hw) | exact heldRd (RdL.own 10 rfl w hw) | exact heldRd (RdL.own 11 rfl w hw) | (rw [length_marks]; omega) | exact RdL.boxM 1 rfl rfl w hw | exact RdL.boxM 2 rfl rfl w hw | exact RdL.boxM 3 rfl rfl w hw | exact okP_size (by assumption)))) ?_
      refine Any.take 8 rfl (by kernel_rfl) rfl (QOp.pure (Pure.eql rfl rfl)) ?_
      refine Any.take 9 rfl (by kernel_rfl) rfl (QOp.pure (Pure.assign rfl)) ?_
      refine Any.take 10 rfl (by kernel_rfl) rfl (QOp.pure (Pure.assign rfl)) ?_
      refine Any.done (by kernel_rfl) ?_
      refine Run.ret2 rfl rfl rfl ?_
      rw [(po_ok hwk c14).1, (po_ok hwk c14).2, decide_eq_decide.2 (eq_comm)]

set_option maxRecDepth 4000 in
/-- laws.toWalker -/
theorem f_l_toWalker (w : World) (x : Int) (y : Int) (dx : Int) (dy : Int) : RetV Try.prog 36 [.agg #[.int .i64 x, .int .i64 y, .int .i64 dx, .int .i64 dy]] w (.agg #[.int .i64 x, .int .i64 y, .int .i64 dx, .int .i64 dy]) := by
  refine Ret.enter Try.func36 rfl Try.ntmps36 rfl ?_
  refine Run.seq ?_
  refine Run.region ?_
  refine Ops.go rfl (Loud.box rfl rfl) ?_
  rintro _ _ ⟨b1, rfl, rfl⟩
  refine Ops.go rfl (Loud.alloc zero54 rfl) ?_
  rintro _ _ ⟨b2, rfl, rfl⟩
  refine Ops.nil ?_
  refine Run.seq ?_
  refine Run.region ?_
  refine Ops.go rfl (Loud.alloc zero54 rfl) ?_
  rintro _ _ ⟨b3, rfl, rfl⟩
  refine Ops.nil ?_
  refine Run.seq ?_
  refine Run.region ?_
  refine Ops.pure rfl (Pure.fieldAddrB fld50_0 rfl) ?_
  refine Ops.pure rfl (Pure.ldBA 2 rfl cell43 rfl rfl rfl) ?_
  refine Ops.q rfl (QOp.call fn29 rfl (fun w hw => f_l_toPoint w _ _)) ?_
  refine Ops.pure rfl (Pure.fieldAddrB fld54_0 rfl) ?_
  refine Ops.store (Stores.box 0 rfl rfl rfl size45 (allOne rfl) rfl rfl) ?_
  refine Ops.nil ?_
  refine Run.seq ?_
  refine Run.region ?_
  refine Ops.pure rfl (Pure.fieldAddrB fld50_1 rfl) ?_
  refine Ops.pure rfl (Pure.ldB 2 rfl cell2 rfl rfl) ?_
  refine Ops.pure rfl (Pure.fieldAddrB fld54_1 rfl) ?_
  refine Ops.store (Stores.box 0 rfl rfl rfl size2 (allOne rfl) rfl rfl) ?_
  refine Ops.nil ?_
  refine Run.seq ?_
  refine Run.region ?_
  refine Ops.pure rfl (Pure.fieldAddrB fld50_2 rfl) ?_
  refine Ops.pure rfl (Pure.ldB 2 rfl cell2 rfl rfl) ?_
  refine Ops.pure rfl (Pure.fieldAddrB fld54_2 rfl) ?_
  refine Ops.store (Stores.box 0 rfl rfl rfl size2 (allOne rfl) rfl rfl) ?_
  refine Ops.nil ?_
  refine Run.seq ?_
  refine Run.region ?_
  refine Ops.pure rfl (Pure.ldBA 0 rfl cell54 rfl rfl rfl) ?_
  refine Ops.store (Stores.box 1 rfl rfl rfl size54 (allOne rfl) rfl rfl) ?_
  refine Ops.nil ?_
  refine Run.retC 1 rfl rfl rfl cell54 rfl ?_
  rfl

set_option maxRecDepth 4000 in
/-- laws.FnExactPassesOver -/
theorem f_l_FnExactPassesOver (w : World) (al : Int) (bl : Int) (vl : Value) (l : List Int) (xq : Int) (yq : Int) (dxq : Int) (dyq : Int) (hsl : Rd w vl 1 l.length (ints l)) (hal : l.length ≤ 9223372036854775807) (ha0l : -9223372036854775808 ≤ al) (ha1l : al ≤ 9223372036854775807) (hb0l : -9223372036854775808 ≤ bl) (hb1l : bl ≤ 9223372036854775807) (hx0q : -9223372036854775808 ≤ xq) (hx1q : xq ≤ 9223372036854775807) (hy0q : -9223372036854775808 ≤ yq) (hy1q : yq ≤ 9223372036854775807) (hdx0q : -9223372036854775808 ≤ dxq) (hdx1q : dxq ≤ 9223372036854775807) (hdy0q : -9223372036854775808 ≤ dyq) (hdy1q : dyq ≤ 9223372036854775807) : RetV Try.prog 10 [.agg #[.int .i64 al, .int .i64 bl, vl], .agg #[.int .i64 xq, .int .i64 yq, .int .i64 dxq, .int .i64 dyq]] w (.bool true) := by
  refine Ret.enter Try.func10 rfl Try.ntmps10 rfl ?_
  refine Run.seq ?_
  refine Run.region ?_
  refine Ops.go rfl (Loud.box rfl rfl) ?_
  rintro _ _ ⟨b2, rfl, rfl⟩
  refine Ops.go rfl (Loud.box rfl rfl) ?_
  rintro _ _ ⟨b3, rfl, rfl⟩
  refine Ops.pure rfl (Pure.assign rfl) ?_
  refine Ops.nil ?_
  refine Run.seq ?_
  refine Run.region ?_
  refine Ops.pure rfl (Pure.assign rfl) ?_
  refine Ops.nil ?_
  refine Run.seq ?_
  refine Run.region ?_
  refine Ops.pure rfl (Pure.ldBA 1 rfl cell27 rfl rfl rfl) ?_
  refine Ops.pure rfl (Pure.move rfl) ?_
  refine Ops.q rfl (QOp.call fn14 rfl (fun w hw => f_l_szPanel w _ _ _ _ _ (by first | assumption | omega | exact RdL.old (by assumption) w hw | exact RdL.own 0 rfl w hw | exact RdL.own 1 rfl w hw | exact RdL.own 2 rfl w hw | exact RdL.own 3 rfl w hw | exact RdL.own 4 rfl w hw | exact RdL.own 5 rfl w hw | exact RdL.own 6 rfl w hw | exact RdL.own 7 rfl w hw | exact RdL.own 8 rfl w hw | exact RdL.own 9 rfl w hw | exact RdL.boxM 0 rfl rfl w hw | exact RdL.own 10 rfl w hw | exact RdL.own 11 rfl w hw | exact Sat.front 0 rfl hw | exact Sat.front 1 rfl hw | exact Sat.front 2 rfl hw | exact Sat.front 3 rfl hw | exact Sat.front 4 rfl hw | exact Sat.front 5 rfl hw | exact Sat.front 6 rfl hw | exact Sat.front 7 rfl hw | exact Sat.front 8 rfl hw | exact Sat.front 9 rfl hw | exact Sat.front 10 rfl hw | exact Sat.front 11 rfl hw | exact heldRd (RdL.own 0 rfl w hw) | exact heldRd (RdL.own 1 rfl w hw) | exact heldRd (RdL.own 2 rfl w hw) | exact heldRd (RdL.own 3 rfl w hw) | exact heldRd (RdL.own 4 rfl w hw) | exact heldRd (RdL.own 5 rfl w hw) | exact heldRd (RdL.own 6 rfl w hw) | exact heldRd (RdL.own 7 rfl w hw) | exact heldRd (RdL.own 8 rfl w hw) | exact heldRd (RdL.own 9 rfl w hw) | exact heldRd (RdL.own 10 rfl w hw) | exact heldRd (RdL.own 11 rfl w hw) | (rw [length_marks]; omega) | exact RdL.boxM 1 rfl rfl w hw | exact RdL.boxM 2 rfl rfl w hw | exact RdL.boxM 3 rfl rfl w hw | exact okP_size (by assumption)) (by first | assumption | omega | exact RdL.old (by assumption) w hw | exact RdL.own 0 rfl w hw | exact RdL.own 1 rfl w hw | exact RdL.own 2 rfl w hw | exact RdL.own 3 rfl w hw | exact RdL.own 4 rfl w hw | exact RdL.own 5 rfl w hw | exact RdL.own 6 rfl w hw | exact RdL.own 7 rfl w hw | exact RdL.own 8 rfl w hw | exact RdL.own 9 rfl w hw | exact RdL.boxM 0 rfl rfl w hw | exact RdL.own 10 rfl w hw | exact RdL.own 11 rfl w hw | exact Sat.front 0 rfl hw | exact Sat.front 1 rfl hw | exact Sat.front 2 rfl hw | exact Sat.front 3 rfl hw | exact Sat.front 4 rfl hw | exact Sat.front 5 rfl hw | exact Sat.front 6 rfl hw | exact Sat.front 7 rfl hw | exact Sat.front 8 rfl hw | exact Sat.front 9 rfl hw | exact Sat.front 10 rfl hw | exact Sat.front 11 rfl hw | exact heldRd (RdL.own 0 rfl w hw) | exact heldRd (RdL.own 1 rfl w hw) | exact heldRd (RdL.own 2 rfl w hw) | exact heldRd (RdL.own 3 rfl w hw) | exact heldRd (RdL.own 4 rfl w hw) | exact heldRd (RdL.own 5 rfl w hw) | exact heldRd (RdL.own 6 rfl w hw) | exact heldRd (RdL.own 7 rfl w hw) | exact heldRd (RdL.own 8 rfl w hw) | exact heldRd (RdL.own 9 rfl w hw) | exact heldRd (RdL.own 10 rfl w hw) | exact heldRd (RdL.own 11 rfl w hw) | (rw [length_marks]; omega) | exact RdL.boxM 1 rfl rfl w hw | exact RdL.boxM 2 rfl rfl w hw | exact RdL.boxM 3 rfl rfl w hw | exact okP_size (by assumption)) (by first | assumption | omega | exact RdL.old (by assumption) w hw | exact RdL.own 0 rfl w hw | exact RdL.own 1 rfl w hw | exact RdL.own 2 rfl w hw | exact RdL.own 3 rfl w hw | exact RdL.own 4 rfl w hw | exact RdL.own 5 rfl w hw | exact RdL.own 6 rfl w hw | exact RdL.own 7 rfl w hw | exact RdL.own 8 rfl w hw | exact RdL.own 9 rfl w hw | exact RdL.boxM 0 rfl rfl w hw | exact RdL.own 10 rfl w hw | exact RdL.own 11 rfl w hw | exact Sat.front 0 rfl hw | exact Sat.front 1 rfl hw | exact Sat.front 2 rfl hw | exact Sat.front 3 rfl hw | exact Sat.front 4 rfl hw | exact Sat.front 5 rfl hw | exact Sat.front 6 rfl hw | exact Sat.front 7 rfl hw | exact Sat.front 8 rfl hw | exact Sat.front 9 rfl hw | exact Sat.front 10 rfl hw | exact Sat.front 11 rfl hw | exact heldRd (RdL.own 0 rfl w hw) | exact heldRd (RdL.own 1 rfl w hw) | exact heldRd (RdL.own 2 rfl w hw) | exact heldRd (RdL.own 3 rfl w hw) | exact heldRd (RdL.own 4 rfl w hw) | exact heldRd (RdL.own 5 rfl w hw) | exact heldRd (RdL.own 6 rfl w hw) | exact heldRd (RdL.own 7 rfl w hw) | exact heldRd (RdL.own 8 rfl w hw) | exact heldRd (RdL.own 9 rfl w hw) | exact heldRd (RdL.own 10 rfl w hw) | exact heldRd (RdL.own 11 rfl w hw) | (rw [length_marks]; omega) | exact RdL.boxM 1 rfl rfl w hw | exact RdL.boxM 2 rfl rfl w hw | exact RdL.boxM 3 rfl rfl w hw | exact okP_size (by assumption)) (by first | assumption | omega | exact RdL.old (by assumption) w hw | exact RdL.own 0 rfl w hw | exact RdL.own 1 rfl w hw | exact RdL.own 2 rfl w hw | exact RdL.own 3 rfl w hw | exact RdL.own 4 rfl w hw | exact RdL.own 5 rfl w hw | exact RdL.own 6 rfl w hw | exact RdL.own 7 rfl w hw | exact RdL.own 8 rfl w hw | exact RdL.own 9 rfl w hw | exact RdL.boxM 0 rfl rfl w hw | exact RdL.own 10 rfl w hw | exact RdL.own 11 rfl w hw | exact Sat.front 0 rfl hw | exact Sat.front 1 rfl hw | exact Sat.front 2 rfl hw | exact Sat.front 3 rfl hw | exact Sat.front 4 rfl hw | exact Sat.front 5 rfl hw | exact Sat.front 6 rfl hw | exact Sat.front 7 rfl hw | exact Sat.front 8 rfl hw | exact Sat.front 9 rfl hw | exact Sat.front 10 rfl hw | exact Sat.front 11 rfl hw | exact heldRd (RdL.own 0 rfl w hw) | exact heldRd (RdL.own 1 rfl w hw) | exact heldRd (RdL.own 2 rfl w hw) | exact heldRd (RdL.own 3 rfl w hw) | exact heldRd (RdL.own 4 rfl w hw) | exact heldRd (RdL.own 5 rfl w hw) | exact heldRd (RdL.own 6 rfl w hw) | exact heldRd (RdL.own 7 rfl w hw) | exact heldRd (RdL.own 8 rfl w hw) | exact heldRd (RdL.own 9 rfl w hw) | exact heldRd (RdL.own 10 rfl w hw) | exact heldRd (RdL.own 11 rfl w hw) | (rw [length_marks]; omega) | exact RdL.boxM 1 rfl rfl w hw | exact RdL.boxM 2 rfl rfl w hw | exact RdL.boxM 3 rfl rfl w hw | exact okP_size (by assumption)))) ?_
  refine Ops.pure rfl (Pure.assign rfl) ?_
  refine Ops.nil ?_
  refine Run.seq ?_
  refine Run.seq ?_
  by_cases hz0 : (l.length : Int) ≤ 1048576
  · skip
    rw [if_pos hz0]
    refine Run.region ?_
    refine Ops.pure rfl (Pure.move rfl) ?_
    refine Ops.pure rfl (Pure.lss rfl rfl) ?_
    refine Ops.nil ?_
    refine Run.condEF rfl (decide_eq_false (by omega)) ?_
    refine Run.skip ?_
    refine Run.seq ?_
    refine Any.start follows ?_
    refine Any.take 0 rfl (by kernel_rfl) rfl (QOp.pure (Pure.ldBA 1 rfl cell27 rfl rfl rfl)) ?_
    refine Any.take 2 rfl (by kernel_rfl) rfl (QOp.pure (Pure.ldBA 0 rfl cell50 rfl rfl rfl)) ?_
    refine Any.one 1 (by kernel_rfl) ?_
    refine OneL.loud rfl rfl (Loud.callR fn16 rfl (fun w hw => f_l_toPanel w _ _ _ _ (by first | assumption | omega | exact RdL.old (by assumption) w hw | exact RdL.own 0 rfl w hw | exact RdL.own 1 rfl w hw | exact RdL.own 2 rfl w hw | exact RdL.own 3 rfl w hw | exact RdL.own 4 rfl w hw | exact RdL.own 5 rfl w hw | exact RdL.own 6 rfl w hw | exact RdL.own 7 rfl w hw | exact RdL.own 8 rfl w hw | exact RdL.own 9 rfl w hw | exact RdL.boxM 0 rfl rfl w hw | exact RdL.own 10 rfl w hw | exact RdL.own 11 rfl w hw | exact Sat.front 0 rfl hw | exact Sat.front 1 rfl hw | exact Sat.front 2 rfl hw | exact Sat.front 3 rfl hw | exact Sat.front 4 rfl hw | exact Sat.front 5 rfl hw | exact Sat.front 6 rfl hw | exact Sat.front 7 rfl hw | exact Sat.front 8 rfl hw | exact Sat.front 9 rfl hw | exact Sat.front 10 rfl hw | exact Sat.front 11 rfl hw | exact heldRd (RdL.own 0 rfl w hw) | exact heldRd (RdL.own 1 rfl w hw) | exact heldRd (RdL.own 2 rfl w hw) | exact heldRd (RdL.own 3 rfl w hw) | exact heldRd (RdL.own 4 rfl w hw) | exact heldRd (RdL.own 5 rfl w hw) | exact heldRd (RdL.own 6 rfl w hw) | exact heldRd (RdL.own 7 rfl w hw) | exact heldRd (RdL.own 8 rfl w hw) | exact heldRd (RdL.own 9 rfl w hw) | exact heldRd (RdL.own 10 rfl w hw) | exact heldRd (RdL.own 11 rfl w hw) | (rw [length_marks]; omega) | exact RdL.boxM 1 rfl rfl w hw | exact RdL.boxM 2 rfl rfl w hw | exact RdL.boxM 3 rfl rfl w hw | exact okP_size (by assumption)) (by first | assumption | omega | exact RdL.old (by assumption) w hw | exact RdL.own 0 rfl w hw | exact RdL.own 1 rfl w hw | exact RdL.own 2 rfl w hw | exact RdL.own 3 rfl w hw | exact RdL.own 4 rfl w hw | exact RdL.own 5 rfl w hw | exact RdL.own 6 rfl w hw | exact RdL.own 7 rfl w hw | exact RdL.own 8 rfl w hw | exact RdL.own 9 rfl w hw | exact RdL.boxM 0 rfl rfl w hw | exact RdL.own 10 rfl w hw | exact RdL.own 11 rfl w hw | exact Sat.front 0 rfl hw | exact Sat.front 1 rfl hw | exact Sat.front 2 rfl hw | exact Sat.front 3 rfl hw | exact Sat.front 4 rfl hw | exact Sat.front 5 rfl hw | exact Sat.front 6 rfl hw | exact Sat.front 7 rfl hw | exact Sat.front 8 rfl hw | exact Sat.front 9 rfl hw | exact Sat.front 10 rfl hw | exact Sat.front 11 rfl hw | exact heldRd (RdL.own 0 rfl w hw) | exact heldRd (RdL.own 1 rfl w hw) | exact heldRd (RdL.own 2 rfl w hw) | exact heldRd (RdL.own 3 rfl w hw) | exact heldRd (RdL.own 4 rfl w hw) | exact heldRd (RdL.own 5 rfl w hw) | exact heldRd (RdL.own 6 rfl w hw) | exact heldRd (RdL.own 7 rfl w hw) | exact heldRd (RdL.own 8 rfl w hw) | exact heldRd (RdL.own 9 rfl w hw) | exact heldRd (RdL.own 10 rfl w hw) | exact heldRd (RdL.own 11 rfl w hw) | (rw [length_marks]; omega) | exact RdL.boxM 1 rfl rfl w hw | exact RdL.boxM 2 rfl rfl w hw | exact RdL.boxM 3 rfl rfl w hw | exact okP_size (by assumption)))) ?_
    rintro v18 _ ⟨L18, hQ18, rfl⟩
    obtain ⟨x18, h18, rfl, rfl⟩ := hQ18
    refine ⟨.inr (by first | exact Ext.right _ _ | exact Ext.right [_] _ | exact Ext.refl _), ?_⟩
    refine Any.take 3 rfl (by kernel_rfl) rfl (QOp.call fn36 rfl (fun w hw => f_l_toWalker w _ _ _ _)) ?_
    refine Any.take 4 rfl (by kernel_rfl) rfl (QOp.call fn35 rfl (fun w hw => f_s_PassesOver w _ _ _ _ _ _ _ _ (by first | assumption | omega | exact RdL.old (by assumption) w hw | exact RdL.own 0 rfl w hw | exact RdL.own 1 rfl w hw | exact RdL.own 2 rfl w hw | exact RdL.own 3 rfl w hw | exact RdL.own 4 rfl w hw | exact RdL.own 5 rfl w hw | exact RdL.own 6 rfl w hw | exact RdL.own 7 rfl w hw | exact RdL.own 8 rfl w hw | exact RdL.own 9 rfl w hw | exact RdL.boxM 0 rfl rfl w hw | exact RdL.own 10 rfl w hw | exact RdL.own 11 rfl w hw | exact Sat.front 0 rfl hw | exact Sat.front 1 rfl hw | exact Sat.front 2 rfl hw | exact Sat.front 3 rfl hw | exact Sat.front 4 rfl hw | exact Sat.front 5 rfl hw | exact Sat.front 6 rfl hw | exact Sat.front 7 rfl hw | exact Sat.front 8 rfl hw | exact Sat.front 9 rfl hw | exact Sat.front 10 rfl hw | exact Sat.front 11 rfl hw | exact heldRd (RdL.own 0 rfl w hw) | exact heldRd (RdL.own 1 rfl w hw) | exact heldRd (RdL.own 2 rfl w hw) | exact heldRd (RdL.own 3 rfl w hw) | exact heldRd (RdL.own 4 rfl w hw) | exact heldRd (RdL.own 5 rfl w hw) | exact heldRd (RdL.own 6 rfl w hw) | exact heldRd (RdL.own 7 rfl w hw) | exact heldRd (RdL.own 8 rfl w hw) | exact heldRd (RdL.own 9 rfl w hw) | exact heldRd (RdL.own 10 rfl w hw) | exact heldRd (RdL.own 11 rfl w hw) | (rw [length_marks]; omega) | exact RdL.boxM 1 rfl rfl w hw | exact RdL.boxM 2 rfl rfl w hw | exact RdL.boxM 3 rfl rfl w hw | exact okP_size (by assumption)) (by first | assumption | omega | exact RdL.old (by assumption) w hw | exact RdL.own 0 rfl w hw | exact RdL.own 1 rfl w hw | exact RdL.own 2 rfl w hw | exact RdL.own 3 rfl w hw | exact RdL.own 4 rfl w hw | exact RdL.own 5 rfl w hw | exact RdL.own 6 rfl w hw | exact RdL.own 7 rfl w hw | exact RdL.own 8 rfl w hw | exact RdL.own 9 rfl w hw | exact RdL.boxM 0 rfl rfl w hw | exact RdL.own 10 rfl w hw | exact RdL.own 11 rfl w hw | exact Sat.front 0 rfl hw | exact Sat.front 1 rfl hw | exact Sat.front 2 rfl hw | exact Sat.front 3 rfl hw | exact Sat.front 4 rfl hw | exact Sat.front 5 rfl hw | exact Sat.front 6 rfl hw | exact Sat.front 7 rfl hw | exact Sat.front 8 rfl hw | exact Sat.front 9 rfl hw | exact Sat.front 10 rfl hw | exact Sat.front 11 rfl hw | exact heldRd (RdL.own 0 rfl w hw) | exact heldRd (RdL.own 1 rfl w hw) | exact heldRd (RdL.own 2 rfl w hw) | exact heldRd (RdL.own 3 rfl w hw) | exact heldRd (RdL.own 4 rfl w hw) | exact heldRd (RdL.own 5 rfl w hw) | exact heldRd (RdL.own 6 rfl w hw) | exact heldRd (RdL.own 7 rfl w hw) | exact heldRd (RdL.own 8 rfl w hw) | exact heldRd (RdL.own 9 rfl w hw) | exact heldRd (RdL.own 10 rfl w hw) | exact heldRd (RdL.own 11 rfl w hw) | (rw [length_marks]; omega) | exact RdL.boxM 1 rfl rfl w hw | exact RdL.boxM 2 rfl rfl w hw | exact RdL.boxM 3 rfl rfl w hw | exact okP_size (by assumption)) (by first | assumption | omega | exact RdL.old (by assumption) w hw | exact RdL.own 0 rfl w hw | exact RdL.own 1 rfl w hw | exact RdL.own 2 rfl w hw | exact RdL.own 3 rfl w hw | exact RdL.own 4 rfl w hw | exact RdL.own 5 rfl w hw | exact RdL.own 6 rfl w hw | exact RdL.own 7 rfl w hw | exact RdL.own 8 rfl w hw | exact RdL.own 9 rfl w hw | exact RdL.boxM 0 rfl rfl w hw | exact RdL.own 10 rfl w hw | exact RdL.own 11 rfl w hw | exact Sat.front 0 rfl hw | exact Sat.front 1 rfl hw | exact Sat.front 2 rfl hw | exact Sat.front 3 rfl hw | exact Sat.front 4 rfl hw | exact Sat.front 5 rfl hw | exact Sat.front 6 rfl hw | exact Sat.front 7 rfl hw | exact Sat.front 8 rfl hw | exact Sat.front 9 rfl hw | exact Sat.front 10 rfl hw | exact Sat.front 11 rfl hw | exact heldRd (RdL.own 0 rfl w hw) | exact heldRd (RdL.own 1 rfl w hw) | exact heldRd (RdL.own 2 rfl w hw) | exact heldRd (RdL.own 3 rfl w hw) | exact heldRd (RdL.own 4 rfl w hw) | exact heldRd (RdL.own 5 rfl w hw) | exact heldRd (RdL.own 6 rfl w hw) | exact heldRd (RdL.own 7 rfl w hw) | exact heldRd (RdL.own 8 rfl w hw) | exact heldRd (RdL.own 9 rfl w hw) | exact heldRd (RdL.own 10 rfl w hw) | exact heldRd (RdL.own 11 rfl w hw) | (rw [length_marks]; omega) | exact RdL.boxM 1 rfl rfl w hw | exact RdL.boxM 2 rfl rfl w hw | exact RdL.boxM 3 rfl rfl w hw | exact okP_size (by assumption)) (by first | assumption | omega | exact RdL.old (by assumption) w hw | exact RdL.own 0 rfl w hw | exact RdL.own 1 rfl w hw | exact RdL.own 2 rfl w hw | exact RdL.own 3 rfl w hw | exact RdL.own 4 rfl w hw | exact RdL.own 5 rfl w hw | exact RdL.own 6 rfl w hw | exact RdL.own 7 rfl w hw | exact RdL.own 8 rfl w hw | exact RdL.own 9 rfl w hw | exact RdL.boxM 0 rfl rfl w hw | exact RdL.own 10 rfl w hw | exact RdL.own 11 rfl w hw | exact Sat.front 0 rfl hw | exact Sat.front 1 rfl hw | exact Sat.front 2 rfl hw | exact Sat.front 3 rfl hw | exact Sat.front 4 rfl hw | exact Sat.front 5 rfl hw | exact Sat.front 6 rfl hw | exact Sat.front 7 rfl hw | exact Sat.front 8 rfl hw | exact Sat.front 9 rfl hw | exact Sat.front 10 rfl hw | exact Sat.front 11 rfl hw | exact heldRd (RdL.own 0 rfl w hw) | exact heldRd (RdL.own 1 rfl w hw) | exact heldRd (RdL.own 2 rfl w hw) | exact heldRd (RdL.own 3 rfl w hw) | exact heldRd (RdL.own 4 rfl w hw) | exact heldRd (RdL.own 5 rfl w hw) | exact heldRd (RdL.own 6 rfl w hw) | exact heldRd (RdL.own 7 rfl w hw) | exact heldRd (RdL.own 8 rfl w hw) | exact heldRd (RdL.own 9 rfl w hw) | exact heldRd (RdL.own 10 rfl w hw) | exact heldRd (RdL.own 11 rfl w hw) | (rw [length_marks]; omega) | exact RdL.boxM 1 rfl rfl w hw | exact RdL.boxM 2 rfl rfl w hw | exact RdL.boxM 3 rfl rfl w hw | exact okP_size (by assumption)) (by first | assumption | omega | exact RdL.old (by assumption) w hw | exact RdL.own 0 rfl w hw | exact RdL.own 1 rfl w hw | exact RdL.own 2 rfl w hw | exact RdL.own 3 rfl w hw | exact RdL.own 4 rfl w hw | exact RdL.own 5 rfl w hw | exact RdL.own 6 rfl w hw | exact RdL.own 7 rfl w hw | exact RdL.own 8 rfl w hw | exact RdL.own 9 rfl w hw | exact RdL.boxM 0 rfl rfl w hw | exact RdL.own 10 rfl w hw | exact RdL.own 11 rfl w hw | exact Sat.front 0 rfl hw | exact Sat.front 1 rfl hw | exact Sat.front 2 rfl hw | exact Sat.front 3 rfl hw | exact Sat.front 4 rfl hw | exact Sat.front 5 rfl hw | exact Sat.front 6 rfl hw | exact Sat.front 7 rfl hw | exact Sat.front 8 rfl hw | exact Sat.front 9 rfl hw | exact Sat.front 10 rfl hw | exact Sat.front 11 rfl hw | exact heldRd (RdL.own 0 rfl w hw) | exact heldRd (RdL.own 1 rfl w hw) | exact heldRd (RdL.own 2 rfl w hw) | exact heldRd (RdL.own 3 rfl w hw) | exact heldRd (RdL.own 4 rfl w hw) | exact heldRd (RdL.own 5 rfl w hw) | exact heldRd (RdL.own 6 rfl w hw) | exact heldRd (RdL.own 7 rfl w hw) | exact heldRd (RdL.own 8 rfl w hw) | exact heldRd (RdL.own 9 rfl w hw) | exact heldRd (RdL.own 10 rfl w hw) | exact heldRd (RdL.own 11 rfl w hw) | (rw [length_marks]; omega) | exact RdL.boxM 1 rfl rfl w hw | exact RdL.boxM 2 rfl rfl w hw | exact RdL.boxM 3 rfl rfl w hw | exact okP_size (by assumption)) (by first | assumption | omega | exact RdL.old (by assumption) w hw | exact RdL.own 0 rfl w hw | exact RdL.own 1 rfl w hw | exact RdL.own 2 rfl w hw | exact RdL.own 3 rfl w hw | exact RdL.own 4 rfl w hw | exact RdL.own 5 rfl w hw | exact RdL.own 6 rfl w hw | exact RdL.own 7 rfl w hw | exact RdL.own 8 rfl w hw | exact RdL.own 9 rfl w hw | exact RdL.boxM 0 rfl rfl w hw | exact RdL.own 10 rfl w hw | exact RdL.own 11 rfl w hw | exact Sat.front 0 rfl hw | exact Sat.front 1 rfl hw | exact Sat.front 2 rfl hw | exact Sat.front 3 rfl hw | exact Sat.front 4 rfl hw | exact Sat.front 5 rfl hw | exact Sat.front 6 rfl hw | exact Sat.front 7 rfl hw | exact Sat.front 8 rfl hw | exact Sat.front 9 rfl hw | exact Sat.front 10 rfl hw | exact Sat.front 11 rfl hw | exact heldRd (RdL.own 0 rfl w hw) | exact heldRd (RdL.own 1 rfl w hw) | exact heldRd (RdL.own 2 rfl w hw) | exact heldRd (RdL.own 3 rfl w hw) | exact heldRd (RdL.own 4 rfl w hw) | exact heldRd (RdL.own 5 rfl w hw) | exact heldRd (RdL.own 6 rfl w hw) | exact heldRd (RdL.own 7 rfl w hw) | exact heldRd (RdL.own 8 rfl w hw) | exact heldRd (RdL.own 9 rfl w hw) | exact heldRd (RdL.own 10 rfl w hw) | exact heldRd (RdL.own 11 rfl w hw) | (rw [length_marks]; omega) | exact RdL.boxM 1 rfl rfl w hw | exact RdL.boxM 2 rfl rfl w hw | exact RdL.boxM 3 rfl rfl w hw | exact okP_size (by assumption)))) ?_
    refine Any.take 5 rfl (by kernel_rfl) rfl (QOp.pure (Pure.move rfl)) ?_
    refine Any.take 6 rfl (by kernel_rfl) rfl (QOp.pure (Pure.extract rfl rfl)) ?_
    refine Any.take 7 rfl (by kernel_rfl) rfl (QOp.pure (Pure.extract rfl rfl)) ?_
    refine Any.take 8 rfl (by kernel_rfl) rfl (QOp.pure (Pure.assign rfl)) ?_
    refine Any.take 9 rfl (by kernel_rfl) rfl (QOp.pure (Pure.assign rfl)) ?_
    refine Any.done (by kernel_rfl) ?_
    refine Run.seq ?_
    refine Run.region ?_
    refine Ops.pure rfl (Pure.ldBA 2 rfl cell27 rfl rfl rfl) ?_
    refine Ops.go rfl (Loud.callR fn16 rfl (fun w hw => f_l_toPanel w _ _ _ _ (by first | assumption | omega | exact RdL.old (by assumption) w hw | exact RdL.own 0 rfl w hw | exact RdL.own 1 rfl w hw | exact RdL.own 2 rfl w hw | exact RdL.own 3 rfl w hw | exact RdL.own 4 rfl w hw | exact RdL.own 5 rfl w hw | exact RdL.own 6 rfl w hw | exact RdL.own 7 rfl w hw | exact RdL.own 8 rfl w hw | exact RdL.own 9 rfl w hw | exact RdL.boxM 0 rfl rfl w hw | exact RdL.own 10 rfl w hw | exact RdL.own 11 rfl w hw | exact Sat.front 0 rfl hw | exact Sat.front 1 rfl hw | exact Sat.front 2 rfl hw | exact Sat.front 3 rfl hw | exact Sat.front 4 rfl hw | exact Sat.front 5 rfl hw | exact Sat.front 6 rfl hw | exact Sat.front 7 rfl hw | exact Sat.front 8 rfl hw | exact Sat.front 9 rfl hw | exact Sat.front 10 rfl hw | exact Sat.front 11 rfl hw | exact heldRd (RdL.own 0 rfl w hw) | exact heldRd (RdL.own 1 rfl w hw) | exact heldRd (RdL.own 2 rfl w hw) | exact heldRd (RdL.own 3 rfl w hw) | exact heldRd (RdL.own 4 rfl w hw) | exact heldRd (RdL.own 5 rfl w hw) | exact heldRd (RdL.own 6 rfl w hw) | exact heldRd (RdL.own 7 rfl w hw) | exact heldRd (RdL.own 8 rfl w hw) | exact heldRd (RdL.own 9 rfl w hw) | exact heldRd (RdL.own 10 rfl w hw) | exact heldRd (RdL.own 11 rfl w hw) | (rw [length_marks]; omega) | exact RdL.boxM 1 rfl rfl w hw | exact RdL.boxM 2 rfl rfl w hw | exact RdL.boxM 3 rfl rfl w hw | exact okP_size (by assumption)) (by first | assumption | omega | exact RdL.old (by assumption) w hw | exact RdL.own 0 rfl w hw | exact RdL.own 1 rfl w hw | exact RdL.own 2 rfl w hw | exact RdL.own 3 rfl w hw | exact RdL.own 4 rfl w hw | exact RdL.own 5 rfl w hw | exact RdL.own 6 rfl w hw | exact RdL.own 7 rfl w hw | exact RdL.own 8 rfl w hw | exact RdL.own 9 rfl w hw | exact RdL.boxM 0 rfl rfl w hw | exact RdL.own 10 rfl w hw | exact RdL.own 11 rfl w hw | exact Sat.front 0 rfl hw | exact Sat.front 1 rfl hw | exact Sat.front 2 rfl hw | exact Sat.front 3 rfl hw | exact Sat.front 4 rfl hw | exact Sat.front 5 rfl hw | exact Sat.front 6 rfl hw | exact Sat.front 7 rfl hw | exact Sat.front 8 rfl hw | exact Sat.front 9 rfl hw | exact Sat.front 10 rfl hw | exact Sat.front 11 rfl hw | exact heldRd (RdL.own 0 rfl w hw) | exact heldRd (RdL.own 1 rfl w hw) | exact heldRd (RdL.own 2 rfl w hw) | exact heldRd (RdL.own 3 rfl w hw) | exact heldRd (RdL.own 4 rfl w hw) | exact heldRd (RdL.own 5 rfl w hw) | exact heldRd (RdL.own 6 rfl w hw) | exact heldRd (RdL.own 7 rfl w hw) | exact heldRd (RdL.own 8 rfl w hw) | exact heldRd (RdL.own 9 rfl w hw) | exact heldRd (RdL.own 10 rfl w hw) | exact heldRd (RdL.own 11 rfl w hw) | (rw [length_marks]; omega) | exact RdL.boxM 1 rfl rfl w hw | exact RdL.boxM 2 rfl rfl w hw | exact RdL.boxM 3 rfl rfl w hw | exact okP_size (by assumption)))) ?_
    rintro v25 _ ⟨L25, hQ25, rfl⟩
    obtain ⟨x25, h25, rfl, rfl⟩ := hQ25
    refine Ops.go rfl (Loud.alloc zero30 rfl) ?_
    rintro _ _ ⟨b8, rfl, rfl⟩
    refine Ops.store (Stores.box 0 rfl rfl rfl size30 (one3 h25) rfl rfl) ?_
    refine Ops.nil ?_
    refine Run.seq ?_
    refine Any.start follows ?_
    refine Any.take 0 rfl (by kernel_rfl) rfl (QOp.pure (Pure.ldBA 0 rfl cell30 rfl rfl rfl)) ?_
    refine Any.take 1 rfl (by kernel_rfl) rfl (QOp.pure (Pure.ldBA 3 rfl cell50 rfl rfl rfl)) ?_
    refine Any.take 2 rfl (by kernel_rfl) rfl (QOp.call fn36 rfl (fun w hw => f_l_toWalker w _ _ _ _)) ?_
    refine Any.take 3 rfl (by kernel_rfl) rfl (QOp.call fn37 rfl (fun w hw => f_i_PassesOver w _ _ _ _ _ _ _ _ (by first | assumption | omega | exact RdL.old (by assumption) w hw | exact RdL.own 0 rfl w hw | exact RdL.own 1 rfl w hw | exact RdL.own 2 rfl w hw | exact RdL.own 3 rfl w hw | exact RdL.own 4 rfl w hw | exact RdL.own 5 rfl w hw | exact RdL.own 6 rfl w hw | exact RdL.own 7 rfl w hw | exact RdL.own 8 rfl w hw | exact RdL.own 9 rfl w hw | exact RdL.boxM 0 rfl rfl w hw | exact RdL.own 10 rfl w hw | exact RdL.own 11 rfl w hw | exact Sat.front 0 rfl hw | exact Sat.front 1 rfl hw | exact Sat.front 2 rfl hw | exact Sat.front 3 rfl hw | exact Sat.front 4 rfl hw | exact Sat.front 5 rfl hw | exact Sat.front 6 rfl hw | exact Sat.front 7 rfl hw | exact Sat.front 8 rfl hw | exact Sat.front 9 rfl hw | exact Sat.front 10 rfl hw | exact Sat.front 11 rfl hw | exact heldRd (RdL.own 0 rfl w hw) | exact heldRd (RdL.own 1 rfl w hw) | exact heldRd (RdL.own 2 rfl w hw) | exact heldRd (RdL.own 3 rfl w hw) | exact heldRd (RdL.own 4 rfl w hw) | exact heldRd (RdL.own 5 rfl w hw) | exact heldRd (RdL.own 6 rfl w hw) | exact heldRd (RdL.own 7 rfl w hw) | exact heldRd (RdL.own 8 rfl w hw) | exact heldRd (RdL.own 9 rfl w hw) | exact heldRd (RdL.own 10 rfl w hw) | exact heldRd (RdL.own 11 rfl w hw) | (rw [length_marks]; omega) | exact RdL.boxM 1 rfl rfl w hw | exact RdL.boxM 2 rfl rfl w hw | exact RdL.boxM 3 rfl rfl w hw | exact okP_size (by assumption)) (by first | assumption | omega | exact RdL.old (by assumption) w hw | exact RdL.own 0 rfl w hw | exact RdL.own 1 rfl w hw | exact RdL.own 2 rfl w hw | exact RdL.own 3 rfl w hw | exact RdL.own 4 rfl w hw | exact RdL.own 5 rfl w hw | exact RdL.own 6 rfl w hw | exact RdL.own 7 rfl w hw | exact RdL.own 8 rfl w hw | exact RdL.own 9 rfl w hw | exact RdL.boxM 0 rfl rfl w hw | exact RdL.own 10 rfl w hw | exact RdL.own 11 rfl w hw | exact Sat.front 0 rfl hw | exact Sat.front 1 rfl hw | exact Sat.front 2 rfl hw | exact Sat.front 3 rfl hw | exact Sat.front 4 rfl hw | exact Sat.front 5 rfl hw | exact Sat.front 6 rfl hw | exact Sat.front 7 rfl hw | exact Sat.front 8 rfl hw | exact Sat.front 9 rfl hw | exact Sat.front 10 rfl hw | exact Sat.front 11 rfl hw | exact heldRd (RdL.own 0 rfl w hw) | exact heldRd (RdL.own 1 rfl w hw) | exact heldRd (RdL.own 2 rfl w hw) | exact heldRd (RdL.own 3 rfl w hw) | exact heldRd (RdL.own 4 rfl w hw) | exact heldRd (RdL.own 5 rfl w hw) | exact heldRd (RdL.own 6 rfl w hw) | exact heldRd (RdL.own 7 rfl w hw) | exact heldRd (RdL.own 8 rfl w hw) | exact heldRd (RdL.own 9 rfl w hw) | exact heldRd (RdL.own 10 rfl w hw) | exact heldRd (RdL.own 11 rfl w hw) | (rw [length_marks]; omega) | exact RdL.boxM 1 rfl rfl w hw | exact RdL.boxM 2 rfl rfl w hw | exact RdL.boxM 3 rfl rfl w hw | exact okP_size (by assumption)) (by first | assumption | omega | exact RdL.old (by assumption) w hw | exact RdL.own 0 rfl w hw | exact RdL.own 1 rfl w hw | exact RdL.own 2 rfl w hw | exact RdL.own 3 rfl w hw | exact RdL.own 4 rfl w hw | exact RdL.own 5 rfl w hw | exact RdL.own 6 rfl w hw | exact RdL.own 7 rfl w hw | exact RdL.own 8 rfl w hw | exact RdL.own 9 rfl w hw | exact RdL.boxM 0 rfl rfl w hw | exact RdL.own 10 rfl w hw | exact RdL.own 11 rfl w hw | exact Sat.front 0 rfl hw | exact Sat.front 1 rfl hw | exact Sat.front 2 rfl hw | exact Sat.front 3 rfl hw | exact Sat.front 4 rfl hw | exact Sat.front 5 rfl hw | exact Sat.front 6 rfl hw | exact Sat.front 7 rfl hw | exact Sat.front 8 rfl hw | exact Sat.front 9 rfl hw | exact Sat.front 10 rfl hw | exact Sat.front 11 rfl hw | exact heldRd (RdL.own 0 rfl w hw) | exact heldRd (RdL.own 1 rfl w hw) | exact heldRd (RdL.own 2 rfl w hw) | exact heldRd (RdL.own 3 rfl w hw) | exact heldRd (RdL.own 4 rfl w hw) | exact heldRd (RdL.own 5 rfl w hw) | exact heldRd (RdL.own 6 rfl w hw) | exact heldRd (RdL.own 7 rfl w hw) | exact heldRd (RdL.own 8 rfl w hw) | exact heldRd (RdL.own 9 rfl w hw) | exact heldRd (RdL.own 10 rfl w hw) | exact heldRd (RdL.own 11 rfl w hw) | (rw [length_marks]; omega) | exact RdL.boxM 1 rfl rfl w hw | exact RdL.boxM 2 rfl rfl w hw | exact RdL.boxM 3 rfl rfl w hw | exact okP_size (by assumption)) (by first | assumption | omega | exact RdL.old (by assumption) w hw | exact RdL.own 0 rfl w hw | exact RdL.own 1 rfl w hw | exact RdL.own 2 rfl w hw | exact RdL.own 3 rfl w hw | exact RdL.own 4 rfl w hw | exact RdL.own 5 rfl w hw | exact RdL.own 6 rfl w hw | exact RdL.own 7 rfl w hw | exact RdL.own 8 rfl w hw | exact RdL.own 9 rfl w hw | exact RdL.boxM 0 rfl rfl w hw | exact RdL.own 10 rfl w hw | exact RdL.own 11 rfl w hw | exact Sat.front 0 rfl hw | exact Sat.front 1 rfl hw | exact Sat.front 2 rfl hw | exact Sat.front 3 rfl hw | exact Sat.front 4 rfl hw | exact Sat.front 5 rfl hw | exact Sat.front 6 rfl hw | exact Sat.front 7 rfl hw | exact Sat.front 8 rfl hw | exact Sat.front 9 rfl hw | exact Sat.front 10 rfl hw | exact Sat.front 11 rfl hw | exact heldRd (RdL.own 0 rfl w hw) | exact heldRd (RdL.own 1 rfl w hw) | exact heldRd (RdL.own 2 rfl w hw) | exact heldRd (RdL.own 3 rfl w hw) | exact heldRd (RdL.own 4 rfl w hw) | exact heldRd (RdL.own 5 rfl w hw) | exact heldRd (RdL.own 6 rfl w hw) | exact heldRd (RdL.own 7 rfl w hw) | exact heldRd (RdL.own 8 rfl w hw) | exact heldRd (RdL.own 9 rfl w hw) | exact heldRd (RdL.own 10 rfl w hw) | exact heldRd (RdL.own 11 rfl w hw) | (rw [length_marks]; omega) | exact RdL.boxM 1 rfl rfl w hw | exact RdL.boxM 2 rfl rfl w hw | exact RdL.boxM 3 rfl rfl w hw | exact okP_size (by assumption)) (by first | assumption | omega | exact RdL.old (by assumption) w hw | exact RdL.own 0 rfl w hw | exact RdL.own 1 rfl w hw | exact RdL.own 2 rfl w hw | exact RdL.own 3 rfl w hw | exact RdL.own 4 rfl w hw | exact RdL.own 5 rfl w hw | exact RdL.own 6 rfl w hw | exact RdL.own 7 rfl w hw | exact RdL.own 8 rfl w hw | exact RdL.own 9 rfl w hw | exact RdL.boxM 0 rfl rfl w hw | exact RdL.own 10 rfl w hw | exact RdL.own 11 rfl w hw | exact Sat.front 0 rfl hw | exact Sat.front 1 rfl hw | exact Sat.front 2 rfl hw | exact Sat.front 3 rfl hw | exact Sat.front 4 rfl hw | exact Sat.front 5 rfl hw | exact Sat.front 6 rfl hw | exact Sat.front 7 rfl hw | exact Sat.front 8 rfl hw | exact Sat.front 9 rfl hw | exact Sat.front 10 rfl hw | exact Sat.front 11 rfl hw | exact heldRd (RdL.own 0 rfl w hw) | exact heldRd (RdL.own 1 rfl w hw) | exact heldRd (RdL.own 2 rfl w hw) | exact heldRd (RdL.own 3 rfl w hw) | exact heldRd (RdL.own 4 rfl w hw) | exact heldRd (RdL.own 5 rfl w hw) | exact heldRd (RdL.own 6 rfl w hw) | exact heldRd (RdL.own 7 rfl w hw) | exact heldRd (RdL.own 8 rfl w hw) | exact heldRd (RdL.own 9 rfl w hw) | exact heldRd (RdL.own 10 rfl w hw) | exact heldRd (RdL.own 11 rfl w hw) | (rw [length_marks]; omega) | exact RdL.boxM 1 rfl rfl w hw | exact RdL.boxM 2 rfl rfl w hw | exact RdL.boxM 3 rfl rfl w hw | exact okP_size (by assumption)) (by first | assumption | omega | exact RdL.old (by assumption) w hw | exact RdL.own 0 rfl w hw | exact RdL.own 1 rfl w hw | exact RdL.own 2 rfl w hw | exact RdL.own 3 rfl w hw | exact RdL.own 4 rfl w hw | exact RdL.own 5 rfl w hw | exact RdL.own 6 rfl w hw | exact RdL.own 7 rfl w hw | exact RdL.own 8 rfl w hw | exact RdL.own 9 rfl w hw | exact RdL.boxM 0 rfl rfl w hw | exact RdL.own 10 rfl w hw | exact RdL.own 11 rfl w hw | exact Sat.front 0 rfl hw | exact Sat.front 1 rfl hw | exact Sat.front 2 rfl hw | exact Sat.front 3 rfl hw | exact Sat.front 4 rfl hw | exact Sat.front 5 rfl hw | exact Sat.front 6 rfl hw | exact Sat.front 7 rfl hw | exact Sat.front 8 rfl hw | exact Sat.front 9 rfl hw | exact Sat.front 10 rfl hw | exact Sat.front 11 rfl hw | exact heldRd (RdL.own 0 rfl w hw) | exact heldRd (RdL.own 1 rfl w hw) | exact heldRd (RdL.own 2 rfl w hw) | exact heldRd (RdL.own 3 rfl w hw) | exact heldRd (RdL.own 4 rfl w hw) | exact heldRd (RdL.own 5 rfl w hw) | exact heldRd (RdL.own 6 rfl w hw) | exact heldRd (RdL.own 7 rfl w hw) | exact heldRd (RdL.own 8 rfl w hw) | exact heldRd (RdL.own 9 rfl w hw) | exact heldRd (RdL.own 10 rfl w hw) | exact heldRd (RdL.own 11 rfl w hw) | (rw [length_marks]; omega) | exact RdL.boxM 1 rfl rfl w hw | exact RdL.boxM 2 rfl rfl w hw | exact RdL.boxM 3 rfl rfl w hw | exact okP_size (by assumption)))) ?_
    refine Any.take 4 rfl (by kernel_rfl) rfl (QOp.pure (Pure.move rfl)) ?_
    refine Any.take 5 rfl (by kernel_rfl) rfl (QOp.pure (Pure.extract rfl rfl)) ?_
    refine Any.take 6 rfl (by kernel_rfl) rfl (QOp.pure (Pure.extract rfl rfl)) ?_
    refine Any.take 7 rfl (by kernel_rfl) rfl (QOp.pure (Pure.assign rfl)) ?_
    refine Any.take 8 rfl (by kernel_rfl) rfl (QOp.pure (Pure.assign rfl)) ?_
    refine Any.done (by kernel_rfl) ?_
    refine Run.seq ?_
    refine Run.seq ?_
    refine Run.region ?_
    refine Ops.pure rfl (Pure.move rfl) ?_
    refine Ops.pure rfl (Pure.move rfl) ?_
    refine Ops.pure rfl (Pure.neqB und4 rfl rfl) ?_
    refine Ops.pure rfl (Pure.move rfl) ?_
    refine Ops.guardY rfl rfl rfl (by simp) ?_
    refine Ops.pure rfl (Pure.move rfl) ?_
    refine Ops.guardY rfl rfl rfl (by simp) ?_
    refine Ops.pure rfl (Pure.move rfl) ?_
    refine Ops.guardY rfl rfl rfl (by simp) ?_
    refine Ops.pure rfl (Pure.neq rfl rfl) ?_
    refine Ops.pure rfl (Pure.pickF rfl (by simp) rfl) ?_
    refine Ops.nil ?_
    refine Run.condEF rfl (by simp) ?_
    refine Run.skip ?_
    refine Run.seq ?_
    refine Run.seq ?_
    refine Any.start follows ?_
    refine Any.take 0 rfl (by kernel_rfl) rfl (QOp.pure (Pure.ldBA 0 rfl cell30 rfl rfl rfl)) ?_
    refine Any.take 1 rfl (by kernel_rfl) rfl (QOp.pure (Pure.ldBA 4 rfl cell27 rfl rfl rfl)) ?_
    refine Any.one 2 (by kernel_rfl) ?_
    refine OneL.loud rfl rfl (Loud.callR fn16 rfl (fun w hw => f_l_toPanel w _ _ _ _ (by first | assumption | omega | exact RdL.old (by assumption) w hw | exact RdL.own 0 rfl w hw | exact RdL.own 1 rfl w hw | exact RdL.own 2 rfl w hw | exact RdL.own 3 rfl w hw | exact RdL.own 4 rfl w hw | exact RdL.own 5 rfl w hw | exact RdL.own 6 rfl w hw | exact RdL.own 7 rfl w hw | exact RdL.own 8 rfl w hw | exact RdL.own 9 rfl w hw | exact RdL.boxM 0 rfl rfl w hw | exact RdL.own 10 rfl w hw | exact RdL.own 11 rfl w hw | exact Sat.front 0 rfl hw | exact Sat.front 1 rfl hw | exact Sat.front 2 rfl hw | exact Sat.front 3 rfl hw | exact Sat.front 4 rfl hw | exact Sat.front 5 rfl hw | exact Sat.front 6 rfl hw | exact Sat.front 7 rfl hw | exact Sat.front 8 rfl hw | exact Sat.front 9 rfl hw | exact Sat.front 10 rfl hw | exact Sat.front 11 rfl hw | exact heldRd (RdL.own 0 rfl w hw) | exact heldRd (RdL.own 1 rfl w hw) | exact heldRd (RdL.own 2 rfl w hw) | exact heldRd (RdL.own 3 rfl w hw) | exact heldRd (RdL.own 4 rfl w hw) | exact heldRd (RdL.own 5 rfl w hw) | exact heldRd (RdL.own 6 rfl w hw) | exact heldRd (RdL.own 7 rfl w hw) | exact heldRd (RdL.own 8 rfl w hw) | exact heldRd (RdL.own 9 rfl w hw) | exact heldRd (RdL.own 10 rfl w hw) | exact heldRd (RdL.own 11 rfl w hw) | (rw [length_marks]; omega) | exact RdL.boxM 1 rfl rfl w hw | exact RdL.boxM 2 rfl rfl w hw | exact RdL.boxM 3 rfl rfl w hw | exact okP_size (by assumption)) (by first | assumption | omega | exact RdL.old (by assumption) w hw | exact RdL.own 0 rfl w hw | exact RdL.own 1 rfl w hw | exact RdL.own 2 rfl w hw | exact RdL.own 3 rfl w hw | exact RdL.own 4 rfl w hw | exact RdL.own 5 rfl w hw | exact RdL.own 6 rfl w hw | exact RdL.own 7 rfl w hw | exact RdL.own 8 rfl w hw | exact RdL.own 9 rfl w hw | exact RdL.boxM 0 rfl rfl w hw | exact RdL.own 10 rfl w hw | exact RdL.own 11 rfl w hw | exact Sat.front 0 rfl hw | exact Sat.front 1 rfl hw | exact Sat.front 2 rfl hw | exact Sat.front 3 rfl hw | exact Sat.front 4 rfl hw | exact Sat.front 5 rfl hw | exact Sat.front 6 rfl hw | exact Sat.front 7 rfl hw | exact Sat.front 8 rfl hw | exact Sat.front 9 rfl hw | exact Sat.front 10 rfl hw | exact Sat.front 11 rfl hw | exact heldRd (RdL.own 0 rfl w hw) | exact heldRd (RdL.own 1 rfl w hw) | exact heldRd (RdL.own 2 rfl w hw) | exact heldRd (RdL.own 3 rfl w hw) | exact heldRd (RdL.own 4 rfl w hw) | exact heldRd (RdL.own 5 rfl w hw) | exact heldRd (RdL.own 6 rfl w hw) | exact heldRd (RdL.own 7 rfl w hw) | exact heldRd (RdL.own 8 rfl w hw) | exact heldRd (RdL.own 9 rfl w hw) | exact heldRd (RdL.own 10 rfl w hw) | exact heldRd (RdL.own 11 rfl w hw) | (rw [length_marks]; omega) | exact RdL.boxM 1 rfl rfl w hw | exact RdL.boxM 2 rfl rfl w hw | exact RdL.boxM 3 rfl rfl w hw | exact okP_size (by assumption)))) ?_
    rintro v43 _ ⟨L43, hQ43, rfl⟩
    obtain ⟨x43, h43, rfl, rfl⟩ := hQ43
    refine ⟨.inr (by first | exact Ext.right _ _ | exact Ext.right [_] _ | exact Ext.refl _), ?_⟩
    refine Any.take 3 rfl (by kernel_rfl) rfl (QOp.call fn18 rfl (fun w hw => f_l_eqPanel w _ _ _ _ _ _ _ _ (by first | assumption | omega | exact RdL.old (by assumption) w hw | exact RdL.own 0 rfl w hw | exact RdL.own 1 rfl w hw | exact RdL.own 2 rfl w hw | exact RdL.own 3 rfl w hw | exact RdL.own 4 rfl w hw | exact RdL.own 5 rfl w hw | exact RdL.own 6 rfl w hw | exact RdL.own 7 rfl w hw | exact RdL.own 8 rfl w hw | exact RdL.own 9 rfl w hw | exact RdL.boxM 0 rfl rfl w hw | exact RdL.own 10 rfl w hw | exact RdL.own 11 rfl w hw | exact Sat.front 0 rfl hw | exact Sat.front 1 rfl hw | exact Sat.front 2 rfl hw | exact Sat.front 3 rfl hw | exact Sat.front 4 rfl hw | exact Sat.front 5 rfl hw | exact Sat.front 6 rfl hw | exact Sat.front 7 rfl hw | exact Sat.front 8 rfl hw | exact Sat.front 9 rfl hw | exact Sat.front 10 rfl hw | exact Sat.front 11 rfl hw | exact heldRd (RdL.own 0 rfl w hw) | exact heldRd (RdL.own 1 rfl w hw) | exact heldRd (RdL.own 2 rfl w hw) | exact heldRd (RdL.own 3 rfl w hw) | exact heldRd (RdL.own 4 rfl w hw) | exact heldRd (RdL.own 5 rfl w hw) | exact heldRd (RdL.own 6 rfl w hw) | exact heldRd (RdL.own 7 rfl w hw) | exact heldRd (RdL.own 8 rfl w hw) | exact heldRd (RdL.own 9 rfl w hw) | exact heldRd (RdL.own 10 rfl w hw) | exact heldRd (RdL.own 11 rfl w hw) | (rw [length_marks]; omega) | exact RdL.boxM 1 rfl rfl w hw | exact RdL.boxM 2 rfl rfl w hw | exact RdL.boxM 3 rfl rfl w hw | exact okP_size (by assumption)) (by first | assumption | omega | exact RdL.old (by assumption) w hw | exact RdL.own 0 rfl w hw | exact RdL.own 1 rfl w hw | exact RdL.own 2 rfl w hw | exact RdL.own 3 rfl w hw | exact RdL.own 4 rfl w hw | exact RdL.own 5 rfl w hw | exact RdL.own 6 rfl w hw | exact RdL.own 7 rfl w hw | exact RdL.own 8 rfl w hw | exact RdL.own 9 rfl w hw | exact RdL.boxM 0 rfl rfl w hw | exact RdL.own 10 rfl w hw | exact RdL.own 11 rfl w hw | exact Sat.front 0 rfl hw | exact Sat.front 1 rfl hw | exact Sat.front 2 rfl hw | exact Sat.front 3 rfl hw | exact Sat.front 4 rfl hw | exact Sat.front 5 rfl hw | exact Sat.front 6 rfl hw | exact Sat.front 7 rfl hw | exact Sat.front 8 rfl hw | exact Sat.front 9 rfl hw | exact Sat.front 10 rfl hw | exact Sat.front 11 rfl hw | exact heldRd (RdL.own 0 rfl w hw) | exact heldRd (RdL.own 1 rfl w hw) | exact heldRd (RdL.own 2 rfl w hw) | exact heldRd (RdL.own 3 rfl w hw) | exact heldRd (RdL.own 4 rfl w hw) | exact heldRd (RdL.own 5 rfl w hw) | exact heldRd (RdL.own 6 rfl w hw) | exact heldRd (RdL.own 7 rfl w hw) | exact heldRd (RdL.own 8 rfl w hw) | exact heldRd (RdL.own 9 rfl w hw) | exact heldRd (RdL.own 10 rfl w hw) | exact heldRd (RdL.own 11 rfl w hw) | (rw [length_marks]; omega) | exact RdL.boxM 1 rfl rfl w hw | exact RdL.boxM 2 rfl rfl w hw | exact RdL.boxM 3 rfl rfl w hw | exact okP_size (by assumption)) (by first | assumption | omega | exact RdL.old (by assumption) w hw | exact RdL.own 0 rfl w hw | exact RdL.own 1 rfl w hw | exact RdL.own 2 rfl w hw | exact RdL.own 3 rfl w hw | exact RdL.own 4 rfl w hw | exact RdL.own 5 rfl w hw | exact RdL.own 6 rfl w hw | exact RdL.own 7 rfl w hw | exact RdL.own 8 rfl w hw | exact RdL.own 9 rfl w hw | exact RdL.boxM 0 rfl rfl w hw | exact RdL.own 10 rfl w hw | exact RdL.own 11 rfl w hw | exact Sat.front 0 rfl hw | exact Sat.front 1 rfl hw | exact Sat.front 2 rfl hw | exact Sat.front 3 rfl hw | exact Sat.front 4 rfl hw | exact Sat.front 5 rfl hw | exact Sat.front 6 rfl hw | exact Sat.front 7 rfl hw | exact Sat.front 8 rfl hw | exact Sat.front 9 rfl hw | exact Sat.front 10 rfl hw | exact Sat.front 11 rfl hw | exact heldRd (RdL.own 0 rfl w hw) | exact heldRd (RdL.own 1 rfl w hw) | exact heldRd (RdL.own 2 rfl w hw) | exact heldRd (RdL.own 3 rfl w hw) | exact heldRd (RdL.own 4 rfl w hw) | exact heldRd (RdL.own 5 rfl w hw) | exact heldRd (RdL.own 6 rfl w hw) | exact heldRd (RdL.own 7 rfl w hw) | exact heldRd (RdL.own 8 rfl w hw) | exact heldRd (RdL.own 9 rfl w hw) | exact heldRd (RdL.own 10 rfl w hw) | exact heldRd (RdL.own 11 rfl w hw) | (rw [length_marks]; omega) | exact RdL.boxM 1 rfl rfl w hw | exact RdL.boxM 2 rfl rfl w hw | exact RdL.boxM 3 rfl rfl w hw | exact okP_size (by assumption)) (by first | assumption | omega | exact RdL.old (by assumption) w hw | exact RdL.own 0 rfl w hw | exact RdL.own 1 rfl w hw | exact RdL.own 2 rfl w hw | exact RdL.own 3 rfl w hw | exact RdL.own 4 rfl w hw | exact RdL.own 5 rfl w hw | exact RdL.own 6 rfl w hw | exact RdL.own 7 rfl w hw | exact RdL.own 8 rfl w hw | exact RdL.own 9 rfl w hw | exact RdL.boxM 0 rfl rfl w hw | exact RdL.own 10 rfl w hw | exact RdL.own 11 rfl w hw | exact Sat.front 0 rfl hw | exact Sat.front 1 rfl hw | exact Sat.front 2 rfl hw | exact Sat.front 3 rfl hw | exact Sat.front 4 rfl hw | exact Sat.front 5 rfl hw | exact Sat.front 6 rfl hw | exact Sat.front 7 rfl hw | exact Sat.front 8 rfl hw | exact Sat.front 9 rfl hw | exact Sat.front 10 rfl hw | exact Sat.front 11 rfl hw | exact heldRd (RdL.own 0 rfl w hw) | exact heldRd (RdL.own 1 rfl w hw) | exact heldRd (RdL.own 2 rfl w hw) | exact heldRd (RdL.own 3 rfl w hw) | exact heldRd (RdL.own 4 rfl w hw) | exact heldRd (RdL.own 5 rfl w hw) | exact heldRd (RdL.own 6 rfl w hw) | exact heldRd (RdL.own 7 rfl w hw) | exact heldRd (RdL.own 8 rfl w hw) | exact heldRd (RdL.own 9 rfl w hw) | exact heldRd (RdL.own 10 rfl w hw) | exact heldRd (RdL.own 11 rfl w hw) | (rw [length_marks]; omega) | exact RdL.boxM 1 rfl rfl w hw | exact RdL.boxM 2 rfl rfl w hw | exact RdL.boxM 3 rfl rfl w hw | exact okP_size (by assumption)))) ?_
    refine Any.take 4 rfl (by kernel_rfl) rfl (QOp.pure (Pure.not rfl)) ?_
    refine Any.done (by kernel_rfl) ?_
    refine Run.condEF rfl (by simp) ?_
    refine Run.skip ?_
    refine Run.seq ?_
    refine Run.region ?_
    refine Ops.pure rfl (Pure.assign rfl) ?_
    refine Ops.nil ?_
    refine Run.ret1 rfl rfl ?_
    rfl
  · skip
    rw [if_neg hz0]
    refine Run.region ?_
    refine Ops.pure rfl (Pure.move rfl) ?_
    refine Ops.pure rfl (Pure.lss rfl rfl) ?_
    refine Ops.nil ?_
    refine Run.condE rfl (decide_eq_true (by omega)) ?_
    refine Run.seq ?_
    refine Run.region ?_
    refine Ops.pure rfl (Pure.assign rfl) ?_
    refine Ops.nil ?_
    refine Run.ret1 rfl rfl ?_
    rfl

end Go.Proofs.Ythomfbmgiokdbaa
