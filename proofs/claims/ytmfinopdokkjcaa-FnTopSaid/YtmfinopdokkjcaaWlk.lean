/- Contracts of functions, printed by program from annotations. -/
import Derived.Test.YtmfinopdokkjcaaTraceM
import Derived.Test.YtmfinopdokkjcaaPts
namespace Go.Proofs.Ytmfinopdokkjcaa
open Go Go.AW Go.RowKit
set_option linter.unusedVariables false
set_option linter.unusedSimpArgs false

theorem VW_mid {a b x y dx dy : Int} (hs : SizeOk a b) (h : VW a b (x, y, dx, dy)) : 0 ≤ x ∧ x ≤ 16 ∧ 0 ≤ y ∧ y ≤ 16 ∧ -1 ≤ dx ∧ dx ≤ 1 ∧ -1 ≤ dy ∧ dy ≤ 1 ∧ PtOk a b (x + dx) (y + dy) ∧ 0 ≤ x + dx ∧ -1 ≤ dx * dy ∧ dx * dy ≤ 1 := by
  obtain ⟨h1, h2, h3, h4⟩ := VW_mk.1 h
  have h5 := ptOk_mid hs h3
  have h6 := ptOk_mid hs h4
  refine ⟨by omega, by omega, by omega, by omega, by omega, by omega, by omega, by omega, h4, by omega, ?_⟩
  rcases h1 with rfl | rfl <;> rcases h2 with rfl | rfl <;> decide
/-- the code of a panel and a walker -/
def wkE (a b : Int) (l : List Int) (x y dx dy : Int) : Int := if okP a b l = true ∧ VW a b (x, y, dx, dy) then 0 else 1
theorem wkE_bad {a b x y dx dy : Int} {l : List Int} (h : ¬ (okP a b l = true ∧ VW a b (x, y, dx, dy))) : wkE a b l x y dx dy = 1 := by unfold wkE; rw [if_neg h]
theorem wkE_ok {a b x y dx dy : Int} {l : List Int} (h : okP a b l = true ∧ VW a b (x, y, dx, dy)) : wkE a b l x y dx dy = 0 := by unfold wkE; rw [if_pos h]
theorem wkE_zero {a b x y dx dy : Int} {l : List Int} (h : wkE a b l x y dx dy = 0) : okP a b l = true ∧ VW a b (x, y, dx, dy) := by
  unfold wkE at h
  split at h
  · assumption
  · cases h
theorem wkE_one {a b x y dx dy : Int} {l : List Int} (h : ¬ wkE a b l x y dx dy = 0) : ¬ (okP a b l = true ∧ VW a b (x, y, dx, dy)) := fun hh => h (wkE_ok hh)
def poE (a b : Int) (l : List Int) (x y dx dy : Int) : Int := if okP a b l = true ∧ VW a b (x, y, dx, dy) then (if CrAt a b l (x + dx) (y + dy) then 0 else 6) else 1
def poB (a b : Int) (l : List Int) (x y dx dy : Int) : Bool := if poE a b l x y dx dy = 0 then decide (slp (x + dx) = dx * dy) else false
theorem po_bad {a b x y dx dy : Int} {l : List Int} (h : ¬ (okP a b l = true ∧ VW a b (x, y, dx, dy))) : poE a b l x y dx dy = 1 ∧ poB a b l x y dx dy = false := by
  have h1 : poE a b l x y dx dy = 1 := by unfold poE; rw [if_neg h]
  refine ⟨h1, ?_⟩
  unfold poB
  rw [h1]
  rfl
theorem po_no {a b x y dx dy : Int} {l : List Int} (h : okP a b l = true ∧ VW a b (x, y, dx, dy)) (hc : ¬ CrAt a b l (x + dx) (y + dy)) : poE a b l x y dx dy = 6 ∧ poB a b l x y dx dy = false := by
  have h1 : poE a b l x y dx dy = 6 := by unfold poE; rw [if_pos h, if_neg hc]
  refine ⟨h1, ?_⟩
  unfold poB
  rw [h1]
  rfl
theorem po_ok {a b x y dx dy : Int} {l : List Int} (h : okP a b l = true ∧ VW a b (x, y, dx, dy)) (hc : CrAt a b l (x + dx) (y + dy)) : poE a b l x y dx dy = 0 ∧ poB a b l x y dx dy = decide (slp (x + dx) = dx * dy) := by
  have h1 : poE a b l x y dx dy = 0 := by unfold poE; rw [if_pos h, if_pos hc]
  refine ⟨h1, ?_⟩
  unfold poB
  rw [if_pos h1]

set_option maxRecDepth 4000 in
/-- spec.l03Next -/
theorem f_s_l03Next (w : World) (x : Int) (y : Int) (dx : Int) (dy : Int) (hx : -1000 ≤ x ∧ x ≤ 1000) (hy : -1000 ≤ y ∧ y ≤ 1000) (hdx : -1000 ≤ dx ∧ dx ≤ 1000) (hdy : -1000 ≤ dy ∧ dy ≤ 1000) : RetV Try.prog 226 [.agg #[.int .i64 x, .int .i64 y, .int .i64 dx, .int .i64 dy]] w (.agg #[.int .i64 (x + dx), .int .i64 (y + dy)]) := by
  refine Ret.enter Try.func226 rfl Try.ntmps226 rfl ?_
  refine Run.seq ?_
  refine Run.region ?_
  refine Ops.go rfl (Loud.box rfl rfl) ?_
  rintro _ _ ⟨b1, rfl, rfl⟩
  refine Ops.go rfl (Loud.alloc zero72 rfl) ?_
  rintro _ _ ⟨b2, rfl, rfl⟩
  refine Ops.nil ?_
  refine Run.seq ?_
  refine Run.region ?_
  refine Ops.pure rfl (Pure.fieldAddrB fld167_0 rfl) ?_
  refine Ops.pure rfl (Pure.fieldAddrB fld72_0 rfl) ?_
  refine Ops.pure rfl (Pure.ldB 1 rfl cell2 rfl rfl) ?_
  refine Ops.pure rfl (Pure.fieldAddrB fld167_1 rfl) ?_
  refine Ops.pure rfl (Pure.ldB 1 rfl cell2 rfl rfl) ?_
  refine Ops.pure rfl (Pure.add rfl rfl (by omega) (by omega)) ?_
  refine Ops.pure rfl (Pure.fieldAddrB fld167_0 rfl) ?_
  refine Ops.pure rfl (Pure.fieldAddrB fld72_1 rfl) ?_
  refine Ops.pure rfl (Pure.ldB 1 rfl cell2 rfl rfl) ?_
  refine Ops.pure rfl (Pure.fieldAddrB fld167_2 rfl) ?_
  refine Ops.pure rfl (Pure.ldB 1 rfl cell2 rfl rfl) ?_
  refine Ops.pure rfl (Pure.add rfl rfl (by omega) (by omega)) ?_
  refine Ops.pure rfl (Pure.build rfl (bld72_2 _ _ (by first | rfl | assumption) (by first | rfl | assumption))) ?_
  refine Ops.store (Stores.box 0 rfl rfl rfl size72 (allOne rfl) rfl rfl) ?_
  refine Ops.nil ?_
  refine Run.retC 0 rfl rfl rfl cell72 rfl ?_
  rfl

set_option maxRecDepth 4000 in
/-- (impl.Walker).next -/
theorem f_i_Walker_next (w : World) (x : Int) (y : Int) (dx : Int) (dy : Int) (hx : -1000 ≤ x ∧ x ≤ 1000) (hy : -1000 ≤ y ∧ y ≤ 1000) (hdx : -1000 ≤ dx ∧ dx ≤ 1000) (hdy : -1000 ≤ dy ∧ dy ≤ 1000) : RetV Try.prog 175 [.agg #[.int .i64 x, .int .i64 y, .int .i64 dx, .int .i64 dy]] w (.agg #[.int .i64 (x + dx), .int .i64 (y + dy)]) := by
  refine Ret.enter Try.func175 rfl Try.ntmps175 rfl ?_
  refine Run.seq ?_
  refine Run.region ?_
  refine Ops.go rfl (Loud.box rfl rfl) ?_
  rintro _ _ ⟨b1, rfl, rfl⟩
  refine Ops.go rfl (Loud.alloc zero72 rfl) ?_
  rintro _ _ ⟨b2, rfl, rfl⟩
  refine Ops.nil ?_
  refine Run.seq ?_
  refine Run.region ?_
  refine Ops.pure rfl (Pure.fieldAddrB fld167_0 rfl) ?_
  refine Ops.pure rfl (Pure.fieldAddrB fld72_0 rfl) ?_
  refine Ops.pure rfl (Pure.ldB 1 rfl cell2 rfl rfl) ?_
  refine Ops.pure rfl (Pure.fieldAddrB fld167_1 rfl) ?_
  refine Ops.pure rfl (Pure.ldB 1 rfl cell2 rfl rfl) ?_
  refine Ops.pure rfl (Pure.add rfl rfl (by omega) (by omega)) ?_
  refine Ops.pure rfl (Pure.fieldAddrB fld167_0 rfl) ?_
  refine Ops.pure rfl (Pure.fieldAddrB fld72_1 rfl) ?_
  refine Ops.pure rfl (Pure.ldB 1 rfl cell2 rfl rfl) ?_
  refine Ops.pure rfl (Pure.fieldAddrB fld167_2 rfl) ?_
  refine Ops.pure rfl (Pure.ldB 1 rfl cell2 rfl rfl) ?_
  refine Ops.pure rfl (Pure.add rfl rfl (by omega) (by omega)) ?_
  refine Ops.pure rfl (Pure.build rfl (bld72_2 _ _ (by first | rfl | assumption) (by first | rfl | assumption))) ?_
  refine Ops.store (Stores.box 0 rfl rfl rfl size72 (allOne rfl) rfl rfl) ?_
  refine Ops.nil ?_
  refine Run.retC 0 rfl rfl rfl cell72 rfl ?_
  rfl

set_option maxRecDepth 4000 in
/-- spec.l03Sign -/
theorem f_s_l03Sign (w : World) (n : Int) : RetV Try.prog 243 [.int .i64 n] w (.bool (decide (n = 1 ∨ n = -1))) := by
  refine Ret.enter Try.func243 rfl Try.ntmps243 rfl ?_
  refine Run.seq ?_
  refine Run.region ?_
  refine Ops.pure rfl (Pure.assign rfl) ?_
  refine Ops.nil ?_
  refine Run.seq ?_
  refine Run.region ?_
  refine Ops.pure rfl (Pure.move rfl) ?_
  refine Ops.pure rfl (Pure.eql rfl rfl) ?_
  refine Ops.pure rfl (Pure.move rfl) ?_
  refine Ops.guard rfl rfl rfl rfl (fun c5 => ?_) (fun c5 => ?_)
  · skip
    have c5' := dF c5
    refine Ops.pure rfl (Pure.move rfl) ?_
    refine Ops.guardY rfl rfl rfl c5 ?_
    refine Ops.pure rfl (Pure.eql rfl rfl) ?_
    refine Ops.pure rfl (Pure.pickF rfl c5 rfl) ?_
    refine Ops.pure rfl (Pure.assign rfl) ?_
    refine Ops.nil ?_
    refine Run.ret1 rfl rfl ?_
    first
      | rfl
      | (simp_all; done)
      | (rw [decide_eq_true (by omega)])
      | (rw [decide_eq_false (by omega)])
      | exact congrArg Value.bool (decide_eq_decide.2 (by omega))
  · skip
    replace c5 := Bool.eq_true_of_ne c5
    have c5' := dT c5
    refine Ops.guardN rfl rfl rfl rfl (by rw [c5]; decide) ?_
    refine Ops.pure rfl (Pure.pickT rfl c5 rfl) ?_
    refine Ops.pure rfl (Pure.assign rfl) ?_
    refine Ops.nil ?_
    refine Run.ret1 rfl rfl ?_
    first
      | rfl
      | (simp_all; done)
      | (rw [decide_eq_true (by omega)])
      | (rw [decide_eq_false (by omega)])
      | exact congrArg Value.bool (decide_eq_decide.2 (by omega))

set_option maxRecDepth 4000 in
/-- spec.l03Ok -/
theorem f_s_l03Ok (w : World) (p : Nat) (a : Int) (b : Int) (v : Value) (x : Int) (y : Int) (dx : Int) (dy : Int) (hp : Rd w (boxS p) 3 1 [.int .i64 a, .int .i64 b, v]) (hs : SizeOk a b) : RetV Try.prog 227 [.pointer (some ⟨p, 0, none⟩), .agg #[.int .i64 x, .int .i64 y, .int .i64 dx, .int .i64 dy]] w (.bool (decide (VW a b (x, y, dx, dy)))) := by
  obtain ⟨hs1, hs2, hs3, hs4⟩ := id hs
  refine Ret.enter Try.func227 rfl Try.ntmps227 rfl ?_
  refine Run.seq ?_
  refine Run.region ?_
  refine Ops.go rfl (Loud.box rfl rfl) ?_
  rintro _ _ ⟨b3, rfl, rfl⟩
  refine Ops.pure rfl (Pure.assign rfl) ?_
  refine Ops.nil ?_
  refine Run.seq ?_
  refine Run.region ?_
  refine Ops.pure rfl (Pure.fieldAddrB fld167_1 rfl) ?_
  refine Ops.pure rfl (Pure.ldB 0 rfl cell2 rfl rfl) ?_
  refine Ops.q rfl (QOp.call fn243 rfl (fun w hw => f_s_l03Sign w _)) ?_
  refine Ops.pure rfl (Pure.move rfl) ?_
  refine Ops.guard rfl rfl rfl rfl (fun c8 => ?_) (fun c8 => ?_)
  · skip
    have c8' := dT c8
    refine Ops.pure rfl (Pure.fieldAddrB fld167_2 rfl) ?_
    refine Ops.guardY rfl rfl rfl c8 ?_
    refine Ops.pure rfl (Pure.ldB 0 rfl cell2 rfl rfl) ?_
    refine Ops.guardY rfl rfl rfl c8 ?_
    refine Ops.q rfl (QOp.call fn243 rfl (fun w hw => f_s_l03Sign w _)) ?_
    refine Ops.pure rfl (Pure.pickT rfl c8 rfl) ?_
    refine Ops.pure rfl (Pure.move rfl) ?_
    refine Ops.guard rfl rfl rfl rfl (fun c13 => ?_) (fun c13 => ?_)
    · skip
      have c13' := dT c13
      refine Ops.pure rfl (Pure.move rfl) ?_
      refine Ops.guardY rfl rfl rfl c13 ?_
      refine Ops.pure rfl (Pure.fieldAddrB fld167_0 rfl) ?_
      refine Ops.guardY rfl rfl rfl c13 ?_
      refine Ops.pure rfl (Pure.ldBA 0 rfl cell72 rfl rfl rfl) ?_
      refine Ops.guardY rfl rfl rfl c13 ?_
      refine Ops.q rfl (QOp.call fn199 rfl (fun w hw => f_s_l02Has w _ _ _ _ _ _ (by exact RdL.old (by assumption) w hw) (by assumption))) ?_
      refine Ops.pure rfl (Pure.pickT rfl c13 rfl) ?_
      refine Ops.pure rfl (Pure.move rfl) ?_
      refine Ops.guard rfl rfl rfl rfl (fun c19 => ?_) (fun c19 => ?_)
      · skip
        have c19' := dT c19
        have hmid := ptOk_mid hs (show PtOk a b x y by assumption)
        refine Ops.pure rfl (Pure.move rfl) ?_
        refine Ops.guardY rfl rfl rfl c19 ?_
        refine Ops.pure rfl (Pure.ldBA 0 rfl cell167 rfl rfl rfl) ?_
        refine Ops.guardY rfl rfl rfl c19 ?_
        refine Ops.q rfl (QOp.call fn226 rfl (fun w hw => f_s_l03Next w _ _ _ _ (by omega) (by omega) (by omega) (by omega))) ?_
        refine Ops.guardY rfl rfl rfl c19 ?_
        refine Ops.q rfl (QOp.call fn199 rfl (fun w hw => f_s_l02Has w _ _ _ _ _ _ (by exact RdL.old (by assumption) w hw) (by assumption))) ?_
        refine Ops.pure rfl (Pure.pickT rfl c19 rfl) ?_
        refine Ops.pure rfl (Pure.assign rfl) ?_
        refine Ops.nil ?_
        refine Run.ret1 rfl rfl ?_
        first
          | rfl
          | (rw [decide_eq_false (by rw [VW_mk]; rintro ⟨q1, q2, q3, q4⟩; first | omega | contradiction)])
          | exact congrArg Value.bool (decide_eq_decide.2 (by rw [VW_mk]; exact ⟨fun q4 => ⟨by omega, by omega, by assumption, q4⟩, fun q => q.2.2.2⟩))
      · skip
        replace c19 := Bool.eq_false_of_ne c19
        have c19' := dF c19
        refine Ops.guardN rfl rfl rfl rfl (by rw [c19]; decide) ?_
        refine Ops.guardN rfl rfl rfl rfl (by rw [c19]; decide) ?_
        refine Ops.guardN rfl rfl rfl rfl (by rw [c19]; decide) ?_
        refine Ops.pure rfl (Pure.pickF rfl c19 rfl) ?_
        refine Ops.pure rfl (Pure.assign rfl) ?_
        refine Ops.nil ?_
        refine Run.ret1 rfl rfl ?_
        first
          | rfl
          | (rw [decide_eq_false (by rw [VW_mk]; rintro ⟨q1, q2, q3, q4⟩; first | omega | contradiction)])
          | exact congrArg Value.bool (decide_eq_decide.2 (by rw [VW_mk]; exact ⟨fun q4 => ⟨by omega, by omega, by assumption, q4⟩, fun q => q.2.2.2⟩))
    · skip
      replace c13 := Bool.eq_false_of_ne c13
      have c13' := dF c13
      refine Ops.guardN rfl rfl rfl rfl (by rw [c13]; decide) ?_
      refine Ops.guardN rfl rfl rfl rfl (by rw [c13]; decide) ?_
      refine Ops.guardN rfl rfl rfl rfl (by rw [c13]; decide) ?_
      refine Ops.pure rfl (Pure.pickF rfl c13 rfl) ?_
      refine Ops.pure rfl (Pure.move rfl) ?_
      refine Ops.guardN rfl rfl rfl rfl (by decide) ?_
      refine Ops.guardN rfl rfl rfl rfl (by decide) ?_
      refine Ops.guardN rfl rfl rfl rfl (by decide) ?_
      refine Ops.guardN rfl rfl rfl rfl (by decide) ?_
      refine Ops.pure rfl (Pure.pickF rfl rfl rfl) ?_
      refine Ops.pure rfl (Pure.assign rfl) ?_
      refine Ops.nil ?_
      refine Run.ret1 rfl rfl ?_
      first
        | rfl
        | (rw [decide_eq_false (by rw [VW_mk]; rintro ⟨q1, q2, q3, q4⟩; first | omega | contradiction)])
        | exact congrArg Value.bool (decide_eq_decide.2 (by rw [VW_mk]; exact ⟨fun q4 => ⟨by omega, by omega, by assumption, q4⟩, fun q => q.2.2.2⟩))
  · skip
    replace c8 := Bool.eq_false_of_ne c8
    have c8' := dF c8
    refine Ops.guardN rfl rfl rfl rfl (by rw [c8]; decide) ?_
    refine Ops.guardN rfl rfl rfl rfl (by rw [c8]; decide) ?_
    refine Ops.pure rfl (Pure.pickF rfl c8 rfl) ?_
    refine Ops.pure rfl (Pure.move rfl) ?_
    refine Ops.guardN rfl rfl rfl rfl (by decide) ?_
    refine Ops.guardN rfl rfl rfl rfl (by decide) ?_
    refine Ops.guardN rfl rfl rfl rfl (by decide) ?_
    refine Ops.guardN rfl rfl rfl rfl (by decide) ?_
    refine Ops.pure rfl (Pure.pickF rfl rfl rfl) ?_
    refine Ops.pure rfl (Pure.move rfl) ?_
    refine Ops.guardN rfl rfl rfl rfl (by decide) ?_
    refine Ops.guardN rfl rfl rfl rfl (by decide) ?_
    refine Ops.guardN rfl rfl rfl rfl (by decide) ?_
    refine Ops.guardN rfl rfl rfl rfl (by decide) ?_
    refine Ops.pure rfl (Pure.pickF rfl rfl rfl) ?_
    refine Ops.pure rfl (Pure.assign rfl) ?_
    refine Ops.nil ?_
    refine Run.ret1 rfl rfl ?_
    first
      | rfl
      | (rw [decide_eq_false (by rw [VW_mk]; rintro ⟨q1, q2, q3, q4⟩; first | omega | contradiction)])
      | exact congrArg Value.bool (decide_eq_decide.2 (by rw [VW_mk]; exact ⟨fun q4 => ⟨by omega, by omega, by assumption, q4⟩, fun q => q.2.2.2⟩))

set_option maxRecDepth 4000 in
/-- spec.l03Code -/
theorem f_s_l03Code (w : World) (p : Nat) (a : Int) (b : Int) (v : Value) (l : List Int) (x : Int) (y : Int) (dx : Int) (dy : Int) (hp : Rd w (boxS p) 3 1 [.int .i64 a, .int .i64 b, v]) (hv : Rd w v 1 l.length (ints l)) (hl : l.length ≤ 1073741824) (a0 : -9223372036854775808 ≤ a) (a1 : a ≤ 9223372036854775807) (b0 : -9223372036854775808 ≤ b) (b1 : b ≤ 9223372036854775807) : RetV Try.prog 211 [.pointer (some ⟨p, 0, none⟩), .agg #[.int .i64 x, .int .i64 y, .int .i64 dx, .int .i64 dy]] w (.int .i64 (wkE a b l x y dx dy)) := by
  refine Ret.enter Try.func211 rfl Try.ntmps211 rfl ?_
  refine Run.seq ?_
  refine Run.region ?_
  refine Ops.go rfl (Loud.box rfl rfl) ?_
  rintro _ _ ⟨b3, rfl, rfl⟩
  refine Ops.pure rfl (Pure.assign rfl) ?_
  refine Ops.nil ?_
  refine Run.seq ?_
  refine Run.seq ?_
  refine Run.region ?_
  refine Ops.pure rfl (Pure.move rfl) ?_
  refine Ops.q rfl (QOp.call fn99 rfl (fun w hw => f_s_l02Ok w _ _ _ _ _ (by exact RdL.old (by assumption) w hw) (by exact RdL.old (by assumption) w hw) (by assumption) (by assumption) (by assumption) (by assumption) (by assumption))) ?_
  refine Ops.pure rfl (Pure.not rfl) ?_
  refine Ops.pure rfl (Pure.move rfl) ?_
  refine Ops.guard rfl rfl rfl rfl (fun c8 => ?_) (fun c8 => ?_)
  · skip
    have c8' := bF c8
    refine Ops.pure rfl (Pure.move rfl) ?_
    refine Ops.guardY rfl rfl rfl c8 ?_
    refine Ops.pure rfl (Pure.ldBA 0 rfl cell167 rfl rfl rfl) ?_
    refine Ops.guardY rfl rfl rfl c8 ?_
    refine Ops.q rfl (QOp.call fn227 rfl (fun w hw => f_s_l03Ok w _ _ _ _ _ _ _ _ (by exact RdL.old (by assumption) w hw) (by exact okP_size (by assumption)))) ?_
    refine Ops.guardY rfl rfl rfl c8 ?_
    refine Ops.pure rfl (Pure.not rfl) ?_
    refine Ops.pure rfl (Pure.pickF rfl c8 rfl) ?_
    refine Ops.nil ?_
    refine Run.cond rfl (fun c13 => ?_) (fun c13 => ?_)
    · skip
      replace c13 := nT c13
      refine Run.seq ?_
      refine Run.region ?_
      refine Ops.pure rfl (Pure.assign rfl) ?_
      refine Ops.nil ?_
      refine Run.ret1 rfl rfl ?_
      first
        | (rw [wkE_bad (fun h => by rw [c8'] at h; exact absurd h.1 (by decide))])
        | (rw [wkE_bad (fun h => c13 h.2)])
        | (rw [wkE_ok ⟨c8', c13⟩])
    · skip
      replace c13 := nF c13
      refine Run.skip ?_
      refine Run.seq ?_
      refine Run.region ?_
      refine Ops.pure rfl (Pure.assign rfl) ?_
      refine Ops.nil ?_
      refine Run.ret1 rfl rfl ?_
      first
        | (rw [wkE_bad (fun h => by rw [c8'] at h; exact absurd h.1 (by decide))])
        | (rw [wkE_bad (fun h => c13 h.2)])
        | (rw [wkE_ok ⟨c8', c13⟩])
  · skip
    replace c8 := Bool.eq_true_of_ne c8
    have c8' := bT c8
    refine Ops.guardN rfl rfl rfl rfl (by rw [c8]; decide) ?_
    refine Ops.guardN rfl rfl rfl rfl (by rw [c8]; decide) ?_
    refine Ops.guardN rfl rfl rfl rfl (by rw [c8]; decide) ?_
    refine Ops.pure rfl (Pure.pickT rfl c8 rfl) ?_
    refine Ops.nil ?_
    refine Run.condE rfl rfl ?_
    refine Run.seq ?_
    refine Run.region ?_
    refine Ops.pure rfl (Pure.assign rfl) ?_
    refine Ops.nil ?_
    refine Run.ret1 rfl rfl ?_
    first
      | (rw [wkE_bad (fun h => by rw [c8'] at h; exact absurd h.1 (by decide))])
      | (rw [wkE_bad (fun h => c13 h.2)])
      | (rw [wkE_ok ⟨c8', c13⟩])

set_option maxRecDepth 4000 in
/-- spec.l13Over -/
theorem f_s_l13Over (w : World) (a : Int) (b : Int) (x : Int) (y : Int) (dx : Int) (dy : Int) (hs : SizeOk a b) (hvw : VW a b (x, y, dx, dy)) : RetV Try.prog 246 [.agg #[.int .i64 x, .int .i64 y, .int .i64 dx, .int .i64 dy]] w (.bool (decide (slp (x + dx) = dx * dy))) := by
  have hm := VW_mid hs hvw
  refine Ret.enter Try.func246 rfl Try.ntmps246 rfl ?_
  refine Run.seq ?_
  refine Run.region ?_
  refine Ops.go rfl (Loud.box rfl rfl) ?_
  rintro _ _ ⟨b1, rfl, rfl⟩
  refine Ops.pure rfl (Pure.assign rfl) ?_
  refine Ops.nil ?_
  refine Run.seq ?_
  refine Any.start follows ?_
  refine Any.take 0 rfl (by kernel_rfl) rfl (QOp.pure (Pure.ldBA 0 rfl cell167 rfl rfl rfl)) ?_
  refine Any.take 1 rfl (by kernel_rfl) rfl (QOp.call fn226 rfl (fun w hw => f_s_l03Next w _ _ _ _ (by omega) (by omega) (by omega) (by omega))) ?_
  refine Any.take 2 rfl (by kernel_rfl) rfl (QOp.call fn252 rfl (fun w hw => f_s_l13Slope w _ _ (by omega))) ?_
  refine Any.take 3 rfl (by kernel_rfl) rfl (QOp.pure (Pure.fieldAddrB fld167_1 rfl)) ?_
  refine Any.take 4 rfl (by kernel_rfl) rfl (QOp.pure (Pure.ldB 0 rfl cell2 rfl rfl)) ?_
  refine Any.take 5 rfl (by kernel_rfl) rfl (QOp.pure (Pure.fieldAddrB fld167_2 rfl)) ?_
  refine Any.take 6 rfl (by kernel_rfl) rfl (QOp.pure (Pure.ldB 0 rfl cell2 rfl rfl)) ?_
  refine Any.take 7 rfl (by kernel_rfl) rfl (QOp.pure (Pure.mul rfl rfl (by omega) (by omega))) ?_
  refine Any.take 8 rfl (by kernel_rfl) rfl (QOp.pure (Pure.eql rfl rfl)) ?_
  refine Any.take 9 rfl (by kernel_rfl) rfl (QOp.pure (Pure.assign rfl)) ?_
  refine Any.done (by kernel_rfl) ?_
  refine Run.ret1 rfl rfl ?_
  rfl

end Go.Proofs.Ytmfinopdokkjcaa
