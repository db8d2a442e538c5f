/- Contracts of functions, printed by program from annotations. -/
import Derived.Test.YtmfinopdokkjcaaPtsM
namespace Go.Proofs.Ytmfinopdokkjcaa
open Go Go.AW Go.RowKit
set_option linter.unusedVariables false
set_option linter.unusedSimpArgs false

/-- lines cross at the point -/
def CrAt (a b : Int) (l : List Int) (x y : Int) : Prop := ¬ Edge a b x y ∧ l.getD (num a x y).toNat 0 = 0
instance (a b : Int) (l : List Int) (x y : Int) : Decidable (CrAt a b l x y) := by unfold CrAt; infer_instance
/-- the code of a panel and a crossing -/
def crE (a b : Int) (l : List Int) (x y : Int) : Int := if okP a b l = true then (if PtOk a b x y then (if CrAt a b l x y then 0 else 6) else 2) else 1
theorem crE_bad {a b x y : Int} {l : List Int} (h : okP a b l = false) : crE a b l x y = 1 := by unfold crE; rw [if_neg (by rw [h]; decide)]
theorem crE_out {a b x y : Int} {l : List Int} (h : okP a b l = true) (hp : ¬ PtOk a b x y) : crE a b l x y = 2 := by unfold crE; rw [if_pos h, if_neg hp]
theorem crE_no {a b x y : Int} {l : List Int} (h : okP a b l = true) (hp : PtOk a b x y) (he : ¬ CrAt a b l x y) : crE a b l x y = 6 := by unfold crE; rw [if_pos h, if_pos hp, if_neg he]
theorem crE_ok {a b x y : Int} {l : List Int} (h : okP a b l = true) (hp : PtOk a b x y) (he : CrAt a b l x y) : crE a b l x y = 0 := by unfold crE; rw [if_pos h, if_pos hp, if_pos he]
theorem crE_zero {a b x y : Int} {l : List Int} (h : crE a b l x y = 0) : okP a b l = true ∧ PtOk a b x y ∧ CrAt a b l x y := by
  unfold crE at h
  split at h
  · split at h
    · split at h
      · exact ⟨by assumption, by assumption, by assumption⟩
      · cases h
    · cases h
  · cases h
theorem crE_pt {a b x y : Int} {l : List Int} (h : ¬ ptE a b l x y = 0) : crE a b l x y = ptE a b l x y := by
  unfold crE ptE at *
  by_cases h1 : okP a b l = true
  · by_cases h2 : PtOk a b x y
    · by_cases h3 : Edge a b x y
      · simp only [h1, h2, h3, if_true, CrAt, not_true, false_and, if_false]
      · simp [h1, h2, h3] at h
    · simp only [h1, h2, if_true, if_false]
  · rw [if_neg h1, if_neg h1]
/-- the slope of the line that lies over -/
def slp (x : Int) : Int := if x % 2 = 1 then 1 else -1
theorem slp_odd {x : Int} (h : x % 2 = 1) : slp x = 1 := by unfold slp; rw [if_pos h]
theorem slp_even {x : Int} (h : ¬ x % 2 = 1) : slp x = -1 := by unfold slp; rw [if_neg h]
theorem slp_bd (x : Int) : slp x = 1 ∨ slp x = -1 := by unfold slp; split; exact .inl rfl; exact .inr rfl
def slE (a b : Int) (l : List Int) (x y : Int) : Int := if crE a b l x y = 0 then slp x else 0
theorem slE_bad {a b x y : Int} {l : List Int} (h : ¬ crE a b l x y = 0) : slE a b l x y = 0 := by unfold slE; rw [if_neg h]
theorem slE_ok {a b x y : Int} {l : List Int} (h : crE a b l x y = 0) : slE a b l x y = slp x := by unfold slE; rw [if_pos h]
/-- how many crossings come ahead -/
def zlen (l : List Int) (k : Nat) : Nat := (zeros l k).length
theorem zlen_yes {l : List Int} {k : Nat} (h : l.getD k 0 = 0) : zlen l (k + 1) = zlen l k + 1 := by unfold zlen; rw [zeros_yes h]; simp
theorem zlen_no {l : List Int} {k : Nat} (h : ¬ l.getD k 0 = 0) : zlen l (k + 1) = zlen l k := by unfold zlen; rw [zeros_no h]
theorem zlen_le (l : List Int) (k : Nat) : zlen l k ≤ k := length_zeros l k
def ixE (a b : Int) (l : List Int) (x y : Int) : Int := if crE a b l x y = 0 then (zlen l (num a x y).toNat : Int) else 0
theorem ixE_bad {a b x y : Int} {l : List Int} (h : ¬ crE a b l x y = 0) : ixE a b l x y = 0 := by unfold ixE; rw [if_neg h]
theorem ixE_ok {a b x y : Int} {l : List Int} (h : crE a b l x y = 0) : ixE a b l x y = zlen l (num a x y).toNat := by unfold ixE; rw [if_pos h]
theorem take_getD {l : List Int} {h k : Nat} (hk : k < h) : (l.take h).getD k 0 = l.getD k 0 := by simp [List.getD, List.getElem?_take, hk]
theorem Rd.upTo {w : World} {v : Value} {l : List Int} {h : Nat} (hv : Rd w v 1 l.length (ints l)) (hh : h ≤ l.length) : Rd w (subS v 1 0 h) 1 h (ints (l.take h)) := by
  have := hv.sub1 (lo := 0) (hi := h) (by omega) hh
  simpa using this

set_option maxRecDepth 4000 in
/-- (impl.Panel).isPoint -/
theorem f_i_Panel_isPoint (w : World) (a : Int) (b : Int) (v : Value) (x : Int) (y : Int) (hs : SizeOk a b) : RetV Try.prog 197 [.agg #[.int .i64 a, .int .i64 b, v], .agg #[.int .i64 x, .int .i64 y]] w (.bool (decide (PtOk a b x y))) := by
  obtain ⟨hs1, hs2, hs3, hs4⟩ := id hs
  refine Ret.enter Try.func197 rfl Try.ntmps197 rfl ?_
  refine Run.seq ?_
  refine Run.region ?_
  refine Ops.go rfl (Loud.box rfl rfl) ?_
  rintro _ _ ⟨b2, rfl, rfl⟩
  refine Ops.go rfl (Loud.box rfl rfl) ?_
  rintro _ _ ⟨b3, rfl, rfl⟩
  refine Ops.pure rfl (Pure.assign rfl) ?_
  refine Ops.nil ?_
  refine Run.seq ?_
  refine Run.region ?_
  refine Ops.pure rfl (Pure.fieldAddrB fld72_0 rfl) ?_
  refine Ops.pure rfl (Pure.ldB 0 rfl cell2 rfl rfl) ?_
  refine Ops.pure rfl (Pure.fieldAddrB fld35_0 rfl) ?_
  refine Ops.pure rfl (Pure.ldB 1 rfl cell2 rfl rfl) ?_
  refine Ops.pure rfl (Pure.mul rfl rfl (by omega) (by omega)) ?_
  refine Ops.q rfl (QOp.call fn93 rfl (fun w hw => f_i_inRange w _ _ _)) ?_
  refine Ops.pure rfl (Pure.move rfl) ?_
  refine Ops.guard rfl rfl rfl rfl (fun c11 => ?_) (fun c11 => ?_)
  · skip
    have c11' := dT c11
    refine Ops.pure rfl (Pure.fieldAddrB fld72_1 rfl) ?_
    refine Ops.guardY rfl rfl rfl c11 ?_
    refine Ops.pure rfl (Pure.ldB 0 rfl cell2 rfl rfl) ?_
    refine Ops.guardY rfl rfl rfl c11 ?_
    refine Ops.pure rfl (Pure.fieldAddrB fld35_1 rfl) ?_
    refine Ops.guardY rfl rfl rfl c11 ?_
    refine Ops.pure rfl (Pure.ldB 1 rfl cell2 rfl rfl) ?_
    refine Ops.guardY rfl rfl rfl c11 ?_
    refine Ops.pure rfl (Pure.mul rfl rfl (by omega) (by omega)) ?_
    refine Ops.guardY rfl rfl rfl c11 ?_
    refine Ops.q rfl (QOp.call fn93 rfl (fun w hw => f_i_inRange w _ _ _)) ?_
    refine Ops.pure rfl (Pure.pickT rfl c11 rfl) ?_
    refine Ops.pure rfl (Pure.move rfl) ?_
    refine Ops.guard rfl rfl rfl rfl (fun c19 => ?_) (fun c19 => ?_)
    · skip
      have c19' := dT c19
      refine Ops.pure rfl (Pure.fieldAddrB fld72_0 rfl) ?_
      refine Ops.guardY rfl rfl rfl c19 ?_
      refine Ops.pure rfl (Pure.ldB 0 rfl cell2 rfl rfl) ?_
      refine Ops.guardY rfl rfl rfl c19 ?_
      refine Ops.pure rfl (Pure.fieldAddrB fld72_1 rfl) ?_
      refine Ops.guardY rfl rfl rfl c19 ?_
      refine Ops.pure rfl (Pure.ldB 0 rfl cell2 rfl rfl) ?_
      refine Ops.guardY rfl rfl rfl c19 ?_
      refine Ops.pure rfl (Pure.add rfl rfl (by omega) (by omega)) ?_
      refine Ops.guardY rfl rfl rfl c19 ?_
      refine Ops.pure rfl (Pure.rem rfl rfl (by omega) (by omega)) ?_
      refine Ops.guardY rfl rfl rfl c19 ?_
      refine Ops.pure rfl (Pure.eql rfl rfl) ?_
      refine Ops.pure rfl (Pure.pickT rfl c19 rfl) ?_
      refine Ops.pure rfl (Pure.assign rfl) ?_
      refine Ops.nil ?_
      refine Run.ret1 rfl rfl ?_
      first
        | rfl
        | (rw [decide_eq_false (by unfold PtOk; omega)])
        | (rw [decide_eq_true (by unfold PtOk; omega)])
        | exact congrArg Value.bool (decide_eq_decide.2 (by unfold PtOk; omega))
        | (rw [decide_eq_false (by unfold PtOk; simp_all)])
        | (rw [decide_eq_true (by unfold PtOk; simp_all)])
        | exact congrArg Value.bool (decide_eq_decide.2 (by unfold PtOk; simp_all))
    · skip
      replace c19 := Bool.eq_false_of_ne c19
      have c19' := dF c19
      refine Ops.guardN rfl rfl rfl rfl (by rw [c19]; decide) ?_
      refine Ops.guardN rfl rfl rfl rfl (by rw [c19]; decide) ?_
      refine Ops.guardN rfl rfl rfl rfl (by rw [c19]; decide) ?_
      refine Ops.guardN rfl rfl rfl rfl (by rw [c19]; decide) ?_
      refine Ops.guardN rfl rfl rfl rfl (by rw [c19]; decide) ?_
      refine Ops.guardN rfl rfl rfl rfl (by rw [c19]; decide) ?_
      refine Ops.pure rfl (Pure.pickF rfl c19 rfl) ?_
      refine Ops.pure rfl (Pure.assign rfl) ?_
      refine Ops.nil ?_
      refine Run.ret1 rfl rfl ?_
      first
        | rfl
        | (rw [decide_eq_false (by unfold PtOk; omega)])
        | (rw [decide_eq_true (by unfold PtOk; omega)])
        | exact congrArg Value.bool (decide_eq_decide.2 (by unfold PtOk; omega))
        | (rw [decide_eq_false (by unfold PtOk; simp_all)])
        | (rw [decide_eq_true (by unfold PtOk; simp_all)])
        | exact congrArg Value.bool (decide_eq_decide.2 (by unfold PtOk; simp_all))
  · skip
    replace c11 := Bool.eq_false_of_ne c11
    have c11' := dF c11
    refine Ops.guardN rfl rfl rfl rfl (by rw [c11]; decide) ?_
    refine Ops.guardN rfl rfl rfl rfl (by rw [c11]; decide) ?_
    refine Ops.guardN rfl rfl rfl rfl (by rw [c11]; decide) ?_
    refine Ops.guardN rfl rfl rfl rfl (by rw [c11]; decide) ?_
    refine Ops.guardN rfl rfl rfl rfl (by rw [c11]; decide) ?_
    refine Ops.pure rfl (Pure.pickF rfl c11 rfl) ?_
    refine Ops.pure rfl (Pure.move rfl) ?_
    refine Ops.guardN rfl rfl rfl rfl (by decide) ?_
    refine Ops.guardN rfl rfl rfl rfl (by decide) ?_
    refine Ops.guardN rfl rfl rfl rfl (by decide) ?_
    refine Ops.guardN rfl rfl rfl rfl (by decide) ?_
    refine Ops.guardN rfl rfl rfl rfl (by decide) ?_
    refine Ops.guardN rfl rfl rfl rfl (by decide) ?_
    refine Ops.guardN rfl rfl rfl rfl (by decide) ?_
    refine Ops.pure rfl (Pure.pickF rfl rfl rfl) ?_
    refine Ops.pure rfl (Pure.assign rfl) ?_
    refine Ops.nil ?_
    refine Run.ret1 rfl rfl ?_
    first
      | rfl
      | (rw [decide_eq_false (by unfold PtOk; omega)])
      | (rw [decide_eq_true (by unfold PtOk; omega)])
      | exact congrArg Value.bool (decide_eq_decide.2 (by unfold PtOk; omega))
      | (rw [decide_eq_false (by unfold PtOk; simp_all)])
      | (rw [decide_eq_true (by unfold PtOk; simp_all)])
      | exact congrArg Value.bool (decide_eq_decide.2 (by unfold PtOk; simp_all))

set_option maxRecDepth 4000 in
/-- spec.l02Has -/
theorem f_s_l02Has (w : World) (p : Nat) (a : Int) (b : Int) (v : Value) (x : Int) (y : Int) (hp : Rd w (boxS p) 3 1 [.int .i64 a, .int .i64 b, v]) (hs : SizeOk a b) : RetV Try.prog 199 [.pointer (some ⟨p, 0, none⟩), .agg #[.int .i64 x, .int .i64 y]] w (.bool (decide (PtOk a b x y))) := by
  obtain ⟨hs1, hs2, hs3, hs4⟩ := id hs
  refine Ret.enter Try.func199 rfl Try.ntmps199 rfl ?_
  refine Run.seq ?_
  refine Run.region ?_
  refine Ops.go rfl (Loud.box rfl rfl) ?_
  rintro _ _ ⟨b3, rfl, rfl⟩
  refine Ops.pure rfl (Pure.assign rfl) ?_
  refine Ops.nil ?_
  refine Run.seq ?_
  refine Any.start follows ?_
  refine Any.take 0 rfl (by kernel_rfl) rfl (QOp.pure (Pure.fieldAddrB fld72_0 rfl)) ?_
  refine Any.take 1 rfl (by kernel_rfl) rfl (QOp.pure (Pure.ldB 0 rfl cell2 rfl rfl)) ?_
  refine Any.take 2 rfl (by kernel_rfl) rfl (QOp.pure (Pure.move rfl)) ?_
  refine Any.take 3 rfl (by kernel_rfl) rfl (QOp.pure (Pure.nilchk rfl)) ?_
  refine Any.take 4 rfl (by kernel_rfl) rfl (QOp.pure (Pure.fieldAddrB fld35_0 rfl)) ?_
  refine Any.take 5 rfl (by kernel_rfl) rfl (QOp.pure (Pure.ldP cell2 rfl (RdL.old hp) rfl)) ?_
  refine Any.take 6 rfl (by kernel_rfl) rfl (QOp.pure (Pure.mul rfl rfl (by omega) (by omega))) ?_
  refine Any.take 7 rfl (by kernel_rfl) rfl (QOp.call fn119 rfl (fun w hw => f_s_l00In w _ _ _)) ?_
  refine Any.take 8 rfl (by kernel_rfl) rfl (QOp.pure (Pure.move rfl)) ?_
  refine Any.splitG 13 rfl (fun c13 => ?_) (fun c13 => ?_)
  · skip
    have c13' := dT c13
    refine Any.takeY 9 rfl (by kernel_rfl) rfl rfl rfl rfl c13 (QOp.pure (Pure.fieldAddrB fld72_1 rfl)) ?_
    refine Any.takeY 10 rfl (by kernel_rfl) rfl rfl rfl rfl c13 (QOp.pure (Pure.ldB 0 rfl cell2 rfl rfl)) ?_
    refine Any.takeY 11 rfl (by kernel_rfl) rfl rfl rfl rfl c13 (QOp.pure (Pure.move rfl)) ?_
    refine Any.takeY 12 rfl (by kernel_rfl) rfl rfl rfl rfl c13 (QOp.pure (Pure.nilchk rfl)) ?_
    refine Any.takeY 13 rfl (by kernel_rfl) rfl rfl rfl rfl c13 (QOp.pure (Pure.fieldAddrB fld35_1 rfl)) ?_
    refine Any.takeY 14 rfl (by kernel_rfl) rfl rfl rfl rfl c13 (QOp.pure (Pure.ldP cell2 rfl (RdL.old hp) rfl)) ?_
    refine Any.takeY 15 rfl (by kernel_rfl) rfl rfl rfl rfl c13 (QOp.pure (Pure.mul rfl rfl (by omega) (by omega))) ?_
    refine Any.takeY 16 rfl (by kernel_rfl) rfl rfl rfl rfl c13 (QOp.call fn119 rfl (fun w hw => f_s_l00In w _ _ _)) ?_
    refine Any.take 17 rfl (by kernel_rfl) rfl (QOp.pure (Pure.pickT rfl c13 rfl)) ?_
    refine Any.take 18 rfl (by kernel_rfl) rfl (QOp.pure (Pure.move rfl)) ?_
    refine Any.splitG 23 rfl (fun c23 => ?_) (fun c23 => ?_)
    · skip
      have c23' := dT c23
      refine Any.takeY 19 rfl (by kernel_rfl) rfl rfl rfl rfl c23 (QOp.pure (Pure.fieldAddrB fld72_0 rfl)) ?_
      refine Any.takeY 20 rfl (by kernel_rfl) rfl rfl rfl rfl c23 (QOp.pure (Pure.ldB 0 rfl cell2 rfl rfl)) ?_
      refine Any.takeY 21 rfl (by kernel_rfl) rfl rfl rfl rfl c23 (QOp.pure (Pure.fieldAddrB fld72_1 rfl)) ?_
      refine Any.takeY 22 rfl (by kernel_rfl) rfl rfl rfl rfl c23 (QOp.pure (Pure.ldB 0 rfl cell2 rfl rfl)) ?_
      refine Any.takeY 23 rfl (by kernel_rfl) rfl rfl rfl rfl c23 (QOp.pure (Pure.add rfl rfl (by omega) (by omega))) ?_
      refine Any.takeY 24 rfl (by kernel_rfl) rfl rfl rfl rfl c23 (QOp.pure (Pure.rem rfl rfl (by omega) (by omega))) ?_
      refine Any.takeY 25 rfl (by kernel_rfl) rfl rfl rfl rfl c23 (QOp.pure (Pure.eql rfl rfl)) ?_
      refine Any.take 26 rfl (by kernel_rfl) rfl (QOp.pure (Pure.pickT rfl c23 rfl)) ?_
      refine Any.take 27 rfl (by kernel_rfl) rfl (QOp.pure (Pure.assign rfl)) ?_
      refine Any.done (by kernel_rfl) ?_
      refine Run.ret1 rfl rfl ?_
      first
        | rfl
        | (rw [decide_eq_false (by unfold PtOk; omega)])
        | (rw [decide_eq_true (by unfold PtOk; omega)])
        | exact congrArg Value.bool (decide_eq_decide.2 (by unfold PtOk; omega))
        | (rw [decide_eq_false (by unfold PtOk; simp_all)])
        | (rw [decide_eq_true (by unfold PtOk; simp_all)])
        | exact congrArg Value.bool (decide_eq_decide.2 (by unfold PtOk; simp_all))
    · skip
      have c23' := dF c23
      refine Any.takeN 19 rfl (by kernel_rfl) rfl rfl rfl rfl (by rw [c23]; decide) ?_
      refine Any.takeN 20 rfl (by kernel_rfl) rfl rfl rfl rfl (by rw [c23]; decide) ?_
      refine Any.takeN 21 rfl (by kernel_rfl) rfl rfl rfl rfl (by rw [c23]; decide) ?_
      refine Any.takeN 22 rfl (by kernel_rfl) rfl rfl rfl rfl (by rw [c23]; decide) ?_
      refine Any.takeN 23 rfl (by kernel_rfl) rfl rfl rfl rfl (by rw [c23]; decide) ?_
      refine Any.takeN 24 rfl (by kernel_rfl) rfl rfl rfl rfl (by rw [c23]; decide) ?_
      refine Any.takeN 25 rfl (by kernel_rfl) rfl rfl rfl rfl (by rw [c23]; decide) ?_
      refine Any.take 26 rfl (by kernel_rfl) rfl (QOp.pure (Pure.pickF rfl c23 rfl)) ?_
      refine Any.take 27 rfl (by kernel_rfl) rfl (QOp.pure (Pure.assign rfl)) ?_
      refine Any.done (by kernel_rfl) ?_
      refine Run.ret1 rfl rfl ?_
      first
        | rfl
        | (rw [decide_eq_false (by unfold PtOk; omega)])
        | (rw [decide_eq_true (by unfold PtOk; omega)])
        | exact congrArg Value.bool (decide_eq_decide.2 (by unfold PtOk; omega))
        | (rw [decide_eq_false (by unfold PtOk; simp_all)])
        | (rw [decide_eq_true (by unfold PtOk; simp_all)])
        | exact congrArg Value.bool (decide_eq_decide.2 (by unfold PtOk; simp_all))
  · skip
    have c13' := dF c13
    refine Any.takeN 9 rfl (by kernel_rfl) rfl rfl rfl rfl (by rw [c13]; decide) ?_
    refine Any.takeN 10 rfl (by kernel_rfl) rfl rfl rfl rfl (by rw [c13]; decide) ?_
    refine Any.takeN 11 rfl (by kernel_rfl) rfl rfl rfl rfl (by rw [c13]; decide) ?_
    refine Any.takeN 12 rfl (by kernel_rfl) rfl rfl rfl rfl (by rw [c13]; decide) ?_
    refine Any.takeN 13 rfl (by kernel_rfl) rfl rfl rfl rfl (by rw [c13]; decide) ?_
    refine Any.takeN 14 rfl (by kernel_rfl) rfl rfl rfl rfl (by rw [c13]; decide) ?_
    refine Any.takeN 15 rfl (by kernel_rfl) rfl rfl rfl rfl (by rw [c13]; decide) ?_
    refine Any.takeN 16 rfl (by kernel_rfl) rfl rfl rfl rfl (by rw [c13]; decide) ?_
    refine Any.take 17 rfl (by kernel_rfl) rfl (QOp.pure (Pure.pickF rfl c13 rfl)) ?_
    refine Any.take 18 rfl (by kernel_rfl) rfl (QOp.pure (Pure.move rfl)) ?_
    refine Any.takeN 19 rfl (by kernel_rfl) rfl rfl rfl rfl (by decide) ?_
    refine Any.takeN 20 rfl (by kernel_rfl) rfl rfl rfl rfl (by decide) ?_
    refine Any.takeN 21 rfl (by kernel_rfl) rfl rfl rfl rfl (by decide) ?_
    refine Any.takeN 22 rfl (by kernel_rfl) rfl rfl rfl rfl (by decide) ?_
    refine Any.takeN 23 rfl (by kernel_rfl) rfl rfl rfl rfl (by decide) ?_
    refine Any.takeN 24 rfl (by kernel_rfl) rfl rfl rfl rfl (by decide) ?_
    refine Any.takeN 25 rfl (by kernel_rfl) rfl rfl rfl rfl (by decide) ?_
    refine Any.take 26 rfl (by kernel_rfl) rfl (QOp.pure (Pure.pickF rfl rfl rfl)) ?_
    refine Any.take 27 rfl (by kernel_rfl) rfl (QOp.pure (Pure.assign rfl)) ?_
    refine Any.done (by kernel_rfl) ?_
    refine Run.ret1 rfl rfl ?_
    first
      | rfl
      | (rw [decide_eq_false (by unfold PtOk; omega)])
      | (rw [decide_eq_true (by unfold PtOk; omega)])
      | exact congrArg Value.bool (decide_eq_decide.2 (by unfold PtOk; omega))
      | (rw [decide_eq_false (by unfold PtOk; simp_all)])
      | (rw [decide_eq_true (by unfold PtOk; simp_all)])
      | exact congrArg Value.bool (decide_eq_decide.2 (by unfold PtOk; simp_all))

set_option maxRecDepth 4000 in
/-- (impl.Panel).isBorder -/
theorem f_i_Panel_isBorder (w : World) (a : Int) (b : Int) (v : Value) (x : Int) (y : Int) (hs : SizeOk a b) : RetV Try.prog 198 [.agg #[.int .i64 a, .int .i64 b, v], .agg #[.int .i64 x, .int .i64 y]] w (.bool (decide (Edge a b x y))) := by
  obtain ⟨hs1, hs2, hs3, hs4⟩ := id hs
  refine Ret.enter Try.func198 rfl Try.ntmps198 rfl ?_
  refine Run.seq ?_
  refine Run.region ?_
  refine Ops.go rfl (Loud.box rfl rfl) ?_
  rintro _ _ ⟨b2, rfl, rfl⟩
  refine Ops.go rfl (Loud.box rfl rfl) ?_
  rintro _ _ ⟨b3, rfl, rfl⟩
  refine Ops.pure rfl (Pure.assign rfl) ?_
  refine Ops.nil ?_
  refine Run.seq ?_
  refine Run.region ?_
  refine Ops.pure rfl (Pure.fieldAddrB fld72_0 rfl) ?_
  refine Ops.pure rfl (Pure.ldB 0 rfl cell2 rfl rfl) ?_
  refine Ops.pure rfl (Pure.eql rfl rfl) ?_
  refine Ops.pure rfl (Pure.move rfl) ?_
  refine Ops.guard rfl rfl rfl rfl (fun c8 => ?_) (fun c8 => ?_)
  · skip
    have c8' := dF c8
    refine Ops.pure rfl (Pure.fieldAddrB fld72_0 rfl) ?_
    refine Ops.guardY rfl rfl rfl c8 ?_
    refine Ops.pure rfl (Pure.ldB 0 rfl cell2 rfl rfl) ?_
    refine Ops.guardY rfl rfl rfl c8 ?_
    refine Ops.pure rfl (Pure.fieldAddrB fld35_0 rfl) ?_
    refine Ops.guardY rfl rfl rfl c8 ?_
    refine Ops.pure rfl (Pure.ldB 1 rfl cell2 rfl rfl) ?_
    refine Ops.guardY rfl rfl rfl c8 ?_
    refine Ops.pure rfl (Pure.mul rfl rfl (by omega) (by omega)) ?_
    refine Ops.guardY rfl rfl rfl c8 ?_
    refine Ops.pure rfl (Pure.eql rfl rfl) ?_
    refine Ops.pure rfl (Pure.pickF rfl c8 rfl) ?_
    refine Ops.pure rfl (Pure.move rfl) ?_
    refine Ops.guard rfl rfl rfl rfl (fun c16 => ?_) (fun c16 => ?_)
    · skip
      have c16' := dF c16
      refine Ops.pure rfl (Pure.fieldAddrB fld72_1 rfl) ?_
      refine Ops.guardY rfl rfl rfl c16 ?_
      refine Ops.pure rfl (Pure.ldB 0 rfl cell2 rfl rfl) ?_
      refine Ops.guardY rfl rfl rfl c16 ?_
      refine Ops.pure rfl (Pure.eql rfl rfl) ?_
      refine Ops.pure rfl (Pure.pickF rfl c16 rfl) ?_
      refine Ops.pure rfl (Pure.move rfl) ?_
      refine Ops.guard rfl rfl rfl rfl (fun c21 => ?_) (fun c21 => ?_)
      · skip
        have c21' := dF c21
        refine Ops.pure rfl (Pure.fieldAddrB fld72_1 rfl) ?_
        refine Ops.guardY rfl rfl rfl c21 ?_
        refine Ops.pure rfl (Pure.ldB 0 rfl cell2 rfl rfl) ?_
        refine Ops.guardY rfl rfl rfl c21 ?_
        refine Ops.pure rfl (Pure.fieldAddrB fld35_1 rfl) ?_
        refine Ops.guardY rfl rfl rfl c21 ?_
        refine Ops.pure rfl (Pure.ldB 1 rfl cell2 rfl rfl) ?_
        refine Ops.guardY rfl rfl rfl c21 ?_
        refine Ops.pure rfl (Pure.mul rfl rfl (by omega) (by omega)) ?_
        refine Ops.guardY rfl rfl rfl c21 ?_
        refine Ops.pure rfl (Pure.eql rfl rfl) ?_
        refine Ops.pure rfl (Pure.pickF rfl c21 rfl) ?_
        refine Ops.pure rfl (Pure.assign rfl) ?_
        refine Ops.nil ?_
        refine Run.ret1 rfl rfl ?_
        first
          | rfl
          | (rw [decide_eq_false (by unfold Edge; omega)])
          | (rw [decide_eq_true (by unfold Edge; omega)])
          | exact congrArg Value.bool (decide_eq_decide.2 (by unfold Edge; omega))
          | (rw [decide_eq_false (by unfold Edge; simp_all)])
          | (rw [decide_eq_true (by unfold Edge; simp_all)])
          | exact congrArg Value.bool (decide_eq_decide.2 (by unfold Edge; simp_all))
      · skip
        replace c21 := Bool.eq_true_of_ne c21
        have c21' := dT c21
        refine Ops.guardN rfl rfl rfl rfl (by rw [c21]; decide) ?_
        refine Ops.guardN rfl rfl rfl rfl (by rw [c21]; decide) ?_
        refine Ops.guardN rfl rfl rfl rfl (by rw [c21]; decide) ?_
        refine Ops.guardN rfl rfl rfl rfl (by rw [c21]; decide) ?_
        refine Ops.guardN rfl rfl rfl rfl (by rw [c21]; decide) ?_
        refine Ops.pure rfl (Pure.pickT rfl c21 rfl) ?_
        refine Ops.pure rfl (Pure.assign rfl) ?_
        refine Ops.nil ?_
        refine Run.ret1 rfl rfl ?_
        first
          | rfl
          | (rw [decide_eq_false (by unfold Edge; omega)])
          | (rw [decide_eq_true (by unfold Edge; omega)])
          | exact congrArg Value.bool (decide_eq_decide.2 (by unfold Edge; omega))
          | (rw [decide_eq_false (by unfold Edge; simp_all)])
          | (rw [decide_eq_true (by unfold Edge; simp_all)])
          | exact congrArg Value.bool (decide_eq_decide.2 (by unfold Edge; simp_all))
    · skip
      replace c16 := Bool.eq_true_of_ne c16
      have c16' := dT c16
      refine Ops.guardN rfl rfl rfl rfl (by rw [c16]; decide) ?_
      refine Ops.guardN rfl rfl rfl rfl (by rw [c16]; decide) ?_
      refine Ops.pure rfl (Pure.pickT rfl c16 rfl) ?_
      refine Ops.pure rfl (Pure.move rfl) ?_
      refine Ops.guardN rfl rfl rfl rfl (by decide) ?_
      refine Ops.guardN rfl rfl rfl rfl (by decide) ?_
      refine Ops.guardN rfl rfl rfl rfl (by decide) ?_
      refine Ops.guardN rfl rfl rfl rfl (by decide) ?_
      refine Ops.guardN rfl rfl rfl rfl (by decide) ?_
      refine Ops.guardN rfl rfl rfl rfl (by decide) ?_
      refine Ops.pure rfl (Pure.pickT rfl rfl rfl) ?_
      refine Ops.pure rfl (Pure.assign rfl) ?_
      refine Ops.nil ?_
      refine Run.ret1 rfl rfl ?_
      first
        | rfl
        | (rw [decide_eq_false (by unfold Edge; omega)])
        | (rw [decide_eq_true (by unfold Edge; omega)])
        | exact congrArg Value.bool (decide_eq_decide.2 (by unfold Edge; omega))
        | (rw [decide_eq_false (by unfold Edge; simp_all)])
        | (rw [decide_eq_true (by unfold Edge; simp_all)])
        | exact congrArg Value.bool (decide_eq_decide.2 (by unfold Edge; simp_all))
  · skip
    replace c8 := Bool.eq_true_of_ne c8
    have c8' := dT c8
    refine Ops.guardN rfl rfl rfl rfl (by rw [c8]; decide) ?_
    refine Ops.guardN rfl rfl rfl rfl (by rw [c8]; decide) ?_
    refine Ops.guardN rfl rfl rfl rfl (by rw [c8]; decide) ?_
    refine Ops.guardN rfl rfl rfl rfl (by rw [c8]; decide) ?_
    refine Ops.guardN rfl rfl rfl rfl (by rw [c8]; decide) ?_
    refine Ops.pure rfl (Pure.pickT rfl c8 rfl) ?_
    refine Ops.pure rfl (Pure.move rfl) ?_
    refine Ops.guardN rfl rfl rfl rfl (by decide) ?_
    refine Ops.guardN rfl rfl rfl rfl (by decide) ?_
    refine Ops.guardN rfl rfl rfl rfl (by decide) ?_
    refine Ops.pure rfl (Pure.pickT rfl rfl rfl) ?_
    refine Ops.pure rfl (Pure.move rfl) ?_
    refine Ops.guardN rfl rfl rfl rfl (by decide) ?_
    refine Ops.guardN rfl rfl rfl rfl (by decide) ?_
    refine Ops.guardN rfl rfl rfl rfl (by decide) ?_
    refine Ops.guardN rfl rfl rfl rfl (by decide) ?_
    refine Ops.guardN rfl rfl rfl rfl (by decide) ?_
    refine Ops.guardN rfl rfl rfl rfl (by decide) ?_
    refine Ops.pure rfl (Pure.pickT rfl rfl rfl) ?_
    refine Ops.pure rfl (Pure.assign rfl) ?_
    refine Ops.nil ?_
    refine Run.ret1 rfl rfl ?_
    first
      | rfl
      | (rw [decide_eq_false (by unfold Edge; omega)])
      | (rw [decide_eq_true (by unfold Edge; omega)])
      | exact congrArg Value.bool (decide_eq_decide.2 (by unfold Edge; omega))
      | (rw [decide_eq_false (by unfold Edge; simp_all)])
      | (rw [decide_eq_true (by unfold Edge; simp_all)])
      | exact congrArg Value.bool (decide_eq_decide.2 (by unfold Edge; simp_all))

set_option maxRecDepth 4000 in
/-- spec.l02Edge -/
theorem f_s_l02Edge (w : World) (p : Nat) (a : Int) (b : Int) (v : Value) (x : Int) (y : Int) (hp : Rd w (boxS p) 3 1 [.int .i64 a, .int .i64 b, v]) (hs : SizeOk a b) : RetV Try.prog 201 [.pointer (some ⟨p, 0, none⟩), .agg #[.int .i64 x, .int .i64 y]] w (.bool (decide (Edge a b x y))) := by
  obtain ⟨hs1, hs2, hs3, hs4⟩ := id hs
  refine Ret.enter Try.func201 rfl Try.ntmps201 rfl ?_
  refine Run.seq ?_
  refine Run.region ?_
  refine Ops.go rfl (Loud.box rfl rfl) ?_
  rintro _ _ ⟨b3, rfl, rfl⟩
  refine Ops.pure rfl (Pure.assign rfl) ?_
  refine Ops.nil ?_
  refine Run.seq ?_
  refine Any.start follows ?_
  refine Any.take 0 rfl (by kernel_rfl) rfl (QOp.pure (Pure.fieldAddrB fld72_0 rfl)) ?_
  refine Any.take 1 rfl (by kernel_rfl) rfl (QOp.pure (Pure.ldB 0 rfl cell2 rfl rfl)) ?_
  refine Any.take 2 rfl (by kernel_rfl) rfl (QOp.pure (Pure.eql rfl rfl)) ?_
  refine Any.take 3 rfl (by kernel_rfl) rfl (QOp.pure (Pure.move rfl)) ?_
  refine Any.splitG 8 rfl (fun c8 => ?_) (fun c8 => ?_)
  · skip
    have c8' := dT c8
    refine Any.takeN 4 rfl (by kernel_rfl) rfl rfl rfl rfl (by rw [c8]; decide) ?_
    refine Any.takeN 5 rfl (by kernel_rfl) rfl rfl rfl rfl (by rw [c8]; decide) ?_
    refine Any.takeN 6 rfl (by kernel_rfl) rfl rfl rfl rfl (by rw [c8]; decide) ?_
    refine Any.take 7 rfl (by kernel_rfl) rfl (QOp.pure (Pure.pickT rfl c8 rfl)) ?_
    refine Any.take 8 rfl (by kernel_rfl) rfl (QOp.pure (Pure.move rfl)) ?_
    refine Any.takeN 9 rfl (by kernel_rfl) rfl rfl rfl rfl (by decide) ?_
    refine Any.takeN 10 rfl (by kernel_rfl) rfl rfl rfl rfl (by decide) ?_
    refine Any.takeN 11 rfl (by kernel_rfl) rfl rfl rfl rfl (by decide) ?_
    refine Any.takeN 12 rfl (by kernel_rfl) rfl rfl rfl rfl (by decide) ?_
    refine Any.takeN 13 rfl (by kernel_rfl) rfl rfl rfl rfl (by decide) ?_
    refine Any.takeN 14 rfl (by kernel_rfl) rfl rfl rfl rfl (by decide) ?_
    refine Any.takeN 15 rfl (by kernel_rfl) rfl rfl rfl rfl (by decide) ?_
    refine Any.takeN 16 rfl (by kernel_rfl) rfl rfl rfl rfl (by decide) ?_
    refine Any.take 17 rfl (by kernel_rfl) rfl (QOp.pure (Pure.pickT rfl rfl rfl)) ?_
    refine Any.take 18 rfl (by kernel_rfl) rfl (QOp.pure (Pure.move rfl)) ?_
    refine Any.takeN 19 rfl (by kernel_rfl) rfl rfl rfl rfl (by decide) ?_
    refine Any.takeN 20 rfl (by kernel_rfl) rfl rfl rfl rfl (by decide) ?_
    refine Any.takeN 21 rfl (by kernel_rfl) rfl rfl rfl rfl (by decide) ?_
    refine Any.takeN 22 rfl (by kernel_rfl) rfl rfl rfl rfl (by decide) ?_
    refine Any.takeN 23 rfl (by kernel_rfl) rfl rfl rfl rfl (by decide) ?_
    refine Any.takeN 24 rfl (by kernel_rfl) rfl rfl rfl rfl (by decide) ?_
    refine Any.takeN 25 rfl (by kernel_rfl) rfl rfl rfl rfl (by decide) ?_
    refine Any.takeN 26 rfl (by kernel_rfl) rfl rfl rfl rfl (by decide) ?_
    refine Any.take 27 rfl (by kernel_rfl) rfl (QOp.pure (Pure.pickT rfl rfl rfl)) ?_
    refine Any.take 28 rfl (by kernel_rfl) rfl (QOp.pure (Pure.assign rfl)) ?_
    refine Any.done (by kernel_rfl) ?_
    refine Run.ret1 rfl rfl ?_
    first
      | rfl
      | (rw [decide_eq_false (by unfold Edge; omega)])
      | (rw [decide_eq_true (by unfold Edge; omega)])
      | exact congrArg Value.bool (decide_eq_decide.2 (by unfold Edge; omega))
      | (rw [decide_eq_false (by unfold Edge; simp_all)])
      | (rw [decide_eq_true (by unfold Edge; simp_all)])
      | exact congrArg Value.bool (decide_eq_decide.2 (by unfold Edge; simp_all))
  · skip
    have c8' := dF c8
    refine Any.takeY 4 rfl (by kernel_rfl) rfl rfl rfl rfl c8 (QOp.pure (Pure.fieldAddrB fld72_1 rfl)) ?_
    refine Any.takeY 5 rfl (by kernel_rfl) rfl rfl rfl rfl c8 (QOp.pure (Pure.ldB 0 rfl cell2 rfl rfl)) ?_
    refine Any.takeY 6 rfl (by kernel_rfl) rfl rfl rfl rfl c8 (QOp.pure (Pure.eql rfl rfl)) ?_
    refine Any.take 7 rfl (by kernel_rfl) rfl (QOp.pure (Pure.pickF rfl c8 rfl)) ?_
    refine Any.take 8 rfl (by kernel_rfl) rfl (QOp.pure (Pure.move rfl)) ?_
    refine Any.splitG 13 rfl (fun c13 => ?_) (fun c13 => ?_)
    · skip
      have c13' := dT c13
      refine Any.takeN 9 rfl (by kernel_rfl) rfl rfl rfl rfl (by rw [c13]; decide) ?_
      refine Any.takeN 10 rfl (by kernel_rfl) rfl rfl rfl rfl (by rw [c13]; decide) ?_
      refine Any.takeN 11 rfl (by kernel_rfl) rfl rfl rfl rfl (by rw [c13]; decide) ?_
      refine Any.takeN 12 rfl (by kernel_rfl) rfl rfl rfl rfl (by rw [c13]; decide) ?_
      refine Any.takeN 13 rfl (by kernel_rfl) rfl rfl rfl rfl (by rw [c13]; decide) ?_
      refine Any.takeN 14 rfl (by kernel_rfl) rfl rfl rfl rfl (by rw [c13]; decide) ?_
      refine Any.takeN 15 rfl (by kernel_rfl) rfl rfl rfl rfl (by rw [c13]; decide) ?_
      refine Any.takeN 16 rfl (by kernel_rfl) rfl rfl rfl rfl (by rw [c13]; decide) ?_
      refine Any.take 17 rfl (by kernel_rfl) rfl (QOp.pure (Pure.pickT rfl c13 rfl)) ?_
      refine Any.take 18 rfl (by kernel_rfl) rfl (QOp.pure (Pure.move rfl)) ?_
      refine Any.takeN 19 rfl (by kernel_rfl) rfl rfl rfl rfl (by decide) ?_
      refine Any.takeN 20 rfl (by kernel_rfl) rfl rfl rfl rfl (by decide) ?_
      refine Any.takeN 21 rfl (by kernel_rfl) rfl rfl rfl rfl (by decide) ?_
      refine Any.takeN 22 rfl (by kernel_rfl) rfl rfl rfl rfl (by decide) ?_
      refine Any.takeN 23 rfl (by kernel_rfl) rfl rfl rfl rfl (by decide) ?_
      refine Any.takeN 24 rfl (by kernel_rfl) rfl rfl rfl rfl (by decide) ?_
      refine Any.takeN 25 rfl (by kernel_rfl) rfl rfl rfl rfl (by decide) ?_
      refine Any.takeN 26 rfl (by kernel_rfl) rfl rfl rfl rfl (by decide) ?_
      refine Any.take 27 rfl (by kernel_rfl) rfl (QOp.pure (Pure.pickT rfl rfl rfl)) ?_
      refine Any.take 28 rfl (by kernel_rfl) rfl (QOp.pure (Pure.assign rfl)) ?_
      refine Any.done (by kernel_rfl) ?_
      refine Run.ret1 rfl rfl ?_
      first
        | rfl
        | (rw [decide_eq_false (by unfold Edge; omega)])
        | (rw [decide_eq_true (by unfold Edge; omega)])
        | exact congrArg Value.bool (decide_eq_decide.2 (by unfold Edge; omega))
        | (rw [decide_eq_false (by unfold Edge; simp_all)])
        | (rw [decide_eq_true (by unfold Edge; simp_all)])
        | exact congrArg Value.bool (decide_eq_decide.2 (by unfold Edge; simp_all))
    · skip
      have c13' := dF c13
      refine Any.takeY 9 rfl (by kernel_rfl) rfl rfl rfl rfl c13 (QOp.pure (Pure.fieldAddrB fld72_0 rfl)) ?_
      refine Any.takeY 10 rfl (by kernel_rfl) rfl rfl rfl rfl c13 (QOp.pure (Pure.ldB 0 rfl cell2 rfl rfl)) ?_
      refine Any.takeY 11 rfl (by kernel_rfl) rfl rfl rfl rfl c13 (QOp.pure (Pure.move rfl)) ?_
      refine Any.takeY 12 rfl (by kernel_rfl) rfl rfl rfl rfl c13 (QOp.pure (Pure.nilchk rfl)) ?_
      refine Any.takeY 13 rfl (by kernel_rfl) rfl rfl rfl rfl c13 (QOp.pure (Pure.fieldAddrB fld35_0 rfl)) ?_
      refine Any.takeY 14 rfl (by kernel_rfl) rfl rfl rfl rfl c13 (QOp.pure (Pure.ldP cell2 rfl (RdL.old hp) rfl)) ?_
      refine Any.takeY 15 rfl (by kernel_rfl) rfl rfl rfl rfl c13 (QOp.pure (Pure.mul rfl rfl (by omega) (by omega))) ?_
      refine Any.takeY 16 rfl (by kernel_rfl) rfl rfl rfl rfl c13 (QOp.pure (Pure.eql rfl rfl)) ?_
      refine Any.take 17 rfl (by kernel_rfl) rfl (QOp.pure (Pure.pickF rfl c13 rfl)) ?_
      refine Any.take 18 rfl (by kernel_rfl) rfl (QOp.pure (Pure.move rfl)) ?_
      refine Any.splitG 23 rfl (fun c23 => ?_) (fun c23 => ?_)
      · skip
        have c23' := dT c23
        refine Any.takeN 19 rfl (by kernel_rfl) rfl rfl rfl rfl (by rw [c23]; decide) ?_
        refine Any.takeN 20 rfl (by kernel_rfl) rfl rfl rfl rfl (by rw [c23]; decide) ?_
        refine Any.takeN 21 rfl (by kernel_rfl) rfl rfl rfl rfl (by rw [c23]; decide) ?_
        refine Any.takeN 22 rfl (by kernel_rfl) rfl rfl rfl rfl (by rw [c23]; decide) ?_
        refine Any.takeN 23 rfl (by kernel_rfl) rfl rfl rfl rfl (by rw [c23]; decide) ?_
        refine Any.takeN 24 rfl (by kernel_rfl) rfl rfl rfl rfl (by rw [c23]; decide) ?_
        refine Any.takeN 25 rfl (by kernel_rfl) rfl rfl rfl rfl (by rw [c23]; decide) ?_
        refine Any.takeN 26 rfl (by kernel_rfl) rfl rfl rfl rfl (by rw [c23]; decide) ?_
        refine Any.take 27 rfl (by kernel_rfl) rfl (QOp.pure (Pure.pickT rfl c23 rfl)) ?_
        refine Any.take 28 rfl (by kernel_rfl) rfl (QOp.pure (Pure.assign rfl)) ?_
        refine Any.done (by kernel_rfl) ?_
        refine Run.ret1 rfl rfl ?_
        first
          | rfl
          | (rw [decide_eq_false (by unfold Edge; omega)])
          | (rw [decide_eq_true (by unfold Edge; omega)])
          | exact congrArg Value.bool (decide_eq_decide.2 (by unfold Edge; omega))
          | (rw [decide_eq_false (by unfold Edge; simp_all)])
          | (rw [decide_eq_true (by unfold Edge; simp_all)])
          | exact congrArg Value.bool (decide_eq_decide.2 (by unfold Edge; simp_all))
      · skip
        have c23' := dF c23
        refine Any.takeY 19 rfl (by kernel_rfl) rfl rfl rfl rfl c23 (QOp.pure (Pure.fieldAddrB fld72_1 rfl)) ?_
        refine Any.takeY 20 rfl (by kernel_rfl) rfl rfl rfl rfl c23 (QOp.pure (Pure.ldB 0 rfl cell2 rfl rfl)) ?_
        refine Any.takeY 21 rfl (by kernel_rfl) rfl rfl rfl rfl c23 (QOp.pure (Pure.move rfl)) ?_
        refine Any.takeY 22 rfl (by kernel_rfl) rfl rfl rfl rfl c23 (QOp.pure (Pure.nilchk rfl)) ?_
        refine Any.takeY 23 rfl (by kernel_rfl) rfl rfl rfl rfl c23 (QOp.pure (Pure.fieldAddrB fld35_1 rfl)) ?_
        refine Any.takeY 24 rfl (by kernel_rfl) rfl rfl rfl rfl c23 (QOp.pure (Pure.ldP cell2 rfl (RdL.old hp) rfl)) ?_
        refine Any.takeY 25 rfl (by kernel_rfl) rfl rfl rfl rfl c23 (QOp.pure (Pure.mul rfl rfl (by omega) (by omega))) ?_
        refine Any.takeY 26 rfl (by kernel_rfl) rfl rfl rfl rfl c23 (QOp.pure (Pure.eql rfl rfl)) ?_
        refine Any.take 27 rfl (by kernel_rfl) rfl (QOp.pure (Pure.pickF rfl c23 rfl)) ?_
        refine Any.take 28 rfl (by kernel_rfl) rfl (QOp.pure (Pure.assign rfl)) ?_
        refine Any.done (by kernel_rfl) ?_
        refine Run.ret1 rfl rfl ?_
        first
          | rfl
          | (rw [decide_eq_false (by unfold Edge; omega)])
          | (rw [decide_eq_true (by unfold Edge; omega)])
          | exact congrArg Value.bool (decide_eq_decide.2 (by unfold Edge; omega))
          | (rw [decide_eq_false (by unfold Edge; simp_all)])
          | (rw [decide_eq_true (by unfold Edge; simp_all)])
          | exact congrArg Value.bool (decide_eq_decide.2 (by unfold Edge; simp_all))

set_option maxRecDepth 4000 in
/-- (impl.Panel).number -/
theorem f_i_Panel_number (w : World) (a : Int) (b : Int) (v : Value) (x : Int) (y : Int) (hs : SizeOk a b) (hpt : PtOk a b x y) (hne : ¬ Edge a b x y) : RetV Try.prog 141 [.agg #[.int .i64 a, .int .i64 b, v], .agg #[.int .i64 x, .int .i64 y]] w (.int .i64 (num a x y)) := by
  obtain ⟨hs1, hs2, hs3, hs4⟩ := id hs
  have hm := num_mid hs hpt hne
  refine Ret.enter Try.func141 rfl Try.ntmps141 rfl ?_
  refine Run.seq ?_
  refine Run.region ?_
  refine Ops.go rfl (Loud.box rfl rfl) ?_
  rintro _ _ ⟨b2, rfl, rfl⟩
  refine Ops.go rfl (Loud.box rfl rfl) ?_
  rintro _ _ ⟨b3, rfl, rfl⟩
  refine Ops.pure rfl (Pure.assign rfl) ?_
  refine Ops.nil ?_
  refine Run.seq ?_
  refine Run.region ?_
  refine Ops.pure rfl (Pure.fieldAddrB fld72_1 rfl) ?_
  refine Ops.pure rfl (Pure.ldB 0 rfl cell2 rfl rfl) ?_
  refine Ops.pure rfl (Pure.quo rfl rfl (by omega) (by omega) (by omega)) ?_
  refine Ops.pure rfl (Pure.fieldAddrB fld35_0 rfl) ?_
  refine Ops.pure rfl (Pure.ldB 1 rfl cell2 rfl rfl) ?_
  refine Ops.pure rfl (Pure.sub rfl rfl (by omega) (by omega)) ?_
  refine Ops.pure rfl (Pure.mul rfl rfl (by omega) (by omega)) ?_
  refine Ops.pure rfl (Pure.fieldAddrB fld72_1 rfl) ?_
  refine Ops.pure rfl (Pure.ldB 0 rfl cell2 rfl rfl) ?_
  refine Ops.pure rfl (Pure.sub rfl rfl (by omega) (by omega)) ?_
  refine Ops.pure rfl (Pure.quo rfl rfl (by omega) (by omega) (by omega)) ?_
  refine Ops.pure rfl (Pure.fieldAddrB fld35_0 rfl) ?_
  refine Ops.pure rfl (Pure.ldB 1 rfl cell2 rfl rfl) ?_
  refine Ops.pure rfl (Pure.mul rfl rfl (by omega) (by omega)) ?_
  refine Ops.pure rfl (Pure.add rfl rfl (by omega) (by omega)) ?_
  refine Ops.pure rfl (Pure.assign rfl) ?_
  refine Ops.nil ?_
  refine Run.seq ?_
  refine Run.seq ?_
  refine Run.region ?_
  refine Ops.pure rfl (Pure.fieldAddrB fld72_1 rfl) ?_
  refine Ops.pure rfl (Pure.ldB 0 rfl cell2 rfl rfl) ?_
  refine Ops.pure rfl (Pure.rem rfl rfl (by omega) (by omega)) ?_
  refine Ops.pure rfl (Pure.eql rfl rfl) ?_
  refine Ops.nil ?_
  refine Run.cond rfl (fun c24 => ?_) (fun c24 => ?_)
  · skip
    replace c24 := dT c24
    refine Run.seq ?_
    refine Run.region ?_
    refine Ops.pure rfl (Pure.move rfl) ?_
    refine Ops.pure rfl (Pure.fieldAddrB fld72_0 rfl) ?_
    refine Ops.pure rfl (Pure.ldB 0 rfl cell2 rfl rfl) ?_
    refine Ops.pure rfl (Pure.quo rfl rfl (by omega) (by omega) (by omega)) ?_
    refine Ops.pure rfl (Pure.add rfl rfl (by omega) (by omega)) ?_
    refine Ops.pure rfl (Pure.sub rfl rfl (by omega) (by omega)) ?_
    refine Ops.pure rfl (Pure.assign rfl) ?_
    refine Ops.nil ?_
    refine Run.ret1 rfl rfl ?_
    rw [num_odd hs hpt hne c24]
  · skip
    replace c24 := dF c24
    refine Run.skip ?_
    refine Run.seq ?_
    refine Run.region ?_
    refine Ops.pure rfl (Pure.move rfl) ?_
    refine Ops.pure rfl (Pure.fieldAddrB fld72_0 rfl) ?_
    refine Ops.pure rfl (Pure.ldB 0 rfl cell2 rfl rfl) ?_
    refine Ops.pure rfl (Pure.quo rfl rfl (by omega) (by omega) (by omega)) ?_
    refine Ops.pure rfl (Pure.add rfl rfl (by omega) (by omega)) ?_
    refine Ops.pure rfl (Pure.assign rfl) ?_
    refine Ops.nil ?_
    refine Run.ret1 rfl rfl ?_
    rw [num_even hs hpt hne c24]

set_option maxRecDepth 4000 in
/-- spec.l02Row -/
theorem f_s_l02Row (w : World) (p : Nat) (a : Int) (b : Int) (v : Value) (y : Nat) (hp : Rd w (boxS p) 3 1 [.int .i64 a, .int .i64 b, v]) (hs : SizeOk a b) (hy0 : 1 ≤ y) (hy1 : (y : Int) ≤ 2 * b) : RetV Try.prog 200 [.pointer (some ⟨p, 0, none⟩), .int .i64 y] w (.int .i64 (rowN a y)) := by
  obtain ⟨hs1, hs2, hs3, hs4⟩ := id hs
  refine Ret.enter Try.func200 rfl Try.ntmps200 rfl ?_
  refine Run.seq ?_
  refine Run.region ?_
  refine Ops.pure rfl (Pure.assign rfl) ?_
  refine Ops.nil ?_
  refine Run.seq ?_
  refine Run.region ?_
  refine Ops.pure rfl (Pure.assign rfl) ?_
  refine Ops.nil ?_
  refine Run.seq ?_
  refine Run.seq ?_
  refine Run.region ?_
  refine Ops.pure rfl (Pure.assign rfl) ?_
  refine Ops.nil ?_
  refine Run.block ?_
  refine Run.loop (X := Nat) (fun k => [(0, .pointer (some ⟨p, 0, none⟩)), (1, .int .i64 y), (5, .int .i64 (rowN a k)), (6, .int .i64 k)]) (fun k => []) (fun k => 1 ≤ k ∧ k ≤ y) (fun k => y - k) 1 ?_ ?_ ?_ ?_
  · exact ⟨Nat.le_refl _, hy0⟩
  · exact ⟨rfl, rfl, by show some _ = some (Value.int .i64 (rowN a 1)); rw [show rowN a 1 = 0 by unfold rowN; omega], rfl, trivial⟩
  · exact Ext.nil _
  · intro k hinv0
    have hrb := rowN_bd (y := k) hs (by omega) (by omega)
    have hrs := rowN_succ a k
    refine Run.seq ?_
    refine Run.seq ?_
    refine Run.region ?_
    refine Ops.pure rfl (Pure.move rfl) ?_
    refine Ops.pure rfl (Pure.move rfl) ?_
    refine Ops.pure rfl (Pure.lss rfl rfl) ?_
    refine Ops.nil ?_
    refine Run.cond rfl (fun c9 => ?_) (fun c9 => ?_)
    · skip
      replace c9 := dT c9
      refine Run.skip ?_
      refine Run.seq ?_
      refine Run.block ?_
      refine Run.seq ?_
      refine Run.region ?_
      refine Ops.pure rfl (Pure.move rfl) ?_
      refine Ops.pure rfl (Pure.move rfl) ?_
      refine Ops.pure rfl (Pure.nilchk rfl) ?_
      refine Ops.pure rfl (Pure.fieldAddrB fld35_0 rfl) ?_
      refine Ops.pure rfl (Pure.ldP cell2 rfl (RdL.old hp) rfl) ?_
      refine Ops.pure rfl (Pure.add rfl rfl (by omega) (by omega)) ?_
      refine Ops.pure rfl (Pure.assign rfl) ?_
      refine Ops.nil ?_
      refine Run.seq ?_
      refine Run.region ?_
      refine Ops.pure rfl (Pure.move rfl) ?_
      refine Ops.pure rfl (Pure.remN (n := 2) rfl rfl (by omega)) ?_
      refine Ops.pure rfl (Pure.eql rfl rfl) ?_
      refine Ops.nil ?_
      refine Run.cond rfl (fun c20 => ?_) (fun c20 => ?_)
      · skip
        replace c20 := dT c20
        refine Run.region ?_
        refine Ops.pure rfl (Pure.move rfl) ?_
        refine Ops.pure rfl (Pure.sub rfl rfl (by omega) (by omega)) ?_
        refine Ops.pure rfl (Pure.assign rfl) ?_
        refine Ops.nil ?_
        refine Run.blk ?_
        refine Run.region ?_
        refine Ops.pure rfl (Pure.move rfl) ?_
        refine Ops.pure rfl (Pure.add rfl rfl (by omega) (by omega)) ?_
        refine Ops.pure rfl (Pure.assign rfl) ?_
        refine Ops.nil ?_
        refine Run.asrt ?_
        exact ⟨k + 1, ⟨⟨by omega, by omega⟩, by omega⟩, ⟨rfl, rfl, congrArg (fun x => some (Value.int .i64 x)) (by omega), rfl, trivial⟩, Ext.nil _⟩
      · skip
        replace c20 := dF c20
        refine Run.skip ?_
        refine Run.blk ?_
        refine Run.region ?_
        refine Ops.pure rfl (Pure.move rfl) ?_
        refine Ops.pure rfl (Pure.add rfl rfl (by omega) (by omega)) ?_
        refine Ops.pure rfl (Pure.assign rfl) ?_
        refine Ops.nil ?_
        refine Run.asrt ?_
        exact ⟨k + 1, ⟨⟨by omega, by omega⟩, by omega⟩, ⟨rfl, rfl, congrArg (fun x => some (Value.int .i64 x)) (by omega), rfl, trivial⟩, Ext.nil _⟩
    · skip
      replace c9 := dF c9
      refine Run.exit rfl ?_
      refine Run.seq ?_
      refine Run.region ?_
      refine Ops.pure rfl (Pure.move rfl) ?_
      refine Ops.pure rfl (Pure.assign rfl) ?_
      refine Ops.nil ?_
      refine Run.ret1 rfl rfl ?_
      have e : k = y := by omega
      subst e
      rfl

set_option maxRecDepth 4000 in
/-- spec.l02Number -/
theorem f_s_l02Number (w : World) (p : Nat) (a : Int) (b : Int) (v : Value) (x : Int) (y : Int) (hp : Rd w (boxS p) 3 1 [.int .i64 a, .int .i64 b, v]) (hs : SizeOk a b) (hpt : PtOk a b x y) (hne : ¬ Edge a b x y) : RetV Try.prog 144 [.pointer (some ⟨p, 0, none⟩), .agg #[.int .i64 x, .int .i64 y]] w (.int .i64 (num a x y)) := by
  obtain ⟨hs1, hs2, hs3, hs4⟩ := id hs
  have hm := num_mid hs hpt hne
  have hnb := num_bd hs hpt hne
  obtain ⟨m, rfl⟩ := Int.eq_ofNat_of_zero_le (show 0 ≤ y by omega)
  have hy1 : (m : Int) ≤ 2 * b := by unfold PtOk at hpt; omega
  have hrb := rowN_bd (y := m) hs (by omega) hy1
  refine Ret.enter Try.func144 rfl Try.ntmps144 rfl ?_
  refine Run.seq ?_
  refine Run.region ?_
  refine Ops.go rfl (Loud.box rfl rfl) ?_
  rintro _ _ ⟨b3, rfl, rfl⟩
  refine Ops.pure rfl (Pure.assign rfl) ?_
  refine Ops.nil ?_
  refine Run.seq ?_
  refine Any.start follows ?_
  refine Any.take 0 rfl (by kernel_rfl) rfl (QOp.pure (Pure.move rfl)) ?_
  refine Any.take 1 rfl (by kernel_rfl) rfl (QOp.pure (Pure.fieldAddrB fld72_1 rfl)) ?_
  refine Any.take 2 rfl (by kernel_rfl) rfl (QOp.pure (Pure.ldB 0 rfl cell2 rfl rfl)) ?_
  refine Any.take 3 rfl (by kernel_rfl) rfl (QOp.call fn200 rfl (fun w hw => f_s_l02Row w _ _ _ _ _ (by exact RdL.old (by assumption) w hw) (by assumption) (by omega) (by assumption))) ?_
  refine Any.take 4 rfl (by kernel_rfl) rfl (QOp.pure (Pure.fieldAddrB fld72_0 rfl)) ?_
  refine Any.take 5 rfl (by kernel_rfl) rfl (QOp.pure (Pure.ldB 0 rfl cell2 rfl rfl)) ?_
  refine Any.take 6 rfl (by kernel_rfl) rfl (QOp.pure (Pure.sub rfl rfl (by omega) (by omega))) ?_
  refine Any.take 7 rfl (by kernel_rfl) rfl (QOp.pure (Pure.quo rfl rfl (by omega) (by omega) (by omega))) ?_
  refine Any.take 8 rfl (by kernel_rfl) rfl (QOp.pure (Pure.add rfl rfl (by omega) (by omega))) ?_
  refine Any.take 9 rfl (by kernel_rfl) rfl (QOp.pure (Pure.assign rfl)) ?_
  refine Any.done (by kernel_rfl) ?_
  refine Run.ret1 rfl rfl ?_
  rfl

set_option maxRecDepth 4000 in
/-- (impl.Panel).isCrossing -/
theorem f_i_Panel_isCrossing (w : World) (a : Int) (b : Int) (v : Value) (l : List Int) (x : Int) (y : Int) (hv : Rd w v 1 l.length (ints l)) (hk : okP a b l = true) (hpt : PtOk a b x y) : RetV Try.prog 176 [.agg #[.int .i64 a, .int .i64 b, v], .agg #[.int .i64 x, .int .i64 y]] w (.bool (decide (CrAt a b l x y))) := by
  have hs := okP_size hk
  have hli := okP_inn hk
  refine Ret.enter Try.func176 rfl Try.ntmps176 rfl ?_
  refine Run.seq ?_
  refine Run.region ?_
  refine Ops.go rfl (Loud.box rfl rfl) ?_
  rintro _ _ ⟨b2, rfl, rfl⟩
  refine Ops.go rfl (Loud.box rfl rfl) ?_
  rintro _ _ ⟨b3, rfl, rfl⟩
  refine Ops.pure rfl (Pure.assign rfl) ?_
  refine Ops.nil ?_
  refine Run.seq ?_
  refine Any.start follows ?_
  refine Any.take 0 rfl (by kernel_rfl) rfl (QOp.pure (Pure.ldBA 1 rfl cell35 rfl rfl rfl)) ?_
  refine Any.take 1 rfl (by kernel_rfl) rfl (QOp.pure (Pure.ldBA 0 rfl cell72 rfl rfl rfl)) ?_
  refine Any.take 2 rfl (by kernel_rfl) rfl (QOp.call fn198 rfl (fun w hw => f_i_Panel_isBorder w _ _ _ _ _ (by assumption))) ?_
  refine Any.take 3 rfl (by kernel_rfl) rfl (QOp.pure (Pure.not rfl)) ?_
  refine Any.take 4 rfl (by kernel_rfl) rfl (QOp.pure (Pure.move rfl)) ?_
  refine Any.splitG 9 rfl (fun c9 => ?_) (fun c9 => ?_)
  · skip
    have c9' := nT c9
    have hnb := num_bd hs hpt c9'
    refine Any.takeY 5 rfl (by kernel_rfl) rfl rfl rfl rfl c9 (QOp.pure (Pure.fieldAddrB fld35_2 rfl)) ?_
    refine Any.takeY 6 rfl (by kernel_rfl) rfl rfl rfl rfl c9 (QOp.pure (Pure.ldB 1 rfl cell32 rfl rfl)) ?_
    refine Any.takeY 7 rfl (by kernel_rfl) rfl rfl rfl rfl c9 (QOp.pure (Pure.ldBA 1 rfl cell35 rfl rfl rfl)) ?_
    refine Any.takeY 8 rfl (by kernel_rfl) rfl rfl rfl rfl c9 (QOp.pure (Pure.ldBA 0 rfl cell72 rfl rfl rfl)) ?_
    refine Any.takeY 9 rfl (by kernel_rfl) rfl rfl rfl rfl c9 (QOp.call fn141 rfl (fun w hw => f_i_Panel_number w _ _ _ _ _ (by assumption) (by assumption) (by assumption))) ?_
    refine Any.takeY 10 rfl (by kernel_rfl) rfl rfl rfl rfl c9 (QOp.pure (Pure.idx1 sl32 (RdL.old hv) rfl rfl (by first | assumption | omega | (simp; omega)) (by first | assumption | omega | (simp; omega)))) ?_
    refine Any.takeY 11 rfl (by kernel_rfl) rfl rfl rfl rfl c9 (QOp.pure (Pure.ld cell2 rfl (RdL.old hv) (by first | exact ints_get (by omega) | exact bools_get (by omega) | exact strs_get (by omega) | exact vals_get (by first | omega | (simp; omega))))) ?_
    refine Any.takeY 12 rfl (by kernel_rfl) rfl rfl rfl rfl c9 (QOp.pure (Pure.eql rfl rfl)) ?_
    refine Any.take 13 rfl (by kernel_rfl) rfl (QOp.pure (Pure.pickT rfl c9 rfl)) ?_
    refine Any.take 14 rfl (by kernel_rfl) rfl (QOp.pure (Pure.assign rfl)) ?_
    refine Any.done (by kernel_rfl) ?_
    refine Run.ret1 rfl rfl ?_
    first
      | rfl
      | (rw [decide_eq_false (by unfold CrAt; omega)])
      | (rw [decide_eq_true (by unfold CrAt; omega)])
      | exact congrArg Value.bool (decide_eq_decide.2 (by unfold CrAt; omega))
      | (rw [decide_eq_false (by unfold CrAt; simp_all)])
      | (rw [decide_eq_true (by unfold CrAt; simp_all)])
      | exact congrArg Value.bool (decide_eq_decide.2 (by unfold CrAt; simp_all))
  · skip
    have c9' := nF c9
    refine Any.takeN 5 rfl (by kernel_rfl) rfl rfl rfl rfl (by rw [c9]; decide) ?_
    refine Any.takeN 6 rfl (by kernel_rfl) rfl rfl rfl rfl (by rw [c9]; decide) ?_
    refine Any.takeN 7 rfl (by kernel_rfl) rfl rfl rfl rfl (by rw [c9]; decide) ?_
    refine Any.takeN 8 rfl (by kernel_rfl) rfl rfl rfl rfl (by rw [c9]; decide) ?_
    refine Any.takeN 9 rfl (by kernel_rfl) rfl rfl rfl rfl (by rw [c9]; decide) ?_
    refine Any.takeN 10 rfl (by kernel_rfl) rfl rfl rfl rfl (by rw [c9]; decide) ?_
    refine Any.takeN 11 rfl (by kernel_rfl) rfl rfl rfl rfl (by rw [c9]; decide) ?_
    refine Any.takeN 12 rfl (by kernel_rfl) rfl rfl rfl rfl (by rw [c9]; decide) ?_
    refine Any.take 13 rfl (by kernel_rfl) rfl (QOp.pure (Pure.pickF rfl c9 rfl)) ?_
    refine Any.take 14 rfl (by kernel_rfl) rfl (QOp.pure (Pure.assign rfl)) ?_
    refine Any.done (by kernel_rfl) ?_
    refine Run.ret1 rfl rfl ?_
    first
      | rfl
      | (rw [decide_eq_false (by unfold CrAt; omega)])
      | (rw [decide_eq_true (by unfold CrAt; omega)])
      | exact congrArg Value.bool (decide_eq_decide.2 (by unfold CrAt; omega))
      | (rw [decide_eq_false (by unfold CrAt; simp_all)])
      | (rw [decide_eq_true (by unfold CrAt; simp_all)])
      | exact congrArg Value.bool (decide_eq_decide.2 (by unfold CrAt; simp_all))

set_option maxRecDepth 4000 in
/-- spec.l13Is -/
theorem f_s_l13Is (w : World) (p : Nat) (a : Int) (b : Int) (v : Value) (l : List Int) (x : Int) (y : Int) (hp : Rd w (boxS p) 3 1 [.int .i64 a, .int .i64 b, v]) (hv : Rd w v 1 l.length (ints l)) (hk : okP a b l = true) (hpt : PtOk a b x y) : RetV Try.prog 244 [.pointer (some ⟨p, 0, none⟩), .agg #[.int .i64 x, .int .i64 y]] w (.bool (decide (CrAt a b l x y))) := by
  have hs := okP_size hk
  have hli := okP_inn hk
  refine Ret.enter Try.func244 rfl Try.ntmps244 rfl ?_
  refine Run.seq ?_
  refine Run.region ?_
  refine Ops.go rfl (Loud.box rfl rfl) ?_
  rintro _ _ ⟨b3, rfl, rfl⟩
  refine Ops.pure rfl (Pure.assign rfl) ?_
  refine Ops.nil ?_
  refine Run.seq ?_
  refine Any.start follows ?_
  refine Any.take 0 rfl (by kernel_rfl) rfl (QOp.pure (Pure.move rfl)) ?_
  refine Any.take 1 rfl (by kernel_rfl) rfl (QOp.pure (Pure.ldBA 0 rfl cell72 rfl rfl rfl)) ?_
  refine Any.take 2 rfl (by kernel_rfl) rfl (QOp.call fn201 rfl (fun w hw => f_s_l02Edge w _ _ _ _ _ _ (by exact RdL.old (by assumption) w hw) (by assumption))) ?_
  refine Any.take 3 rfl (by kernel_rfl) rfl (QOp.pure (Pure.not rfl)) ?_
  refine Any.take 4 rfl (by kernel_rfl) rfl (QOp.pure (Pure.move rfl)) ?_
  refine Any.splitG 9 rfl (fun c9 => ?_) (fun c9 => ?_)
  · skip
    have c9' := nT c9
    have hnb := num_bd hs hpt c9'
    refine Any.takeY 5 rfl (by kernel_rfl) rfl rfl rfl rfl c9 (QOp.pure (Pure.move rfl)) ?_
    refine Any.takeY 6 rfl (by kernel_rfl) rfl rfl rfl rfl c9 (QOp.pure (Pure.nilchk rfl)) ?_
    refine Any.takeY 7 rfl (by kernel_rfl) rfl rfl rfl rfl c9 (QOp.pure (Pure.fieldAddrB fld35_2 rfl)) ?_
    refine Any.takeY 8 rfl (by kernel_rfl) rfl rfl rfl rfl c9 (QOp.pure (Pure.ldP cell32 rfl (RdL.old hp) rfl)) ?_
    refine Any.takeY 9 rfl (by kernel_rfl) rfl rfl rfl rfl c9 (QOp.pure (Pure.move rfl)) ?_
    refine Any.takeY 10 rfl (by kernel_rfl) rfl rfl rfl rfl c9 (QOp.pure (Pure.ldBA 0 rfl cell72 rfl rfl rfl)) ?_
    refine Any.takeY 11 rfl (by kernel_rfl) rfl rfl rfl rfl c9 (QOp.call fn144 rfl (fun w hw => f_s_l02Number w _ _ _ _ _ _ (by exact RdL.old (by assumption) w hw) (by assumption) (by assumption) (by assumption))) ?_
    refine Any.takeY 12 rfl (by kernel_rfl) rfl rfl rfl rfl c9 (QOp.pure (Pure.idx1 sl32 (RdL.old hv) rfl rfl (by first | assumption | omega | (simp; omega)) (by first | assumption | omega | (simp; omega)))) ?_
    refine Any.takeY 13 rfl (by kernel_rfl) rfl rfl rfl rfl c9 (QOp.pure (Pure.ld cell2 rfl (RdL.old hv) (by first | exact ints_get (by omega) | exact bools_get (by omega) | exact strs_get (by omega) | exact vals_get (by first | omega | (simp; omega))))) ?_
    refine Any.takeY 14 rfl (by kernel_rfl) rfl rfl rfl rfl c9 (QOp.pure (Pure.eql rfl rfl)) ?_
    refine Any.take 15 rfl (by kernel_rfl) rfl (QOp.pure (Pure.pickT rfl c9 rfl)) ?_
    refine Any.take 16 rfl (by kernel_rfl) rfl (QOp.pure (Pure.assign rfl)) ?_
    refine Any.done (by kernel_rfl) ?_
    refine Run.ret1 rfl rfl ?_
    first
      | rfl
      | (rw [decide_eq_false (by unfold CrAt; omega)])
      | (rw [decide_eq_true (by unfold CrAt; omega)])
      | exact congrArg Value.bool (decide_eq_decide.2 (by unfold CrAt; omega))
      | (rw [decide_eq_false (by unfold CrAt; simp_all)])
      | (rw [decide_eq_true (by unfold CrAt; simp_all)])
      | exact congrArg Value.bool (decide_eq_decide.2 (by unfold CrAt; simp_all))
  · skip
    have c9' := nF c9
    refine Any.takeN 5 rfl (by kernel_rfl) rfl rfl rfl rfl (by rw [c9]; decide) ?_
    refine Any.takeN 6 rfl (by kernel_rfl) rfl rfl rfl rfl (by rw [c9]; decide) ?_
    refine Any.takeN 7 rfl (by kernel_rfl) rfl rfl rfl rfl (by rw [c9]; decide) ?_
    refine Any.takeN 8 rfl (by kernel_rfl) rfl rfl rfl rfl (by rw [c9]; decide) ?_
    refine Any.takeN 9 rfl (by kernel_rfl) rfl rfl rfl rfl (by rw [c9]; decide) ?_
    refine Any.takeN 10 rfl (by kernel_rfl) rfl rfl rfl rfl (by rw [c9]; decide) ?_
    refine Any.takeN 11 rfl (by kernel_rfl) rfl rfl rfl rfl (by rw [c9]; decide) ?_
    refine Any.takeN 12 rfl (by kernel_rfl) rfl rfl rfl rfl (by rw [c9]; decide) ?_
    refine Any.takeN 13 rfl (by kernel_rfl) rfl rfl rfl rfl (by rw [c9]; decide) ?_
    refine Any.takeN 14 rfl (by kernel_rfl) rfl rfl rfl rfl (by rw [c9]; decide) ?_
    refine Any.take 15 rfl (by kernel_rfl) rfl (QOp.pure (Pure.pickF rfl c9 rfl)) ?_
    refine Any.take 16 rfl (by kernel_rfl) rfl (QOp.pure (Pure.assign rfl)) ?_
    refine Any.done (by kernel_rfl) ?_
    refine Run.ret1 rfl rfl ?_
    first
      | rfl
      | (rw [decide_eq_false (by unfold CrAt; omega)])
      | (rw [decide_eq_true (by unfold CrAt; omega)])
      | exact congrArg Value.bool (decide_eq_decide.2 (by unfold CrAt; omega))
      | (rw [decide_eq_false (by unfold CrAt; simp_all)])
      | (rw [decide_eq_true (by unfold CrAt; simp_all)])
      | exact congrArg Value.bool (decide_eq_decide.2 (by unfold CrAt; simp_all))

set_option maxRecDepth 4000 in
/-- impl.overSlope -/
theorem f_i_overSlope (w : World) (x : Int) (y : Int) (h0 : 0 ≤ x) : RetV Try.prog 178 [.agg #[.int .i64 x, .int .i64 y]] w (.int .i64 (slp x)) := by
  refine Ret.enter Try.func178 rfl Try.ntmps178 rfl ?_
  refine Run.seq ?_
  refine Run.region ?_
  refine Ops.go rfl (Loud.box rfl rfl) ?_
  rintro _ _ ⟨b1, rfl, rfl⟩
  refine Ops.pure rfl (Pure.assign rfl) ?_
  refine Ops.nil ?_
  refine Run.seq ?_
  refine Run.seq ?_
  refine Run.region ?_
  refine Ops.pure rfl (Pure.fieldAddrB fld72_0 rfl) ?_
  refine Ops.pure rfl (Pure.ldB 0 rfl cell2 rfl rfl) ?_
  refine Ops.pure rfl (Pure.rem rfl rfl (by omega) (by omega)) ?_
  refine Ops.pure rfl (Pure.eql rfl rfl) ?_
  refine Ops.nil ?_
  refine Run.cond rfl (fun c6 => ?_) (fun c6 => ?_)
  · skip
    replace c6 := dT c6
    refine Run.seq ?_
    refine Run.region ?_
    refine Ops.pure rfl (Pure.assign rfl) ?_
    refine Ops.nil ?_
    refine Run.ret1 rfl rfl ?_
    rw [slp_odd c6]
  · skip
    replace c6 := dF c6
    refine Run.skip ?_
    refine Run.seq ?_
    refine Run.region ?_
    refine Ops.pure rfl (Pure.assign rfl) ?_
    refine Ops.nil ?_
    refine Run.ret1 rfl rfl ?_
    rw [slp_even c6]

set_option maxRecDepth 4000 in
/-- spec.l13Slope -/
theorem f_s_l13Slope (w : World) (x : Int) (y : Int) (h0 : 0 ≤ x) : RetV Try.prog 252 [.agg #[.int .i64 x, .int .i64 y]] w (.int .i64 (slp x)) := by
  refine Ret.enter Try.func252 rfl Try.ntmps252 rfl ?_
  refine Run.seq ?_
  refine Run.region ?_
  refine Ops.go rfl (Loud.box rfl rfl) ?_
  rintro _ _ ⟨b1, rfl, rfl⟩
  refine Ops.pure rfl (Pure.assign rfl) ?_
  refine Ops.nil ?_
  refine Run.seq ?_
  refine Run.seq ?_
  refine Run.region ?_
  refine Ops.pure rfl (Pure.fieldAddrB fld72_0 rfl) ?_
  refine Ops.pure rfl (Pure.ldB 0 rfl cell2 rfl rfl) ?_
  refine Ops.pure rfl (Pure.rem rfl rfl (by omega) (by omega)) ?_
  refine Ops.pure rfl (Pure.eql rfl rfl) ?_
  refine Ops.nil ?_
  refine Run.cond rfl (fun c6 => ?_) (fun c6 => ?_)
  · skip
    replace c6 := dT c6
    refine Run.seq ?_
    refine Run.region ?_
    refine Ops.pure rfl (Pure.assign rfl) ?_
    refine Ops.nil ?_
    refine Run.ret1 rfl rfl ?_
    rw [slp_odd c6]
  · skip
    replace c6 := dF c6
    refine Run.skip ?_
    refine Run.seq ?_
    refine Run.region ?_
    refine Ops.pure rfl (Pure.assign rfl) ?_
    refine Ops.nil ?_
    refine Run.ret1 rfl rfl ?_
    rw [slp_even c6]

set_option maxRecDepth 4000 in
/-- spec.l02Code -/
theorem f_s_l02Code (w : World) (p : Nat) (a : Int) (b : Int) (v : Value) (l : List Int) (x : Int) (y : Int) (hp : Rd w (boxS p) 3 1 [.int .i64 a, .int .i64 b, v]) (hv : Rd w v 1 l.length (ints l)) (hl : l.length ≤ 1073741824) (a0 : -9223372036854775808 ≤ a) (a1 : a ≤ 9223372036854775807) (b0 : -9223372036854775808 ≤ b) (b1 : b ≤ 9223372036854775807) : RetV Try.prog 146 [.pointer (some ⟨p, 0, none⟩), .agg #[.int .i64 x, .int .i64 y]] w (.int .i64 (ptE a b l x y)) := by
  refine Ret.enter Try.func146 rfl Try.ntmps146 rfl ?_
  refine Run.seq ?_
  refine Run.region ?_
  refine Ops.go rfl (Loud.box rfl rfl) ?_
  rintro _ _ ⟨b3, rfl, rfl⟩
  refine Ops.pure rfl (Pure.assign rfl) ?_
  refine Ops.nil ?_
  refine Run.seq ?_
  refine Run.seq ?_
  refine Run.region ?_
  refine Ops.pure rfl (Pure.move rfl) ?_
  refine Ops.q rfl (QOp.call fn99 rfl (fun w hw => f_s_l02Ok w _ _ _ _ _ (by exact RdL.old (by assumption) w hw) (by exact RdL.old (by assumption) w hw) (by assumption) (by assumption) (by assumption) (by assumption) (by assumption))) ?_
  refine Ops.pure rfl (Pure.not rfl) ?_
  refine Ops.nil ?_
  refine Run.cond rfl (fun c7 => ?_) (fun c7 => ?_)
  · skip
    replace c7 := bT c7
    refine Run.seq ?_
    refine Run.region ?_
    refine Ops.pure rfl (Pure.assign rfl) ?_
    refine Ops.nil ?_
    refine Run.ret1 rfl rfl ?_
    rw [ptE_bad c7]
  · skip
    replace c7 := bF c7
    refine Run.skip ?_
    refine Run.seq ?_
    refine Run.seq ?_
    refine Run.region ?_
    refine Ops.pure rfl (Pure.move rfl) ?_
    refine Ops.pure rfl (Pure.ldBA 0 rfl cell72 rfl rfl rfl) ?_
    refine Ops.q rfl (QOp.call fn199 rfl (fun w hw => f_s_l02Has w _ _ _ _ _ _ (by exact RdL.old (by assumption) w hw) (by exact okP_size (by assumption)))) ?_
    refine Ops.pure rfl (Pure.not rfl) ?_
    refine Ops.nil ?_
    refine Run.cond rfl (fun c11 => ?_) (fun c11 => ?_)
    · skip
      replace c11 := nT c11
      refine Run.seq ?_
      refine Run.region ?_
      refine Ops.pure rfl (Pure.assign rfl) ?_
      refine Ops.nil ?_
      refine Run.ret1 rfl rfl ?_
      rw [ptE_out c7 c11]
    · skip
      replace c11 := nF c11
      refine Run.skip ?_
      refine Run.seq ?_
      refine Run.seq ?_
      refine Run.region ?_
      refine Ops.pure rfl (Pure.move rfl) ?_
      refine Ops.pure rfl (Pure.ldBA 0 rfl cell72 rfl rfl rfl) ?_
      refine Ops.q rfl (QOp.call fn201 rfl (fun w hw => f_s_l02Edge w _ _ _ _ _ _ (by exact RdL.old (by assumption) w hw) (by exact okP_size (by assumption)))) ?_
      refine Ops.nil ?_
      refine Run.cond rfl (fun c14 => ?_) (fun c14 => ?_)
      · skip
        replace c14 := dT c14
        refine Run.seq ?_
        refine Run.region ?_
        refine Ops.pure rfl (Pure.assign rfl) ?_
        refine Ops.nil ?_
        refine Run.ret1 rfl rfl ?_
        rw [ptE_edge c7 c11 c14]
      · skip
        replace c14 := dF c14
        refine Run.skip ?_
        refine Run.seq ?_
        refine Run.region ?_
        refine Ops.pure rfl (Pure.assign rfl) ?_
        refine Ops.nil ?_
        refine Run.ret1 rfl rfl ?_
        rw [ptE_ok c7 c11 c14]

set_option maxRecDepth 4000 in
/-- (impl.Panel).crossingIndex -/
theorem f_i_Panel_crossingIndex (w : World) (a : Int) (b : Int) (v : Value) (l : List Int) (x : Int) (y : Int) (hv : Rd w v 1 l.length (ints l)) (hk : okP a b l = true) (hpt : PtOk a b x y) (hcr : CrAt a b l x y) : RetV Try.prog 177 [.agg #[.int .i64 a, .int .i64 b, v], .agg #[.int .i64 x, .int .i64 y]] w (.int .i64 (zlen l (num a x y).toNat : Int)) := by
  have hs := okP_size hk
  have hli := okP_inn hk
  have hne := hcr.1
  have hnb := num_bd hs hpt hne
  have hin := inn_eq hs
  have hn2 : ((num a x y).toNat : Int) = num a x y := by omega
  have hn3 : (num a x y).toNat ≤ l.length := by omega
  have hv2 := Rd.upTo hv hn3
  refine Ret.enter Try.func177 rfl Try.ntmps177 rfl ?_
  refine Run.seq ?_
  refine Run.region ?_
  refine Ops.go rfl (Loud.box rfl rfl) ?_
  rintro _ _ ⟨b2, rfl, rfl⟩
  refine Ops.go rfl (Loud.box rfl rfl) ?_
  rintro _ _ ⟨b3, rfl, rfl⟩
  refine Ops.pure rfl (Pure.assign rfl) ?_
  refine Ops.nil ?_
  refine Run.seq ?_
  refine Run.region ?_
  refine Ops.pure rfl (Pure.assign rfl) ?_
  refine Ops.nil ?_
  refine Run.seq ?_
  refine Run.seq ?_
  refine Any.start follows ?_
  refine Any.take 0 rfl (by kernel_rfl) rfl (QOp.pure (Pure.fieldAddrB fld35_2 rfl)) ?_
  refine Any.take 1 rfl (by kernel_rfl) rfl (QOp.pure (Pure.ldB 1 rfl cell32 rfl rfl)) ?_
  refine Any.take 2 rfl (by kernel_rfl) rfl (QOp.pure (Pure.ldBA 1 rfl cell35 rfl rfl rfl)) ?_
  refine Any.take 3 rfl (by kernel_rfl) rfl (QOp.pure (Pure.ldBA 0 rfl cell72 rfl rfl rfl)) ?_
  refine Any.take 4 rfl (by kernel_rfl) rfl (QOp.call fn141 rfl (fun w hw => f_i_Panel_number w _ _ _ _ _ (by assumption) (by assumption) (by assumption))) ?_
  refine Any.take 5 rfl (by kernel_rfl) rfl (QOp.pure (Pure.sliceH sl32 (RdL.old hv) rfl rfl (by omega) (by omega))) ?_
  refine Any.take 6 rfl (by kernel_rfl) rfl (QOp.pure (Pure.len sl32 (RdL.old hv2) rfl)) ?_
  refine Any.take 7 rfl (by kernel_rfl) rfl (QOp.pure (Pure.move rfl)) ?_
  refine Any.done (by kernel_rfl) ?_
  refine Run.block ?_
  refine Run.loop (X := Nat) (fun k => [(5, .int .i64 (zlen l k)), (13, subS v 1 0 (num a x y).toNat), (14, .int .i64 (num a x y).toNat), (15, .int .i64 k)]) (fun k => []) (fun k => k ≤ (num a x y).toNat) (fun k => (num a x y).toNat - k) 0 ?_ ?_ ?_ ?_
  · exact Nat.zero_le _
  · exact ⟨rfl, rfl, rfl, rfl, trivial⟩
  · exact Ext.nil _
  · intro k hinv0
    have hzb := zlen_le l k
    have htl : (l.take (num a x y).toNat).length = (num a x y).toNat := by rw [List.length_take]; omega
    refine Run.seq ?_
    refine Run.region ?_
    refine Ops.pure rfl (Pure.lss rfl rfl) ?_
    refine Ops.nil ?_
    refine Run.seq ?_
    refine Run.cond rfl (fun c16 => ?_) (fun c16 => ?_)
    · skip
      replace c16 := dT c16
      refine Run.skip ?_
      refine Run.seq ?_
      refine Run.block ?_
      refine Run.seq ?_
      refine Run.region ?_
      refine Ops.pure rfl (Pure.idx1N sl32 (RdL.old hv2) rfl rfl (by first | assumption | omega | (simp; omega))) ?_
      refine Ops.pure rfl (Pure.ld cell2 rfl (RdL.old hv2) (by first | exact ints_get (by omega) | exact bools_get (by omega) | exact strs_get (by omega) | exact vals_get (by first | omega | (simp; omega)))) ?_
      refine Ops.pure rfl (Pure.assign rfl) ?_
      refine Ops.nil ?_
      refine Run.seq ?_
      refine Run.region ?_
      refine Ops.pure rfl (Pure.move rfl) ?_
      refine Ops.pure rfl (Pure.eql rfl rfl) ?_
      refine Ops.nil ?_
      refine Run.cond rfl (fun c20 => ?_) (fun c20 => ?_)
      · skip
        replace c20 := dT c20
        refine Run.region ?_
        refine Ops.pure rfl (Pure.move rfl) ?_
        refine Ops.pure rfl (Pure.add rfl rfl (by omega) (by omega)) ?_
        refine Ops.pure rfl (Pure.assign rfl) ?_
        refine Ops.nil ?_
        refine Run.blk ?_
        refine Run.region ?_
        refine Ops.pure rfl (Pure.add rfl rfl (by omega) (by omega)) ?_
        refine Ops.pure rfl (Pure.move rfl) ?_
        refine Ops.nil ?_
        refine Run.asrt ?_
        first
          | exact ⟨k + 1, ⟨by omega, by omega⟩, ⟨congrArg (fun x => some (Value.int .i64 x)) (by rw [zlen_yes (by rw [← take_getD (h := (num a x y).toNat) (by omega)]; exact c20)]; omega), rfl, rfl, rfl, trivial⟩, Ext.nil _⟩
          | exact ⟨k + 1, ⟨by omega, by omega⟩, ⟨congrArg (fun x => some (Value.int .i64 x)) (by rw [zlen_no (by rw [← take_getD (h := (num a x y).toNat) (by omega)]; exact c20)]), rfl, rfl, rfl, trivial⟩, Ext.nil _⟩
      · skip
        replace c20 := dF c20
        refine Run.skip ?_
        refine Run.blk ?_
        refine Run.region ?_
        refine Ops.pure rfl (Pure.add rfl rfl (by omega) (by omega)) ?_
        refine Ops.pure rfl (Pure.move rfl) ?_
        refine Ops.nil ?_
        refine Run.asrt ?_
        first
          | exact ⟨k + 1, ⟨by omega, by omega⟩, ⟨congrArg (fun x => some (Value.int .i64 x)) (by rw [zlen_yes (by rw [← take_getD (h := (num a x y).toNat) (by omega)]; exact c20)]; omega), rfl, rfl, rfl, trivial⟩, Ext.nil _⟩
          | exact ⟨k + 1, ⟨by omega, by omega⟩, ⟨congrArg (fun x => some (Value.int .i64 x)) (by rw [zlen_no (by rw [← take_getD (h := (num a x y).toNat) (by omega)]; exact c20)]), rfl, rfl, rfl, trivial⟩, Ext.nil _⟩
    · skip
      replace c16 := dF c16
      refine Run.exit rfl ?_
      refine Run.seq ?_
      refine Run.region ?_
      refine Ops.pure rfl (Pure.move rfl) ?_
      refine Ops.pure rfl (Pure.assign rfl) ?_
      refine Ops.nil ?_
      refine Run.ret1 rfl rfl ?_
      have e : k = (num a x y).toNat := by omega
      subst e
      rfl

set_option maxRecDepth 4000 in
/-- spec.l13Index -/
theorem f_s_l13Index (w : World) (p : Nat) (a : Int) (b : Int) (v : Value) (l : List Int) (x : Int) (y : Int) (hp : Rd w (boxS p) 3 1 [.int .i64 a, .int .i64 b, v]) (hv : Rd w v 1 l.length (ints l)) (hk : okP a b l = true) (hpt : PtOk a b x y) (hcr : CrAt a b l x y) : RetV Try.prog 245 [.pointer (some ⟨p, 0, none⟩), .agg #[.int .i64 x, .int .i64 y]] w (.int .i64 (zlen l (num a x y).toNat : Int)) := by
  have hs := okP_size hk
  have hli := okP_inn hk
  have hne := hcr.1
  have hnb := num_bd hs hpt hne
  have hin := inn_eq hs
  have hn2 : ((num a x y).toNat : Int) = num a x y := by omega
  have hn3 : (num a x y).toNat ≤ l.length := by omega
  refine Ret.enter Try.func245 rfl Try.ntmps245 rfl ?_
  refine Run.seq ?_
  refine Run.region ?_
  refine Ops.go rfl (Loud.box rfl rfl) ?_
  rintro _ _ ⟨b3, rfl, rfl⟩
  refine Ops.pure rfl (Pure.assign rfl) ?_
  refine Ops.nil ?_
  refine Run.seq ?_
  refine Run.region ?_
  refine Ops.pure rfl (Pure.assign rfl) ?_
  refine Ops.nil ?_
  refine Run.seq ?_
  refine Run.seq ?_
  refine Run.region ?_
  refine Ops.pure rfl (Pure.assign rfl) ?_
  refine Ops.nil ?_
  refine Run.block ?_
  refine Run.loop (X := Nat) (fun k => [(0, .pointer (some ⟨p, 0, none⟩)), (3, .pointer (some ⟨b3, 0, none⟩)), (5, .int .i64 (zlen l k)), (6, .int .i64 k)]) (fun k => [.box b3 72 [.int .i64 x, .int .i64 y]]) (fun k => k ≤ (num a x y).toNat) (fun k => (num a x y).toNat - k) 0 ?_ ?_ ?_ ?_
  · exact Nat.zero_le _
  · exact ⟨rfl, rfl, rfl, rfl, trivial⟩
  · exact Ext.refl _
  · intro k hinv0
    have hzb := zlen_le l k
    refine Run.seq ?_
    refine Run.seq ?_
    refine Run.region ?_
    refine Ops.pure rfl (Pure.move rfl) ?_
    refine Ops.pure rfl (Pure.move rfl) ?_
    refine Ops.pure rfl (Pure.ldBA 0 rfl cell72 rfl rfl rfl) ?_
    refine Ops.q rfl (QOp.call fn144 rfl (fun w hw => f_s_l02Number w _ _ _ _ _ _ (by exact RdL.old (by assumption) w hw) (by assumption) (by assumption) (by assumption))) ?_
    refine Ops.pure rfl (Pure.lss rfl rfl) ?_
    refine Ops.nil ?_
    refine Run.cond rfl (fun c11 => ?_) (fun c11 => ?_)
    · skip
      replace c11 := dT c11
      refine Run.skip ?_
      refine Run.seq ?_
      refine Run.block ?_
      refine Run.seq ?_
      refine Run.region ?_
      refine Ops.pure rfl (Pure.move rfl) ?_
      refine Ops.pure rfl (Pure.nilchk rfl) ?_
      refine Ops.pure rfl (Pure.fieldAddrB fld35_2 rfl) ?_
      refine Ops.pure rfl (Pure.ldP cell32 rfl (RdL.old hp) rfl) ?_
      refine Ops.pure rfl (Pure.move rfl) ?_
      refine Ops.pure rfl (Pure.idx1N sl32 (RdL.old hv) rfl rfl (by first | assumption | omega | (simp; omega))) ?_
      refine Ops.pure rfl (Pure.ld cell2 rfl (RdL.old hv) (by first | exact ints_get (by omega) | exact bools_get (by omega) | exact strs_get (by omega) | exact vals_get (by first | omega | (simp; omega)))) ?_
      refine Ops.pure rfl (Pure.eql rfl rfl) ?_
      refine Ops.nil ?_
      refine Run.cond rfl (fun c21 => ?_) (fun c21 => ?_)
      · skip
        replace c21 := dT c21
        refine Run.region ?_
        refine Ops.pure rfl (Pure.move rfl) ?_
        refine Ops.pure rfl (Pure.add rfl rfl (by omega) (by omega)) ?_
        refine Ops.pure rfl (Pure.assign rfl) ?_
        refine Ops.nil ?_
        refine Run.blk ?_
        refine Run.region ?_
        refine Ops.pure rfl (Pure.move rfl) ?_
        refine Ops.pure rfl (Pure.add rfl rfl (by omega) (by omega)) ?_
        refine Ops.pure rfl (Pure.assign rfl) ?_
        refine Ops.nil ?_
        refine Run.asrt ?_
        first
          | exact ⟨k + 1, ⟨by omega, by omega⟩, ⟨rfl, rfl, congrArg (fun x => some (Value.int .i64 x)) (by rw [zlen_yes c21]; omega), rfl, trivial⟩, Ext.refl _⟩
          | exact ⟨k + 1, ⟨by omega, by omega⟩, ⟨rfl, rfl, congrArg (fun x => some (Value.int .i64 x)) (by rw [zlen_no c21]), rfl, trivial⟩, Ext.refl _⟩
      · skip
        replace c21 := dF c21
        refine Run.skip ?_
        refine Run.blk ?_
        refine Run.region ?_
        refine Ops.pure rfl (Pure.move rfl) ?_
        refine Ops.pure rfl (Pure.add rfl rfl (by omega) (by omega)) ?_
        refine Ops.pure rfl (Pure.assign rfl) ?_
        refine Ops.nil ?_
        refine Run.asrt ?_
        first
          | exact ⟨k + 1, ⟨by omega, by omega⟩, ⟨rfl, rfl, congrArg (fun x => some (Value.int .i64 x)) (by rw [zlen_yes c21]; omega), rfl, trivial⟩, Ext.refl _⟩
          | exact ⟨k + 1, ⟨by omega, by omega⟩, ⟨rfl, rfl, congrArg (fun x => some (Value.int .i64 x)) (by rw [zlen_no c21]), rfl, trivial⟩, Ext.refl _⟩
    · skip
      replace c11 := dF c11
      refine Run.exit rfl ?_
      refine Run.seq ?_
      refine Run.region ?_
      refine Ops.pure rfl (Pure.move rfl) ?_
      refine Ops.pure rfl (Pure.assign rfl) ?_
      refine Ops.nil ?_
      refine Run.ret1 rfl rfl ?_
      have e : k = (num a x y).toNat := by omega
      subst e
      rfl

end Go.Proofs.Ytmfinopdokkjcaa
