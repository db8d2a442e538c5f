/- Contracts of functions, printed by program from annotations. -/
import Derived.Test.YtmfinopdokkjcaaLawN
namespace Go.Proofs.Ytmfinopdokkjcaa
open Go Go.AW Go.RowKit
set_option linter.unusedVariables false
set_option linter.unusedSimpArgs false

def numTo (l : List Int) : Nat → Int
  | 0 => 0
  | k + 1 => 3 * numTo l k + l.getD k 0
theorem numTo_bd {a b : Int} {l : List Int} (h : okP a b l = true) : ∀ k, k ≤ l.length → 0 ≤ numTo l k ∧ numTo l k < p3 k
  | 0, _ => ⟨Int.le_refl _, by show (0 : Int) < ((p3 0 : Nat) : Int); decide⟩
  | k + 1, hk => by
    have h1 := numTo_bd h k (by omega)
    have h2 := okP_at h (k := k) (by omega)
    have h3 := p3_succ k
    show 0 ≤ 3 * numTo l k + l.getD k 0 ∧ 3 * numTo l k + l.getD k 0 < p3 (k + 1)
    omega
def pnE (a b : Int) (l : List Int) : Int := if okP a b l then pcE a b else 1
def pnN (a b : Int) (l : List Int) : Int := if okP a b l then (if pcE a b = 0 then numTo l l.length else 0) else 0
theorem pn_bad {a b : Int} {l : List Int} (h : okP a b l = false) : pnE a b l = 1 ∧ pnN a b l = 0 := by unfold pnE pnN; rw [h]; exact ⟨rfl, rfl⟩
theorem pn_many {a b : Int} {l : List Int} (h : okP a b l = true) (h0 : ¬ pcE a b = 0) : pnE a b l = pcE a b ∧ pnN a b l = 0 := by unfold pnE pnN; rw [h, if_pos rfl, if_pos rfl, if_neg h0]; exact ⟨rfl, rfl⟩
theorem pn_ok {a b : Int} {l : List Int} (h : okP a b l = true) (h0 : pcE a b = 0) : pnE a b l = 0 ∧ pnN a b l = numTo l l.length := by unfold pnE pnN; rw [h, if_pos rfl, if_pos rfl, if_pos h0, h0]; exact ⟨rfl, rfl⟩
theorem p3_small {a b : Int} {l : List Int} (h : okP a b l = true) (h0 : pcE a b = 0) {k : Nat} (hk : k ≤ l.length) : p3 k ≤ 2500 := by
  have h1 := (okP_spec h).2.1
  have h2 := (pc_zero h0).2.1
  have h3 := p3_mono (show k ≤ inn a b by omega)
  unfold many at h2
  omega

set_option maxRecDepth 4000 in
/-- impl.PanelNumber -/
theorem f_i_PanelNumber (w : World) (a : Int) (b : Int) (v : Value) (l : List Int) (hv : Rd w v 1 l.length (ints l)) (hl : l.length ≤ 1073741824) (a0 : -9223372036854775808 ≤ a) (a1 : a ≤ 9223372036854775807) (b0 : -9223372036854775808 ≤ b) (b1 : b ≤ 9223372036854775807) : RetV Try.prog 36 [.agg #[.int .i64 a, .int .i64 b, v]] w (.tuple #[.int .i64 (pnN a b l), .int .i64 (pnE a b l)]) := by
  refine Ret.enter Try.func36 rfl Try.ntmps36 rfl ?_
  refine Run.seq ?_
  refine Run.region ?_
  refine Ops.go rfl (Loud.box rfl rfl) ?_
  rintro _ _ ⟨b1, rfl, rfl⟩
  refine Ops.pure rfl (Pure.assign rfl) ?_
  refine Ops.pure rfl (Pure.assign rfl) ?_
  refine Ops.nil ?_
  refine Run.seq ?_
  refine Run.seq ?_
  refine Run.region ?_
  refine Ops.pure rfl (Pure.ldBA 0 rfl cell35 rfl rfl rfl) ?_
  refine Ops.q rfl (QOp.call fn96 rfl (fun w hw => f_i_ValidPanel w _ _ _ _ (by exact RdL.old (by assumption) w hw) (by assumption) (by assumption) (by assumption) (by assumption) (by assumption))) ?_
  refine Ops.pure rfl (Pure.not rfl) ?_
  refine Ops.nil ?_
  refine Run.cond rfl (fun c11 => ?_) (fun c11 => ?_)
  · skip
    replace c11 := bT c11
    refine Run.seq ?_
    refine Run.region ?_
    refine Ops.pure rfl (Pure.assign rfl) ?_
    refine Ops.pure rfl (Pure.assign rfl) ?_
    refine Ops.nil ?_
    refine Run.ret2 rfl rfl rfl ?_
    rw [(pn_bad c11).1, (pn_bad c11).2]
  · skip
    replace c11 := bF c11
    refine Run.skip ?_
    refine Run.seq ?_
    refine Run.seq ?_
    refine Run.region ?_
    refine Ops.pure rfl (Pure.fieldAddrB fld35_0 rfl) ?_
    refine Ops.pure rfl (Pure.ldB 0 rfl cell2 rfl rfl) ?_
    refine Ops.pure rfl (Pure.fieldAddrB fld35_1 rfl) ?_
    refine Ops.pure rfl (Pure.ldB 0 rfl cell2 rfl rfl) ?_
    refine Ops.q rfl (QOp.call fn111 rfl (fun w hw => f_i_panelCount w _ _ (by assumption) (by assumption) (by assumption) (by assumption))) ?_
    refine Ops.pure rfl (Pure.move rfl) ?_
    refine Ops.pure rfl (Pure.extract rfl rfl) ?_
    refine Ops.pure rfl (Pure.extract rfl rfl) ?_
    refine Ops.pure rfl (Pure.assign rfl) ?_
    refine Ops.pure rfl (Pure.assign rfl) ?_
    refine Ops.nil ?_
    refine Run.seq ?_
    refine Run.region ?_
    refine Ops.pure rfl (Pure.move rfl) ?_
    refine Ops.pure rfl (Pure.neq rfl rfl) ?_
    refine Ops.nil ?_
    refine Run.cond rfl (fun c21 => ?_) (fun c21 => ?_)
    · skip
      replace c21 := nT c21
      refine Run.seq ?_
      refine Run.region ?_
      refine Ops.pure rfl (Pure.move rfl) ?_
      refine Ops.pure rfl (Pure.assign rfl) ?_
      refine Ops.pure rfl (Pure.assign rfl) ?_
      refine Ops.nil ?_
      refine Run.ret2 rfl rfl rfl ?_
      rw [(pn_many c11 c21).1, (pn_many c11 c21).2]
      try rfl
    · skip
      replace c21 := nF c21
      refine Run.skip ?_
      refine Run.seq ?_
      refine Run.region ?_
      refine Ops.pure rfl (Pure.assign rfl) ?_
      refine Ops.nil ?_
      refine Run.seq ?_
      refine Run.seq ?_
      refine Run.region ?_
      refine Ops.pure rfl (Pure.fieldAddrB fld35_2 rfl) ?_
      refine Ops.pure rfl (Pure.ldB 0 rfl cell32 rfl rfl) ?_
      refine Ops.pure rfl (Pure.len sl32 (RdL.old hv) rfl) ?_
      refine Ops.pure rfl (Pure.move rfl) ?_
      refine Ops.nil ?_
      refine Run.block ?_
      refine Run.loop (X := Nat) (fun k => [(6, .int .i64 (numTo l k)), (24, v), (25, .int .i64 l.length), (26, .int .i64 k)]) (fun k => []) (fun k => k ≤ l.length) (fun k => l.length - k) 0 ?_ ?_ ?_ ?_
      · exact Nat.zero_le _
      · exact ⟨rfl, rfl, rfl, rfl, trivial⟩
      · exact Ext.nil _
      · intro k hinv0
        have hnb := numTo_bd c11 k hinv0
        have hps := p3_small c11 c21 hinv0
        have hat := fun (h : k < l.length) => okP_at c11 h
        refine Run.seq ?_
        refine Run.region ?_
        refine Ops.pure rfl (Pure.lss rfl rfl) ?_
        refine Ops.nil ?_
        refine Run.seq ?_
        refine Run.cond rfl (fun c27 => ?_) (fun c27 => ?_)
        · skip
          replace c27 := dT c27
          refine Run.skip ?_
          refine Run.seq ?_
          refine Run.block ?_
          refine Run.seq ?_
          refine Run.region ?_
          refine Ops.pure rfl (Pure.idx1N sl32 (RdL.old hv) rfl rfl (by first | assumption | omega | (simp; omega))) ?_
          refine Ops.pure rfl (Pure.ld cell2 rfl (RdL.old hv) (by first | exact ints_get (by omega) | exact bools_get (by omega) | exact strs_get (by omega) | exact vals_get (by first | omega | (simp; omega)))) ?_
          refine Ops.pure rfl (Pure.assign rfl) ?_
          refine Ops.nil ?_
          refine Run.region ?_
          refine Ops.pure rfl (Pure.move rfl) ?_
          refine Ops.pure rfl (Pure.mul rfl rfl (by omega) (by omega)) ?_
          refine Ops.pure rfl (Pure.move rfl) ?_
          refine Ops.pure rfl (Pure.add rfl rfl (by omega) (by omega)) ?_
          refine Ops.pure rfl (Pure.assign rfl) ?_
          refine Ops.nil ?_
          refine Run.blk ?_
          refine Run.region ?_
          refine Ops.pure rfl (Pure.add rfl rfl (by omega) (by omega)) ?_
          refine Ops.pure rfl (Pure.move rfl) ?_
          refine Ops.nil ?_
          refine Run.asrt ?_
          exact ⟨k + 1, ⟨by omega, by omega⟩, ⟨rfl, rfl, rfl, rfl, trivial⟩, Ext.nil _⟩
        · skip
          replace c27 := dF c27
          refine Run.exit rfl ?_
          refine Run.seq ?_
          refine Run.region ?_
          refine Ops.pure rfl (Pure.move rfl) ?_
          refine Ops.pure rfl (Pure.assign rfl) ?_
          refine Ops.pure rfl (Pure.assign rfl) ?_
          refine Ops.nil ?_
          refine Run.ret2 rfl rfl rfl ?_
          have e : k = l.length := by omega
          subst e
          rw [(pn_ok c11 c21).1, (pn_ok c11 c21).2]

set_option maxRecDepth 4000 in
/-- spec.PanelNumber -/
theorem f_s_PanelNumber (w : World) (a : Int) (b : Int) (v : Value) (l : List Int) (hv : Rd w v 1 l.length (ints l)) (hl : l.length ≤ 1073741824) (a0 : -9223372036854775808 ≤ a) (a1 : a ≤ 9223372036854775807) (b0 : -9223372036854775808 ≤ b) (b1 : b ≤ 9223372036854775807) : RetV Try.prog 37 [.agg #[.int .i64 a, .int .i64 b, v]] w (.tuple #[.int .i64 (pnN a b l), .int .i64 (pnE a b l)]) := by
  refine Ret.enter Try.func37 rfl Try.ntmps37 rfl ?_
  refine Run.seq ?_
  refine Run.region ?_
  refine Ops.go rfl (Loud.box rfl rfl) ?_
  rintro _ _ ⟨bq, rfl, rfl⟩
  refine Ops.pure rfl (Pure.assign rfl) ?_
  refine Ops.pure rfl (Pure.assign rfl) ?_
  refine Ops.nil ?_
  refine Run.seq ?_
  refine Run.seq ?_
  refine Run.region ?_
  refine Ops.q rfl (QOp.call fn99 rfl (fun w hw => f_s_l02Ok w _ _ _ _ _ (by exact RdL.boxM 0 rfl rfl w hw) (by exact RdL.old (by assumption) w hw) (by assumption) (by assumption) (by assumption) (by assumption) (by assumption))) ?_
  refine Ops.pure rfl (Pure.not rfl) ?_
  refine Ops.nil ?_
  refine Run.cond rfl (fun c8 => ?_) (fun c8 => ?_)
  · skip
    replace c8 := bT c8
    refine Run.seq ?_
    refine Run.region ?_
    refine Ops.pure rfl (Pure.assign rfl) ?_
    refine Ops.pure rfl (Pure.assign rfl) ?_
    refine Ops.nil ?_
    refine Run.ret2 rfl rfl rfl ?_
    rw [(pn_bad c8).1, (pn_bad c8).2]
  · skip
    replace c8 := bF c8
    refine Run.skip ?_
    refine Run.seq ?_
    refine Run.region ?_
    refine Ops.pure rfl (Pure.fieldAddrB fld35_0 rfl) ?_
    refine Ops.pure rfl (Pure.ldB 0 rfl cell2 rfl rfl) ?_
    refine Ops.pure rfl (Pure.fieldAddrB fld35_1 rfl) ?_
    refine Ops.pure rfl (Pure.ldB 0 rfl cell2 rfl rfl) ?_
    refine Ops.q rfl (QOp.call fn107 rfl (fun w hw => f_s_l12Code w _ _ (by assumption) (by assumption) (by assumption) (by assumption))) ?_
    refine Ops.pure rfl (Pure.assign rfl) ?_
    refine Ops.nil ?_
    refine Run.seq ?_
    refine Run.seq ?_
    refine Run.region ?_
    refine Ops.pure rfl (Pure.move rfl) ?_
    refine Ops.pure rfl (Pure.neq rfl rfl) ?_
    refine Ops.nil ?_
    refine Run.cond rfl (fun c15 => ?_) (fun c15 => ?_)
    · skip
      replace c15 := nT c15
      refine Run.seq ?_
      refine Run.region ?_
      refine Ops.pure rfl (Pure.move rfl) ?_
      refine Ops.pure rfl (Pure.assign rfl) ?_
      refine Ops.pure rfl (Pure.assign rfl) ?_
      refine Ops.nil ?_
      refine Run.ret2 rfl rfl rfl ?_
      rw [(pn_many c8 c15).1, (pn_many c8 c15).2]
    · skip
      replace c15 := nF c15
      refine Run.skip ?_
      refine Run.seq ?_
      refine Run.region ?_
      refine Ops.pure rfl (Pure.assign rfl) ?_
      refine Ops.nil ?_
      refine Run.seq ?_
      refine Run.seq ?_
      refine Run.region ?_
      refine Ops.pure rfl (Pure.assign rfl) ?_
      refine Ops.nil ?_
      refine Run.block ?_
      refine Run.loop (X := Nat) (fun k => [(1, .pointer (some ⟨bq, 0, none⟩)), (5, .int .i64 (numTo l k)), (6, .int .i64 k)]) (fun k => [.box bq 35 [.int .i64 a, .int .i64 b, v]]) (fun k => k ≤ l.length) (fun k => l.length - k) 0 ?_ ?_ ?_ ?_
      · exact Nat.zero_le _
      · exact ⟨rfl, rfl, rfl, trivial⟩
      · exact Ext.refl _
      · intro k hinv0
        have hnb := numTo_bd c8 k hinv0
        have hps := p3_small c8 c15 hinv0
        have hat := fun (h : k < l.length) => okP_at c8 h
        refine Run.seq ?_
        refine Run.seq ?_
        refine Run.region ?_
        refine Ops.pure rfl (Pure.move rfl) ?_
        refine Ops.pure rfl (Pure.fieldAddrB fld35_2 rfl) ?_
        refine Ops.pure rfl (Pure.ldB 0 rfl cell32 rfl rfl) ?_
        refine Ops.pure rfl (Pure.len sl32 (RdL.old hv) rfl) ?_
        refine Ops.pure rfl (Pure.lss rfl rfl) ?_
        refine Ops.nil ?_
        refine Run.cond rfl (fun c21 => ?_) (fun c21 => ?_)
        · skip
          replace c21 := dT c21
          refine Run.skip ?_
          refine Run.seq ?_
          refine Run.block ?_
          refine Run.region ?_
          refine Ops.pure rfl (Pure.move rfl) ?_
          refine Ops.pure rfl (Pure.mul rfl rfl (by omega) (by omega)) ?_
          refine Ops.pure rfl (Pure.fieldAddrB fld35_2 rfl) ?_
          refine Ops.pure rfl (Pure.ldB 0 rfl cell32 rfl rfl) ?_
          refine Ops.pure rfl (Pure.move rfl) ?_
          refine Ops.pure rfl (Pure.idx1N sl32 (RdL.old hv) rfl rfl (by first | assumption | omega | (simp; omega))) ?_
          refine Ops.pure rfl (Pure.ld cell2 rfl (RdL.old hv) (by first | exact ints_get (by omega) | exact bools_get (by omega) | exact strs_get (by omega) | exact vals_get (by first | omega | (simp; omega)))) ?_
          refine Ops.pure rfl (Pure.add rfl rfl (by omega) (by omega)) ?_
          refine Ops.pure rfl (Pure.assign rfl) ?_
          refine Ops.nil ?_
          refine Run.blk ?_
          refine Run.region ?_
          refine Ops.pure rfl (Pure.move rfl) ?_
          refine Ops.pure rfl (Pure.add rfl rfl (by omega) (by omega)) ?_
          refine Ops.pure rfl (Pure.assign rfl) ?_
          refine Ops.nil ?_
          refine Run.asrt ?_
          exact ⟨k + 1, ⟨by omega, by omega⟩, ⟨rfl, rfl, rfl, trivial⟩, Ext.refl _⟩
        · skip
          replace c21 := dF c21
          refine Run.exit rfl ?_
          refine Run.seq ?_
          refine Run.region ?_
          refine Ops.pure rfl (Pure.move rfl) ?_
          refine Ops.pure rfl (Pure.assign rfl) ?_
          refine Ops.pure rfl (Pure.assign rfl) ?_
          refine Ops.nil ?_
          refine Run.ret2 rfl rfl rfl ?_
          have e : k = l.length := by omega
          subst e
          rw [(pn_ok c8 c15).1, (pn_ok c8 c15).2]

end Go.Proofs.Ytmfinopdokkjcaa
