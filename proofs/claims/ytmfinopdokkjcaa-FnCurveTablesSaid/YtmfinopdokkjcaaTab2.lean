/- Contracts of functions, printed by program from annotations. -/
import Derived.Test.YtmfinopdokkjcaaTab
import Derived.Test.YtmfinopdokkjcaaRead
namespace Go.Proofs.Ytmfinopdokkjcaa
open Go Go.AW Go.RowKit
set_option linter.unusedVariables false
set_option linter.unusedSimpArgs false

/-- the first panel with a number of curves -/
def fwF (a b c : Int) : Option Nat := if pcE a b = 0 then firstF (fun m => decide ((cntN a b m : Int) = c)) (many a b) 0 else none
def fwE (a b c : Int) : Int := if pcE a b = 0 then (if (fwF a b c).isSome then 0 else 3) else pcE a b
def fwA (a b c x : Int) : Int := if (fwF a b c).isSome then x else 0
def fwL (a b c : Int) : List Int := match fwF a b c with
  | some m => pdig m (inn a b)
  | none => []
theorem fw_bad {a b c : Int} (h : ¬ pcE a b = 0) : fwE a b c = pcE a b ∧ (∀ x, fwA a b c x = 0) ∧ fwL a b c = [] := by
  have h1 : fwF a b c = none := by unfold fwF; rw [if_neg h]
  refine ⟨by unfold fwE; rw [if_neg h], fun x => by unfold fwA; rw [h1]; rfl, by unfold fwL; rw [h1]⟩
theorem fw_none {a b c : Int} (h : pcE a b = 0) (hn : ∀ j, j < many a b → ¬ (cntN a b j : Int) = c) : fwE a b c = 3 ∧ (∀ x, fwA a b c x = 0) ∧ fwL a b c = [] := by
  have h1 : fwF a b c = none := by unfold fwF; rw [if_pos h, firstF_none (fun j _ hj => decide_eq_false (hn j (by omega)))]
  refine ⟨by unfold fwE; rw [if_pos h, h1]; rfl, fun x => by unfold fwA; rw [h1]; rfl, by unfold fwL; rw [h1]⟩
theorem fw_some {a b c : Int} {k : Nat} (h : pcE a b = 0) (hk : k < many a b) (hc : (cntN a b k : Int) = c) (hn : ∀ j, j < k → ¬ (cntN a b j : Int) = c) : fwE a b c = 0 ∧ (∀ x, fwA a b c x = x) ∧ fwL a b c = pdig k (inn a b) := by
  have h1 : fwF a b c = some k := by unfold fwF; rw [if_pos h, firstF_some (k := k) (Nat.zero_le _) (by omega) (decide_eq_true hc) (fun j _ hj => decide_eq_false (hn j hj))]
  refine ⟨by unfold fwE; rw [if_pos h, h1]; rfl, fun x => by unfold fwA; rw [h1]; rfl, by unfold fwL; rw [h1]⟩
theorem fwL_size (a b c : Int) : (fwL a b c).length ≤ 112 := by
  unfold fwL
  cases h : fwF a b c with
  | none => exact Nat.zero_le _
  | some m =>
    rw [length_pdig]
    unfold fwF at h
    by_cases hp : pcE a b = 0
    · exact (inn_eq (pc_zero hp).1).2.1
    · rw [if_neg hp] at h; cases h

set_option maxRecDepth 4000 in
/-- impl.FirstWith -/
theorem f_i_FirstWith (w : World) (a : Int) (b : Int) (c : Int) (a0 : -9223372036854775808 ≤ a) (a1 : a ≤ 9223372036854775807) (b0 : -9223372036854775808 ≤ b) (b1 : b ≤ 9223372036854775807) (c0 : -9223372036854775808 ≤ c) (c1 : c ≤ 9223372036854775807) : Ret Try.prog 42 [.int .i64 a, .int .i64 b, .int .i64 c] w (fun u L => ∃ x, x.oneCell' = true ∧ u = .tuple #[.agg #[.int .i64 (fwA a b c a), .int .i64 (fwA a b c b), x], .int .i64 (fwE a b c)] ∧ L = [.row 2 1 x (fwL a b c).length (ints (fwL a b c))]) := by
  refine Ret.enter Try.func42 rfl Try.ntmps42 rfl ?_
  refine Run.seq ?_
  refine Run.region ?_
  refine Ops.go rfl (Loud.alloc zero35 rfl) ?_
  rintro _ _ ⟨b6, rfl, rfl⟩
  refine Ops.pure rfl (Pure.assign rfl) ?_
  refine Ops.nil ?_
  refine Run.seq ?_
  refine Run.region ?_
  refine Ops.pure rfl (Pure.move rfl) ?_
  refine Ops.pure rfl (Pure.move rfl) ?_
  refine Ops.q rfl (QOp.call fn111 rfl (fun w hw => f_i_panelCount w _ _ (by assumption) (by assumption) (by assumption) (by assumption))) ?_
  refine Ops.pure rfl (Pure.move rfl) ?_
  refine Ops.pure rfl (Pure.extract rfl rfl) ?_
  refine Ops.pure rfl (Pure.extract rfl rfl) ?_
  refine Ops.pure rfl (Pure.assign rfl) ?_
  refine Ops.pure rfl (Pure.assign rfl) ?_
  refine Ops.nil ?_
  refine Run.seq ?_
  refine Run.seq ?_
  refine Run.region ?_
  refine Ops.pure rfl (Pure.move rfl) ?_
  refine Ops.pure rfl (Pure.neq rfl rfl) ?_
  refine Ops.nil ?_
  refine Run.cond rfl (fun c19 => ?_) (fun c19 => ?_)
  · skip
    replace c19 := nT c19
    refine Run.seq ?_
    refine Run.region ?_
    refine Ops.pure rfl (Pure.build rfl bld35) ?_
    refine Ops.pure rfl (Pure.move rfl) ?_
    refine Ops.store (Stores.box 0 rfl rfl rfl size35 (allOne rfl) rfl rfl) ?_
    refine Ops.pure rfl (Pure.assign rfl) ?_
    refine Ops.nil ?_
    refine Run.addNil 2 1 ?_
    refine Run.retC1x 1 rfl rfl rfl rfl cell35 rfl (Ext.take 0 rfl (Ext.nil _)) ?_
    obtain ⟨e1, e2, e3⟩ := fw_bad (c := c) c19
    rw [e1, e2, e2, e3]
    exact ⟨_, rfl, rfl, rfl⟩
  · skip
    replace c19 := nF c19
    obtain ⟨hs, hmm, hpn⟩ := pc_zero c19
    have hmp := many_pos a b
    refine Run.skip ?_
    refine Run.seq ?_
    refine Run.seq ?_
    rw [hpn]
    refine Run.region ?_
    refine Ops.pure rfl (Pure.move rfl) ?_
    refine Ops.pure rfl (Pure.move rfl) ?_
    refine Ops.nil ?_
    refine Run.block ?_
    refine Run.loop (X := Nat) (fun k => [(0, .int .i64 a), (1, .int .i64 b), (2, .int .i64 c), (6, .pointer (some ⟨b6, 0, none⟩)), (22, .int .i64 (many a b : Int)), (23, .int .i64 k)]) (fun k => [.box b6 35 [.int .i64 0, .int .i64 0, .slice none 0 0]]) (fun k => k ≤ many a b ∧ ∀ j, j < k → ¬ (cntN a b j : Int) = c) (fun k => many a b - k) 0 ?_ ?_ ?_ ?_
    · exact ⟨Nat.zero_le _, by omega⟩
    · exact ⟨rfl, rfl, rfl, rfl, rfl, rfl, trivial⟩
    · exact Ext.refl _
    · intro k hinv0
      refine Run.seq ?_
      refine Run.region ?_
      refine Ops.pure rfl (Pure.lss rfl rfl) ?_
      refine Ops.nil ?_
      refine Run.seq ?_
      refine Run.cond rfl (fun c24 => ?_) (fun c24 => ?_)
      · skip
        replace c24 := dT c24
        refine Run.skip ?_
        refine Run.seq ?_
        refine Run.block ?_
        refine Run.seq ?_
        refine Run.region ?_
        refine Ops.pure rfl (Pure.move rfl) ?_
        refine Ops.pure rfl (Pure.assign rfl) ?_
        refine Ops.nil ?_
        refine Run.seq ?_
        refine Run.region ?_
        refine Ops.pure rfl (Pure.move rfl) ?_
        refine Ops.pure rfl (Pure.move rfl) ?_
        refine Ops.pure rfl (Pure.move rfl) ?_
        refine Ops.go rfl (Loud.callR fn114 rfl (fun w hw => f_i_panelWith w _ _ _ (by assumption) (by omega))) ?_
        rintro v29 _ ⟨L29, hQ29, rfl⟩
        obtain ⟨x29, h29, rfl, rfl⟩ := hQ29
        refine Ops.go rfl (Loud.alloc zero35 rfl) ?_
        rintro _ _ ⟨b11, rfl, rfl⟩
        refine Ops.store (Stores.box 0 rfl rfl rfl size35 (one3 h29) rfl rfl) ?_
        refine Ops.nil ?_
        refine Run.seq ?_
        refine Run.region ?_
        refine Ops.pure rfl (Pure.ldBA 0 rfl cell35 rfl rfl rfl) ?_
        refine Ops.q rfl (QOp.call fn121 rfl (fun w hw => f_i_countCurves w a b x29 (pdig k (inn a b)) (by rw [length_pdig]; exact RdL.own 1 rfl w hw) (okP_pdig hs k))) ?_
        refine Ops.pure rfl (Pure.move rfl) ?_
        refine Ops.pure rfl (Pure.eql rfl rfl) ?_
        refine Ops.nil ?_
        refine Run.cond rfl (fun c33 => ?_) (fun c33 => ?_)
        · skip
          replace c33 := dT c33
          refine Run.seq ?_
          refine Run.region ?_
          refine Ops.pure rfl (Pure.ldBA 0 rfl cell35 rfl rfl rfl) ?_
          refine Ops.store (Stores.box 2 rfl rfl rfl size35 (one3 h29) rfl rfl) ?_
          refine Ops.pure rfl (Pure.assign rfl) ?_
          refine Ops.nil ?_
          refine Run.retC1x 2 rfl rfl rfl rfl cell35 rfl (Ext.take 1 rfl (Ext.nil _)) ?_
          obtain ⟨e1, e2, e3⟩ := fw_some c19 (by omega) c33 hinv0.2
          rw [e1, e2, e2, e3]
          exact ⟨_, by assumption, rfl, by rw [length_pdig]⟩
        · skip
          replace c33 := dF c33
          refine Run.skip ?_
          refine Run.blk ?_
          refine Run.region ?_
          refine Ops.pure rfl (Pure.add rfl rfl (by omega) (by omega)) ?_
          refine Ops.pure rfl (Pure.move rfl) ?_
          refine Ops.nil ?_
          refine Run.asrt ?_
          exact ⟨k + 1, ⟨⟨by omega, fun j hj => step_lt (p := fun j => ¬ (cntN a b j : Int) = c) hj hinv0.2 c33⟩, by omega⟩, ⟨rfl, rfl, rfl, rfl, rfl, rfl, trivial⟩, Ext.take 2 rfl (Ext.nil _)⟩
      · skip
        replace c24 := dF c24
        refine Run.exit rfl ?_
        refine Run.seq ?_
        refine Run.region ?_
        refine Ops.pure rfl (Pure.build rfl bld35) ?_
        refine Ops.store (Stores.box 0 rfl rfl rfl size35 (allOne rfl) rfl rfl) ?_
        refine Ops.pure rfl (Pure.assign rfl) ?_
        refine Ops.nil ?_
        refine Run.addNil 2 1 ?_
        refine Run.retC1x 1 rfl rfl rfl rfl cell35 rfl (Ext.take 0 rfl (Ext.nil _)) ?_
        obtain ⟨e1, e2, e3⟩ := fw_none c19 (fun j hj => hinv0.2 j (by omega))
        rw [e1, e2, e2, e3]
        exact ⟨_, rfl, rfl, rfl⟩

set_option maxRecDepth 4000 in
/-- spec.FirstWith -/
theorem f_s_FirstWith (w : World) (a : Int) (b : Int) (c : Int) (a0 : -9223372036854775808 ≤ a) (a1 : a ≤ 9223372036854775807) (b0 : -9223372036854775808 ≤ b) (b1 : b ≤ 9223372036854775807) (c0 : -9223372036854775808 ≤ c) (c1 : c ≤ 9223372036854775807) : Ret Try.prog 43 [.int .i64 a, .int .i64 b, .int .i64 c] w (fun u L => ∃ x, x.oneCell' = true ∧ u = .tuple #[.agg #[.int .i64 (fwA a b c a), .int .i64 (fwA a b c b), x], .int .i64 (fwE a b c)] ∧ L = [.row 2 1 x (fwL a b c).length (ints (fwL a b c))]) := by
  refine Ret.enter Try.func43 rfl Try.ntmps43 rfl ?_
  refine Run.seq ?_
  refine Run.region ?_
  refine Ops.go rfl (Loud.alloc zero35 rfl) ?_
  rintro _ _ ⟨b6, rfl, rfl⟩
  refine Ops.pure rfl (Pure.assign rfl) ?_
  refine Ops.nil ?_
  refine Run.seq ?_
  refine Run.region ?_
  refine Ops.pure rfl (Pure.move rfl) ?_
  refine Ops.pure rfl (Pure.move rfl) ?_
  refine Ops.q rfl (QOp.call fn107 rfl (fun w hw => f_s_l12Code w _ _ (by assumption) (by assumption) (by assumption) (by assumption))) ?_
  refine Ops.pure rfl (Pure.assign rfl) ?_
  refine Ops.nil ?_
  refine Run.seq ?_
  refine Run.seq ?_
  refine Run.region ?_
  refine Ops.pure rfl (Pure.move rfl) ?_
  refine Ops.pure rfl (Pure.neq rfl rfl) ?_
  refine Ops.nil ?_
  refine Run.cond rfl (fun c15 => ?_) (fun c15 => ?_)
  · skip
    replace c15 := nT c15
    refine Run.seq ?_
    refine Run.region ?_
    refine Ops.pure rfl (Pure.build rfl bld35) ?_
    refine Ops.pure rfl (Pure.move rfl) ?_
    refine Ops.store (Stores.box 0 rfl rfl rfl size35 (allOne rfl) rfl rfl) ?_
    refine Ops.pure rfl (Pure.assign rfl) ?_
    refine Ops.nil ?_
    refine Run.addNil 2 1 ?_
    refine Run.retC1x 1 rfl rfl rfl rfl cell35 rfl (Ext.take 0 rfl (Ext.nil _)) ?_
    obtain ⟨e1, e2, e3⟩ := fw_bad (c := c) c15
    rw [e1, e2, e2, e3]
    exact ⟨_, rfl, rfl, rfl⟩
  · skip
    replace c15 := nF c15
    obtain ⟨hs, hmm, hpn⟩ := pc_zero c15
    have hmp := many_pos a b
    refine Run.skip ?_
    refine Run.seq ?_
    refine Run.seq ?_
    refine Run.region ?_
    refine Ops.pure rfl (Pure.assign rfl) ?_
    refine Ops.nil ?_
    refine Run.block ?_
    refine Run.loop (X := Nat) (fun k => [(0, .int .i64 a), (1, .int .i64 b), (2, .int .i64 c), (6, .pointer (some ⟨b6, 0, none⟩)), (9, .int .i64 k)]) (fun k => [.box b6 35 [.int .i64 0, .int .i64 0, .slice none 0 0]]) (fun k => k ≤ many a b ∧ ∀ j, j < k → ¬ (cntN a b j : Int) = c) (fun k => many a b - k) 0 ?_ ?_ ?_ ?_
    · exact ⟨Nat.zero_le _, by omega⟩
    · exact ⟨rfl, rfl, rfl, rfl, rfl, trivial⟩
    · exact Ext.refl _
    · intro k hinv0
      refine Run.seq ?_
      refine Run.seq ?_
      refine Run.region ?_
      refine Ops.pure rfl (Pure.move rfl) ?_
      refine Ops.pure rfl (Pure.move rfl) ?_
      refine Ops.pure rfl (Pure.move rfl) ?_
      refine Ops.q rfl (QOp.call fn108 rfl (fun w hw => f_s_l12Many w _ _ (by assumption))) ?_
      refine Ops.pure rfl (Pure.lss rfl rfl) ?_
      refine Ops.nil ?_
      refine Run.cond rfl (fun c22 => ?_) (fun c22 => ?_)
      · skip
        replace c22 := dT c22
        refine Run.skip ?_
        refine Run.seq ?_
        refine Run.block ?_
        refine Run.seq ?_
        refine Run.region ?_
        refine Ops.pure rfl (Pure.move rfl) ?_
        refine Ops.pure rfl (Pure.move rfl) ?_
        refine Ops.pure rfl (Pure.move rfl) ?_
        refine Ops.go rfl (Loud.callR fn109 rfl (fun w hw => f_s_l12At w _ _ _ (by assumption) (by omega))) ?_
        rintro v28 _ ⟨L28, hQ28, rfl⟩
        obtain ⟨x28, h28, rfl, rfl⟩ := hQ28
        refine Ops.go rfl (Loud.alloc zero35 rfl) ?_
        rintro _ _ ⟨b10, rfl, rfl⟩
        refine Ops.store (Stores.box 0 rfl rfl rfl size35 (one3 h28) rfl rfl) ?_
        refine Ops.nil ?_
        refine Run.seq ?_
        refine Run.region ?_
        refine Ops.q rfl (QOp.call fn122 rfl (fun w hw => f_s_l04Count w _ a b x28 (pdig k (inn a b)) (RdL.boxM 0 rfl rfl w hw) (by rw [length_pdig]; exact RdL.own 1 rfl w hw) (okP_pdig hs k))) ?_
        refine Ops.pure rfl (Pure.move rfl) ?_
        refine Ops.pure rfl (Pure.eql rfl rfl) ?_
        refine Ops.nil ?_
        refine Run.cond rfl (fun c31 => ?_) (fun c31 => ?_)
        · skip
          replace c31 := dT c31
          refine Run.seq ?_
          refine Run.region ?_
          refine Ops.pure rfl (Pure.ldBA 0 rfl cell35 rfl rfl rfl) ?_
          refine Ops.store (Stores.box 2 rfl rfl rfl size35 (one3 h28) rfl rfl) ?_
          refine Ops.pure rfl (Pure.assign rfl) ?_
          refine Ops.nil ?_
          refine Run.retC1x 2 rfl rfl rfl rfl cell35 rfl (Ext.take 1 rfl (Ext.nil _)) ?_
          obtain ⟨e1, e2, e3⟩ := fw_some c15 (by omega) c31 hinv0.2
          rw [e1, e2, e2, e3]
          exact ⟨_, by assumption, rfl, by rw [length_pdig]⟩
        · skip
          replace c31 := dF c31
          refine Run.skip ?_
          refine Run.blk ?_
          refine Run.region ?_
          refine Ops.pure rfl (Pure.move rfl) ?_
          refine Ops.pure rfl (Pure.add rfl rfl (by omega) (by omega)) ?_
          refine Ops.pure rfl (Pure.assign rfl) ?_
          refine Ops.nil ?_
          refine Run.asrt ?_
          exact ⟨k + 1, ⟨⟨by omega, fun j hj => step_lt (p := fun j => ¬ (cntN a b j : Int) = c) hj hinv0.2 c31⟩, by omega⟩, ⟨rfl, rfl, rfl, rfl, rfl, trivial⟩, Ext.take 2 rfl (Ext.nil _)⟩
      · skip
        replace c22 := dF c22
        refine Run.exit rfl ?_
        refine Run.seq ?_
        refine Run.region ?_
        refine Ops.pure rfl (Pure.build rfl bld35) ?_
        refine Ops.store (Stores.box 0 rfl rfl rfl size35 (allOne rfl) rfl rfl) ?_
        refine Ops.pure rfl (Pure.assign rfl) ?_
        refine Ops.nil ?_
        refine Run.addNil 2 1 ?_
        refine Run.retC1x 1 rfl rfl rfl rfl cell35 rfl (Ext.take 0 rfl (Ext.nil _)) ?_
        obtain ⟨e1, e2, e3⟩ := fw_none c15 (fun j hj => hinv0.2 j (by omega))
        rw [e1, e2, e2, e3]
        exact ⟨_, rfl, rfl, rfl⟩

end Go.Proofs.Ytmfinopdokkjcaa
