/- Contracts of functions, printed by program from annotations. -/
import Derived.Test.YtkplanpcmkbfiaaChg
import Derived.Test.YtkplanpcmkbfiaaPtL
namespace Go.Proofs.Ytkplanpcmkbfiaa
open Go Go.AW Go.RowKit
set_option linter.unusedVariables false
set_option linter.unusedSimpArgs false

/-- what 'FirstChange' tells -/
def fiE (a b : Int) (l : List Int) (c : Int) : Int := if gcE a b l c = 0 then (if fcA a b l c < 0 then 3 else 0) else gcE a b l c
def fiV (a b : Int) (l : List Int) (c x : Int) : Int := if fiE a b l c = 0 then x else 0
theorem fi_bad {a b c : Int} {l : List Int} (h : ¬ gcE a b l c = 0) : fiE a b l c = gcE a b l c ∧ ∀ x, fiV a b l c x = 0 := by
  have h1 : fiE a b l c = gcE a b l c := by unfold fiE; rw [if_neg h]
  exact ⟨h1, fun x => by unfold fiV; rw [h1, if_neg h]⟩
theorem fi_no {a b c : Int} {l : List Int} (h : gcE a b l c = 0) (hn : fcA a b l c < 0) : fiE a b l c = 3 ∧ ∀ x, fiV a b l c x = 0 := by
  have h1 : fiE a b l c = 3 := by unfold fiE; rw [if_pos h, if_pos hn]
  exact ⟨h1, fun x => by unfold fiV; rw [h1]; rfl⟩
theorem fi_ok {a b c : Int} {l : List Int} (h : gcE a b l c = 0) (hn : ¬ fcA a b l c < 0) : fiE a b l c = 0 ∧ ∀ x, fiV a b l c x = x := by
  have h1 : fiE a b l c = 0 := by unfold fiE; rw [if_pos h, if_neg hn]
  exact ⟨h1, fun x => by unfold fiV; rw [if_pos h1]⟩

set_option maxRecDepth 4000 in
/-- impl.FirstChange -/
theorem f_i_FirstChange (w : World) (a : Int) (b : Int) (v : Value) (l : List Int) (c : Int) (hv : Rd w v 1 l.length (ints l)) (hl : l.length ≤ 1073741824) (a0 : -9223372036854775808 ≤ a) (a1 : a ≤ 9223372036854775807) (b0 : -9223372036854775808 ≤ b) (b1 : b ≤ 9223372036854775807) : RetV Try.prog 55 [.agg #[.int .i64 a, .int .i64 b, v], .int .i64 c] w (.tuple #[.agg #[.int .i64 (fiV a b l c (ptX a (fcA a b l c))), .int .i64 (fiV a b l c (ptY a (fcA a b l c)))], .int .i64 (fiV a b l c (fcK a b l c)), .int .i64 (fiE a b l c)]) := by
  refine Ret.enter Try.func55 rfl Try.ntmps55 rfl ?_
  refine Run.seq ?_
  refine Run.region ?_
  refine Ops.go rfl (Loud.box rfl rfl) ?_
  rintro _ _ ⟨b2, rfl, rfl⟩
  refine Ops.go rfl (Loud.alloc zero55 rfl) ?_
  rintro _ _ ⟨b4, rfl, rfl⟩
  refine Ops.pure rfl (Pure.assign rfl) ?_
  refine Ops.pure rfl (Pure.assign rfl) ?_
  refine Ops.nil ?_
  refine Run.seq ?_
  refine Run.seq ?_
  refine Run.region ?_
  refine Ops.pure rfl (Pure.ldBA 1 rfl cell28 rfl rfl rfl) ?_
  refine Ops.pure rfl (Pure.move rfl) ?_
  refine Ops.q rfl (QOp.call fn107 rfl (fun w hw => f_i_changeCode w _ _ _ _ _ (by exact RdL.old (by assumption) w hw) (by assumption) (by assumption) (by assumption) (by assumption) (by assumption))) ?_
  refine Ops.pure rfl (Pure.assign rfl) ?_
  refine Ops.nil ?_
  refine Run.seq ?_
  refine Run.region ?_
  refine Ops.pure rfl (Pure.move rfl) ?_
  refine Ops.pure rfl (Pure.neq rfl rfl) ?_
  refine Ops.nil ?_
  refine Run.cond rfl (fun c15 => ?_) (fun c15 => ?_)
  · skip
    replace c15 := nT c15
    refine Run.seq ?_
    refine Run.region ?_
    refine Ops.pure rfl (Pure.build rfl bld55) ?_
    refine Ops.pure rfl (Pure.move rfl) ?_
    refine Ops.store (Stores.box 0 rfl rfl rfl size55 (allOne rfl) rfl rfl) ?_
    refine Ops.pure rfl (Pure.assign rfl) ?_
    refine Ops.pure rfl (Pure.assign rfl) ?_
    refine Ops.nil ?_
    refine Run.retC2x 0 rfl rfl rfl rfl rfl cell55 rfl (Ext.nil _) ?_
    obtain ⟨e1, e2⟩ := fi_bad c15
    rw [e1, e2, e2, e2]
    rfl
  · skip
    replace c15 := nF c15
    obtain ⟨hk, hc⟩ := gc_zero (show gcE a b l c = 0 by omega)
    have hs := okP_size hk
    refine Run.skip ?_
    refine Run.seq ?_
    refine Run.region ?_
    refine Ops.pure rfl (Pure.ldBA 1 rfl cell28 rfl rfl rfl) ?_
    refine Ops.pure rfl (Pure.move rfl) ?_
    refine Ops.q rfl (QOp.call fn109 rfl (fun w hw => f_i_Panel_firstChange w a b v l c (RdL.old hv w hw) hl hk hc)) ?_
    refine Ops.pure rfl (Pure.move rfl) ?_
    refine Ops.pure rfl (Pure.extract rfl rfl) ?_
    refine Ops.pure rfl (Pure.extract rfl rfl) ?_
    refine Ops.pure rfl (Pure.extract rfl rfl) ?_
    refine Ops.pure rfl (Pure.assign rfl) ?_
    refine Ops.pure rfl (Pure.assign rfl) ?_
    refine Ops.pure rfl (Pure.assign rfl) ?_
    refine Ops.nil ?_
    refine Run.seq ?_
    refine Run.seq ?_
    refine Run.region ?_
    refine Ops.pure rfl (Pure.move rfl) ?_
    refine Ops.pure rfl (Pure.not rfl) ?_
    refine Ops.nil ?_
    refine Run.cond rfl (fun c26 => ?_) (fun c26 => ?_)
    · skip
      replace c26 := nT c26
      refine Run.seq ?_
      refine Run.region ?_
      refine Ops.pure rfl (Pure.build rfl bld55) ?_
      refine Ops.store (Stores.box 0 rfl rfl rfl size55 (allOne rfl) rfl rfl) ?_
      refine Ops.pure rfl (Pure.assign rfl) ?_
      refine Ops.pure rfl (Pure.assign rfl) ?_
      refine Ops.nil ?_
      refine Run.retC2x 0 rfl rfl rfl rfl rfl cell55 rfl (Ext.nil _) ?_
      obtain ⟨e1, e2⟩ := fi_no c15 (by first | omega | (simp_all; omega))
      rw [e1, e2, e2, e2]
      rfl
    · skip
      replace c26 := nF c26
      refine Run.skip ?_
      refine Run.seq ?_
      have hno : ¬ fcA a b l c < 0 := by first | omega | (simp_all; omega)
      obtain ⟨g1, g2, -, -, -⟩ := fc_yes hno
      have hli := okP_inn hk
      rw [if_neg hno]
      obtain ⟨n, hn⟩ := Int.eq_ofNat_of_zero_le g1
      rw [hn]
      have hpg := pnL_get (a := a) (n := inn a b) (k := n) (by omega)
      have hpl := length_pnL a (inn a b)
      refine Run.region ?_
      refine Ops.pure rfl (Pure.ldBA 1 rfl cell28 rfl rfl rfl) ?_
      refine Ops.go rfl (Loud.callR fn114 rfl (fun w hw => f_i_Panel_points w a b v l hs)) ?_
      rintro v29 _ ⟨L29, hQ29, rfl⟩
      subst hQ29
      refine Ops.pure rfl (Pure.move rfl) ?_
      refine Ops.pure rfl (Pure.idxN sl135 (RdL.own 0 rfl) rfl rfl (by first | assumption | omega | (simp; omega))) ?_
      refine Ops.pure rfl (Pure.ldA cell55 rfl (RdL.own 0 rfl) (seg_get encQ_len (by omega) (0, 0)) rfl (by decide)) ?_
      refine Ops.pure rfl (Pure.move rfl) ?_
      refine Ops.store (Stores.box 1 rfl rfl rfl size55 (allOne rfl) rfl rfl) ?_
      refine Ops.pure rfl (Pure.assign rfl) ?_
      refine Ops.pure rfl (Pure.assign rfl) ?_
      refine Ops.nil ?_
      refine Run.retC2x 1 rfl rfl rfl rfl rfl cell55 rfl (Ext.nil _) ?_
      obtain ⟨e1, e2⟩ := fi_ok c15 hno
      rw [e1, e2, e2, e2]
      try rw [hpg]
      rfl

set_option maxRecDepth 4000 in
/-- spec.FirstChange -/
theorem f_s_FirstChange (w : World) (a : Int) (b : Int) (v : Value) (l : List Int) (c : Int) (hv : Rd w v 1 l.length (ints l)) (hl : l.length ≤ 1073741824) (a0 : -9223372036854775808 ≤ a) (a1 : a ≤ 9223372036854775807) (b0 : -9223372036854775808 ≤ b) (b1 : b ≤ 9223372036854775807) : RetV Try.prog 56 [.agg #[.int .i64 a, .int .i64 b, v], .int .i64 c] w (.tuple #[.agg #[.int .i64 (fiV a b l c (ptX a (fcA a b l c))), .int .i64 (fiV a b l c (ptY a (fcA a b l c)))], .int .i64 (fiV a b l c (fcK a b l c)), .int .i64 (fiE a b l c)]) := by
  refine Ret.enter Try.func56 rfl Try.ntmps56 rfl ?_
  refine Run.seq ?_
  refine Run.region ?_
  refine Ops.go rfl (Loud.box rfl rfl) ?_
  rintro _ _ ⟨b2, rfl, rfl⟩
  refine Ops.go rfl (Loud.alloc zero55 rfl) ?_
  rintro _ _ ⟨b4, rfl, rfl⟩
  refine Ops.pure rfl (Pure.assign rfl) ?_
  refine Ops.pure rfl (Pure.assign rfl) ?_
  refine Ops.nil ?_
  refine Run.seq ?_
  refine Run.region ?_
  refine Ops.pure rfl (Pure.move rfl) ?_
  refine Ops.q rfl (QOp.call fn111 rfl (fun w hw => f_s_l10Goal w _ a b v l c (RdL.boxM 1 rfl rfl w hw) (RdL.old hv w hw) hl a0 a1 b0 b1)) ?_
  refine Ops.pure rfl (Pure.assign rfl) ?_
  refine Ops.nil ?_
  refine Run.seq ?_
  refine Run.seq ?_
  refine Run.region ?_
  refine Ops.pure rfl (Pure.move rfl) ?_
  refine Ops.pure rfl (Pure.neq rfl rfl) ?_
  refine Ops.nil ?_
  refine Run.cond rfl (fun c13 => ?_) (fun c13 => ?_)
  · skip
    replace c13 := nT c13
    refine Run.seq ?_
    refine Run.region ?_
    refine Ops.pure rfl (Pure.build rfl bld55) ?_
    refine Ops.pure rfl (Pure.move rfl) ?_
    refine Ops.store (Stores.box 0 rfl rfl rfl size55 (allOne rfl) rfl rfl) ?_
    refine Ops.pure rfl (Pure.assign rfl) ?_
    refine Ops.pure rfl (Pure.assign rfl) ?_
    refine Ops.nil ?_
    refine Run.retC2x 0 rfl rfl rfl rfl rfl cell55 rfl (Ext.nil _) ?_
    obtain ⟨e1, e2⟩ := fi_bad c13
    rw [e1, e2, e2, e2]
    rfl
  · skip
    replace c13 := nF c13
    obtain ⟨hk, hc⟩ := gc_zero (show gcE a b l c = 0 by omega)
    have hs := okP_size hk
    refine Run.skip ?_
    refine Run.seq ?_
    refine Run.region ?_
    refine Ops.pure rfl (Pure.move rfl) ?_
    refine Ops.q rfl (QOp.call fn113 rfl (fun w hw => f_s_l10First w _ a b v l c (RdL.boxM 1 rfl rfl w hw) (RdL.old hv w hw) hl hk hc)) ?_
    refine Ops.pure rfl (Pure.move rfl) ?_
    refine Ops.pure rfl (Pure.extract rfl rfl) ?_
    refine Ops.pure rfl (Pure.extract rfl rfl) ?_
    refine Ops.pure rfl (Pure.assign rfl) ?_
    refine Ops.pure rfl (Pure.assign rfl) ?_
    refine Ops.nil ?_
    refine Run.seq ?_
    refine Run.seq ?_
    refine Run.region ?_
    refine Ops.pure rfl (Pure.move rfl) ?_
    refine Ops.pure rfl (Pure.lss rfl rfl) ?_
    refine Ops.nil ?_
    refine Run.cond rfl (fun c22 => ?_) (fun c22 => ?_)
    · skip
      replace c22 := dT c22
      refine Run.seq ?_
      refine Run.region ?_
      refine Ops.pure rfl (Pure.build rfl bld55) ?_
      refine Ops.store (Stores.box 0 rfl rfl rfl size55 (allOne rfl) rfl rfl) ?_
      refine Ops.pure rfl (Pure.assign rfl) ?_
      refine Ops.pure rfl (Pure.assign rfl) ?_
      refine Ops.nil ?_
      refine Run.retC2x 0 rfl rfl rfl rfl rfl cell55 rfl (Ext.nil _) ?_
      obtain ⟨e1, e2⟩ := fi_no c13 c22
      rw [e1, e2, e2, e2]
      rfl
    · skip
      replace c22 := dF c22
      refine Run.skip ?_
      refine Run.seq ?_
      obtain ⟨g1, g2, -, -, -⟩ := fc_yes c22
      have hli := okP_inn hk
      obtain ⟨n, hn⟩ := Int.eq_ofNat_of_zero_le g1
      rw [hn]
      refine Run.region ?_
      refine Ops.pure rfl (Pure.move rfl) ?_
      refine Ops.q rfl (QOp.call fn115 rfl (fun w hw => f_s_l02Point w _ a b v n (RdL.boxM 1 rfl rfl w hw) hs (by omega))) ?_
      refine Ops.pure rfl (Pure.move rfl) ?_
      refine Ops.store (Stores.box 0 rfl rfl rfl size55 (allOne rfl) rfl rfl) ?_
      refine Ops.pure rfl (Pure.assign rfl) ?_
      refine Ops.pure rfl (Pure.assign rfl) ?_
      refine Ops.nil ?_
      refine Run.retC2x 0 rfl rfl rfl rfl rfl cell55 rfl (Ext.nil _) ?_
      obtain ⟨e1, e2⟩ := fi_ok c13 c22
      rw [e1, e2, e2, e2]
      try rw [hpg]
      rfl

set_option maxRecDepth 4000 in
set_option maxHeartbeats 800000 in
/-- impl.StepsTo -/
theorem f_i_StepsTo (w : World) (a : Int) (b : Int) (v : Value) (l : List Int) (c : Int) (hv : Rd w v 1 l.length (ints l)) (hl : l.length ≤ 1073741824) (a0 : -9223372036854775808 ≤ a) (a1 : a ≤ 9223372036854775807) (b0 : -9223372036854775808 ≤ b) (b1 : b ≤ 9223372036854775807) : Ret Try.prog 52 [.agg #[.int .i64 a, .int .i64 b, v], .int .i64 c] w (fun u L => ∃ x, x.oneCell' = true ∧ u = .tuple #[.agg #[.int .i64 (stV a b l c a), .int .i64 (stV a b l c b), x], .int .i64 (stV a b l c (stR a b l c).2), .int .i64 (stE a b l c)] ∧ L = [.row 2 1 x (stL a b l c).length (ints (stL a b l c))]) := by
  refine Ret.enter Try.func52 rfl Try.ntmps52 rfl ?_
  refine Run.seq ?_
  refine Run.region ?_
  refine Ops.go rfl (Loud.box rfl rfl) ?_
  rintro _ _ ⟨b2, rfl, rfl⟩
  refine Ops.go rfl (Loud.alloc zero28 rfl) ?_
  rintro _ _ ⟨b4, rfl, rfl⟩
  refine Ops.pure rfl (Pure.assign rfl) ?_
  refine Ops.pure rfl (Pure.assign rfl) ?_
  refine Ops.nil ?_
  refine Run.seq ?_
  refine Run.seq ?_
  refine Run.region ?_
  refine Ops.pure rfl (Pure.ldBA 1 rfl cell28 rfl rfl rfl) ?_
  refine Ops.pure rfl (Pure.move rfl) ?_
  refine Ops.q rfl (QOp.call fn107 rfl (fun w hw => f_i_changeCode w _ _ _ _ _ (by exact RdL.old (by assumption) w hw) (by assumption) (by assumption) (by assumption) (by assumption) (by assumption))) ?_
  refine Ops.pure rfl (Pure.assign rfl) ?_
  refine Ops.nil ?_
  refine Run.seq ?_
  refine Run.region ?_
  refine Ops.pure rfl (Pure.move rfl) ?_
  refine Ops.pure rfl (Pure.neq rfl rfl) ?_
  refine Ops.nil ?_
  refine Run.cond rfl (fun c17 => ?_) (fun c17 => ?_)
  · skip
    replace c17 := nT c17
    refine Run.seq ?_
    refine Run.region ?_
    refine Ops.pure rfl (Pure.build rfl bld28) ?_
    refine Ops.pure rfl (Pure.move rfl) ?_
    refine Ops.store (Stores.box 0 rfl rfl rfl size28 (allOne rfl) rfl rfl) ?_
    refine Ops.pure rfl (Pure.assign rfl) ?_
    refine Ops.pure rfl (Pure.assign rfl) ?_
    refine Ops.nil ?_
    refine Run.addNil 2 1 ?_
    refine Run.retC2x 1 rfl rfl rfl rfl rfl cell28 rfl (Ext.take 0 rfl (Ext.nil _)) ?_
    obtain ⟨e1, e2, e3⟩ := st_bad c17
    rw [e1, e2, e2, e2, e3]
    exact ⟨_, rfl, rfl, rfl⟩
  · skip
    replace c17 := nF c17
    obtain ⟨hk, hc⟩ := gc_zero (show gcE a b l c = 0 by omega)
    have hs := okP_size hk
    refine Run.skip ?_
    refine Run.seq ?_
    refine Run.region ?_
    refine Ops.pure rfl (Pure.ldBA 1 rfl cell28 rfl rfl rfl) ?_
    refine Ops.go rfl (Loud.callR fn108 rfl (fun w hw => f_i_clonePanel w _ _ _ _ (by exact RdL.old (by assumption) w hw) (by assumption))) ?_
    rintro v21 _ ⟨L21, hQ21, rfl⟩
    obtain ⟨x21, h21, rfl, rfl⟩ := hQ21
    refine Ops.go rfl (Loud.alloc zero28 rfl) ?_
    rintro _ _ ⟨b8, rfl, rfl⟩
    refine Ops.store (Stores.box 0 rfl rfl rfl size28 (one3 h21) rfl rfl) ?_
    refine Ops.pure rfl (Pure.assign rfl) ?_
    refine Ops.nil ?_
    refine Run.seq ?_
    refine Run.block ?_
    refine Run.loop3 (X := Nat) (Y := List Int) (Z := Value) (fun n m x => [(1, .int .i64 c), (4, .pointer (some ⟨b4, 0, none⟩)), (8, .pointer (some ⟨b8, 0, none⟩)), (9, .int .i64 n)]) (fun n m x => [.box b8 28 [.int .i64 a, .int .i64 b, x], .row 2 1 x m.length (ints m), .box b4 28 [.int .i64 0, .int .i64 0, .slice none 0 0]]) (fun n m x => x.oneCell' = true ∧ Way a b l c n m) (fun n m x => (dst (cnt a b m) c).toNat) 0 l x21 ?_ ?_ ?_ ?_
    · exact ⟨h21, Way.zero hk⟩
    · exact ⟨rfl, rfl, rfl, rfl, trivial⟩
    · exact Ext.take 0 rfl (Ext.take 0 rfl (Ext.take 0 rfl (Ext.nil _)))
    · rintro n m x ⟨hx, hway⟩
      have hmk := hway.1
      have hml := okP_ln hmk
      have hcl := cnt_le (l := m) hs
      obtain ⟨hm1, hm2, f, hf1, hf2, hf3⟩ := id hway
      have hd0 := dst_bd (a := (cnt a b l : Int)) (b := c) (by omega) (by have := cnt_le (l := l) hs; omega) hc.1 hc.2
      refine Run.seq ?_
      refine Run.seq ?_
      refine Run.region ?_
      refine Ops.pure rfl (Pure.ldBA 0 rfl cell28 rfl rfl rfl) ?_
      refine Ops.q rfl (QOp.call fn75 rfl (fun w hw => f_i_countCurves w a b x m (RdL.own 1 rfl w hw) hmk)) ?_
      refine Ops.pure rfl (Pure.move rfl) ?_
      refine Ops.pure rfl (Pure.neq rfl rfl) ?_
      refine Ops.nil ?_
      refine Run.cond rfl (fun c25 => ?_) (fun c25 => ?_)
      · skip
        replace c25 := nT c25
        refine Run.skip ?_
        refine Run.block ?_
        refine Run.seq ?_
        refine Run.region ?_
        refine Ops.pure rfl (Pure.ldBA 0 rfl cell28 rfl rfl rfl) ?_
        refine Ops.pure rfl (Pure.move rfl) ?_
        refine Ops.q rfl (QOp.call fn109 rfl (fun w hw => f_i_Panel_firstChange w a b x m c (RdL.own 1 rfl w hw) (by omega) hmk hc)) ?_
        refine Ops.pure rfl (Pure.move rfl) ?_
        refine Ops.pure rfl (Pure.extract rfl rfl) ?_
        refine Ops.pure rfl (Pure.extract rfl rfl) ?_
        refine Ops.pure rfl (Pure.extract rfl rfl) ?_
        refine Ops.pure rfl (Pure.assign rfl) ?_
        refine Ops.pure rfl (Pure.assign rfl) ?_
        refine Ops.pure rfl (Pure.assign rfl) ?_
        refine Ops.nil ?_
        refine Run.seq ?_
        refine Run.seq ?_
        refine Run.region ?_
        refine Ops.pure rfl (Pure.move rfl) ?_
        refine Ops.pure rfl (Pure.not rfl) ?_
        refine Ops.nil ?_
        refine Run.cond rfl (fun c34 => ?_) (fun c34 => ?_)
        · skip
          replace c34 := nT c34
          refine Run.seq ?_
          refine Run.region ?_
          refine Ops.pure rfl (Pure.build rfl bld28) ?_
          refine Ops.store (Stores.box 2 rfl rfl rfl size28 (allOne rfl) rfl rfl) ?_
          refine Ops.pure rfl (Pure.assign rfl) ?_
          refine Ops.pure rfl (Pure.assign rfl) ?_
          refine Ops.nil ?_
          refine Run.addNil 2 1 ?_
          refine Run.retC2x 3 rfl rfl rfl rfl rfl cell28 rfl (Ext.take 0 rfl (Ext.nil _)) ?_
          obtain ⟨e1, e2, e3⟩ := st_lost c17 (hway.lost c25 (by first | omega | (simp_all; omega)))
          rw [e1, e2, e2, e2, e3]
          exact ⟨_, rfl, rfl, rfl⟩
        · skip
          replace c34 := nF c34
          refine Run.skip ?_
          refine Run.seq ?_
          have hno : ¬ fcA a b m c < 0 := by first | omega | (simp_all; omega)
          obtain ⟨g1, g2, -, -, -⟩ := fc_yes hno
          rw [if_neg hno]
          obtain ⟨q, hq⟩ := Int.eq_ofNat_of_zero_le g1
          rw [hq]
          refine Run.region ?_
          refine Ops.pure rfl (Pure.ldBA 0 rfl cell28 rfl rfl rfl) ?_
          refine Ops.pure rfl (Pure.move rfl) ?_
          refine Ops.pure rfl (Pure.move rfl) ?_
          refine Ops.go rfl (Loud.callR fn110 rfl (fun w hw => f_i_Panel_changed w a b x m q (fcK a b m c) (RdL.own 1 rfl w hw) (by omega) (by omega))) ?_
          rintro v39 _ ⟨L39, hQ39, rfl⟩
          obtain ⟨x39, h39, rfl, rfl⟩ := hQ39
          refine Ops.store (Stores.box 1 rfl rfl rfl size28 (one3 h39) rfl rfl) ?_
          refine Ops.nil ?_
          refine Run.region ?_
          refine Ops.pure rfl (Pure.move rfl) ?_
          refine Ops.pure rfl (Pure.add rfl rfl (by omega) (by omega)) ?_
          refine Ops.pure rfl (Pure.assign rfl) ?_
          refine Ops.nil ?_
          refine Run.blk ?_
          refine Run.asrt ?_
          obtain ⟨k1, k2⟩ := hway.step c25 hno
          refine ⟨n + 1, nxL a b m c, x39, ⟨⟨h39, k1⟩, k2⟩, ⟨rfl, rfl, rfl, rfl, trivial⟩, Ext.trans (Ext.eq ?_) (Ext.take 1 rfl (Ext.take 0 rfl (Ext.take 1 rfl (Ext.nil _))))⟩
          unfold nxL
          rw [List.length_set, hq, Int.toNat_natCast]
          rfl
      · skip
        replace c25 := nF c25
        refine Run.exit rfl ?_
        refine Run.seq ?_
        refine Run.region ?_
        refine Ops.pure rfl (Pure.ldBA 0 rfl cell28 rfl rfl rfl) ?_
        refine Ops.pure rfl (Pure.move rfl) ?_
        refine Ops.store (Stores.box 2 rfl rfl rfl size28 (one3 hx) rfl rfl) ?_
        refine Ops.pure rfl (Pure.assign rfl) ?_
        refine Ops.pure rfl (Pure.assign rfl) ?_
        refine Ops.nil ?_
        refine Run.retC2x 2 rfl rfl rfl rfl rfl cell28 rfl (Ext.take 1 rfl (Ext.nil _)) ?_
        obtain ⟨e1, e2, e3⟩ := st_hit c17 (hway.hit (by first | exact c25 | omega))
        have e4 := hway.hit (by first | exact c25 | omega)
        rw [e1, e2, e2, e2, e3, e4]
        exact ⟨_, hx, rfl, rfl⟩

set_option maxRecDepth 4000 in
set_option maxHeartbeats 800000 in
/-- spec.StepsTo -/
theorem f_s_StepsTo (w : World) (a : Int) (b : Int) (v : Value) (l : List Int) (c : Int) (hv : Rd w v 1 l.length (ints l)) (hl : l.length ≤ 1073741824) (a0 : -9223372036854775808 ≤ a) (a1 : a ≤ 9223372036854775807) (b0 : -9223372036854775808 ≤ b) (b1 : b ≤ 9223372036854775807) : Ret Try.prog 53 [.agg #[.int .i64 a, .int .i64 b, v], .int .i64 c] w (fun u L => ∃ x, x.oneCell' = true ∧ u = .tuple #[.agg #[.int .i64 (stV a b l c a), .int .i64 (stV a b l c b), x], .int .i64 (stV a b l c (stR a b l c).2), .int .i64 (stE a b l c)] ∧ L = [.row 2 1 x (stL a b l c).length (ints (stL a b l c))]) := by
  refine Ret.enter Try.func53 rfl Try.ntmps53 rfl ?_
  refine Run.seq ?_
  refine Run.region ?_
  refine Ops.go rfl (Loud.box rfl rfl) ?_
  rintro _ _ ⟨b2, rfl, rfl⟩
  refine Ops.go rfl (Loud.alloc zero28 rfl) ?_
  rintro _ _ ⟨b4, rfl, rfl⟩
  refine Ops.pure rfl (Pure.assign rfl) ?_
  refine Ops.pure rfl (Pure.assign rfl) ?_
  refine Ops.nil ?_
  refine Run.seq ?_
  refine Run.region ?_
  refine Ops.pure rfl (Pure.move rfl) ?_
  refine Ops.q rfl (QOp.call fn111 rfl (fun w hw => f_s_l10Goal w _ a b v l c (RdL.boxM 1 rfl rfl w hw) (RdL.old hv w hw) hl a0 a1 b0 b1)) ?_
  refine Ops.pure rfl (Pure.assign rfl) ?_
  refine Ops.nil ?_
  refine Run.seq ?_
  refine Run.seq ?_
  refine Run.region ?_
  refine Ops.pure rfl (Pure.move rfl) ?_
  refine Ops.pure rfl (Pure.neq rfl rfl) ?_
  refine Ops.nil ?_
  refine Run.cond rfl (fun c15 => ?_) (fun c15 => ?_)
  · skip
    replace c15 := nT c15
    refine Run.seq ?_
    refine Run.region ?_
    refine Ops.pure rfl (Pure.build rfl bld28) ?_
    refine Ops.pure rfl (Pure.move rfl) ?_
    refine Ops.store (Stores.box 0 rfl rfl rfl size28 (allOne rfl) rfl rfl) ?_
    refine Ops.pure rfl (Pure.assign rfl) ?_
    refine Ops.pure rfl (Pure.assign rfl) ?_
    refine Ops.nil ?_
    refine Run.addNil 2 1 ?_
    refine Run.retC2x 1 rfl rfl rfl rfl rfl cell28 rfl (Ext.take 0 rfl (Ext.nil _)) ?_
    obtain ⟨e1, e2, e3⟩ := st_bad c15
    rw [e1, e2, e2, e2, e3]
    exact ⟨_, rfl, rfl, rfl⟩
  · skip
    replace c15 := nF c15
    obtain ⟨hk, hc⟩ := gc_zero (show gcE a b l c = 0 by omega)
    have hs := okP_size hk
    refine Run.skip ?_
    refine Run.seq ?_
    refine Run.region ?_
    refine Ops.go rfl (Loud.callR fn112 rfl (fun w hw => f_s_l02Own w _ a b v l (RdL.boxM 1 rfl rfl w hw) (RdL.old hv w hw) hl)) ?_
    rintro v18 _ ⟨L18, hQ18, rfl⟩
    obtain ⟨x18, h18, rfl, rfl⟩ := hQ18
    refine Ops.go rfl (Loud.alloc zero28 rfl) ?_
    rintro _ _ ⟨b8, rfl, rfl⟩
    refine Ops.store (Stores.box 0 rfl rfl rfl size28 (one3 h18) rfl rfl) ?_
    refine Ops.nil ?_
    refine Run.seq ?_
    refine Run.region ?_
    refine Ops.pure rfl (Pure.assign rfl) ?_
    refine Ops.nil ?_
    refine Run.seq ?_
    refine Run.block ?_
    refine Run.loop3 (X := Nat) (Y := List Int) (Z := Value) (fun n m x => [(1, .int .i64 c), (4, .pointer (some ⟨b4, 0, none⟩)), (8, .pointer (some ⟨b8, 0, none⟩)), (9, .int .i64 n)]) (fun n m x => [.box b8 28 [.int .i64 a, .int .i64 b, x], .row 2 1 x m.length (ints m), .box b4 28 [.int .i64 0, .int .i64 0, .slice none 0 0]]) (fun n m x => x.oneCell' = true ∧ Way a b l c n m) (fun n m x => (dst (cnt a b m) c).toNat) 0 l x18 ?_ ?_ ?_ ?_
    · exact ⟨h18, Way.zero hk⟩
    · exact ⟨rfl, rfl, rfl, rfl, trivial⟩
    · exact Ext.take 0 rfl (Ext.take 0 rfl (Ext.take 0 rfl (Ext.nil _)))
    · rintro n m x ⟨hx, hway⟩
      have hmk := hway.1
      have hml := okP_ln hmk
      have hcl := cnt_le (l := m) hs
      obtain ⟨hm1, hm2, f, hf1, hf2, hf3⟩ := id hway
      have hd0 := dst_bd (a := (cnt a b l : Int)) (b := c) (by omega) (by have := cnt_le (l := l) hs; omega) hc.1 hc.2
      refine Run.seq ?_
      refine Run.seq ?_
      refine Run.region ?_
      refine Ops.q rfl (QOp.call fn85 rfl (fun w hw => f_s_l04Count w _ a b x m (RdL.boxM 0 rfl rfl w hw) (RdL.own 1 rfl w hw) hmk)) ?_
      refine Ops.pure rfl (Pure.move rfl) ?_
      refine Ops.pure rfl (Pure.neq rfl rfl) ?_
      refine Ops.nil ?_
      refine Run.cond rfl (fun c21 => ?_) (fun c21 => ?_)
      · skip
        replace c21 := nT c21
        refine Run.skip ?_
        refine Run.block ?_
        refine Run.seq ?_
        refine Run.region ?_
        refine Ops.pure rfl (Pure.move rfl) ?_
        refine Ops.q rfl (QOp.call fn113 rfl (fun w hw => f_s_l10First w _ a b x m c (RdL.boxM 0 rfl rfl w hw) (RdL.own 1 rfl w hw) (by omega) hmk hc)) ?_
        refine Ops.pure rfl (Pure.move rfl) ?_
        refine Ops.pure rfl (Pure.extract rfl rfl) ?_
        refine Ops.pure rfl (Pure.extract rfl rfl) ?_
        refine Ops.pure rfl (Pure.assign rfl) ?_
        refine Ops.pure rfl (Pure.assign rfl) ?_
        refine Ops.nil ?_
        refine Run.seq ?_
        refine Run.seq ?_
        refine Run.region ?_
        refine Ops.pure rfl (Pure.move rfl) ?_
        refine Ops.pure rfl (Pure.lss rfl rfl) ?_
        refine Ops.nil ?_
        refine Run.cond rfl (fun c28 => ?_) (fun c28 => ?_)
        · skip
          replace c28 := dT c28
          refine Run.seq ?_
          refine Run.region ?_
          refine Ops.pure rfl (Pure.build rfl bld28) ?_
          refine Ops.store (Stores.box 2 rfl rfl rfl size28 (allOne rfl) rfl rfl) ?_
          refine Ops.pure rfl (Pure.assign rfl) ?_
          refine Ops.pure rfl (Pure.assign rfl) ?_
          refine Ops.nil ?_
          refine Run.addNil 2 1 ?_
          refine Run.retC2x 3 rfl rfl rfl rfl rfl cell28 rfl (Ext.take 0 rfl (Ext.nil _)) ?_
          obtain ⟨e1, e2, e3⟩ := st_lost c15 (hway.lost c21 c28)
          rw [e1, e2, e2, e2, e3]
          exact ⟨_, rfl, rfl, rfl⟩
        · skip
          replace c28 := dF c28
          refine Run.skip ?_
          refine Run.seq ?_
          obtain ⟨g1, g2, -, -, -⟩ := fc_yes c28
          obtain ⟨q, hq⟩ := Int.eq_ofNat_of_zero_le g1
          rw [hq]
          have hli : (ints m).length = m.length := by rw [ints, List.length_map]
          refine Run.region ?_
          refine Ops.pure rfl (Pure.fieldAddrB fld28_2 rfl) ?_
          refine Ops.pure rfl (Pure.ldB 0 rfl cell22 rfl rfl) ?_
          refine Ops.pure rfl (Pure.move rfl) ?_
          refine Ops.pure rfl (Pure.move rfl) ?_
          refine Ops.pure rfl (Pure.idx1N sl22 (RdL.own 1 rfl) rfl rfl (by first | assumption | omega | (simp; omega))) ?_
          refine Ops.store (Stores.row1 1 rfl size2 rfl rfl rfl (by first | assumption | omega | (simp; omega))) ?_
          refine Ops.nil ?_
          refine Run.region ?_
          refine Ops.pure rfl (Pure.move rfl) ?_
          refine Ops.pure rfl (Pure.add rfl rfl (by omega) (by omega)) ?_
          refine Ops.pure rfl (Pure.assign rfl) ?_
          refine Ops.nil ?_
          refine Run.blk ?_
          refine Run.asrt ?_
          obtain ⟨k1, k2⟩ := hway.step c21 c28
          refine ⟨n + 1, nxL a b m c, x, ⟨⟨hx, k1⟩, k2⟩, ⟨rfl, rfl, rfl, rfl, trivial⟩, Ext.eq ?_⟩
          unfold nxL
          rw [List.length_set, hq, Int.toNat_natCast, ints, ints, List.map_set]
          try rfl
      · skip
        replace c21 := nF c21
        refine Run.exit rfl ?_
        refine Run.seq ?_
        refine Run.region ?_
        refine Ops.pure rfl (Pure.ldBA 0 rfl cell28 rfl rfl rfl) ?_
        refine Ops.pure rfl (Pure.move rfl) ?_
        refine Ops.store (Stores.box 2 rfl rfl rfl size28 (one3 hx) rfl rfl) ?_
        refine Ops.pure rfl (Pure.assign rfl) ?_
        refine Ops.pure rfl (Pure.assign rfl) ?_
        refine Ops.nil ?_
        refine Run.retC2x 2 rfl rfl rfl rfl rfl cell28 rfl (Ext.take 1 rfl (Ext.nil _)) ?_
        obtain ⟨e1, e2, e3⟩ := st_hit c15 (hway.hit (by first | exact c21 | omega))
        have e4 := hway.hit (by first | exact c21 | omega)
        rw [e1, e2, e2, e2, e3, e4]
        exact ⟨_, hx, rfl, rfl⟩

end Go.Proofs.Ytkplanpcmkbfiaa
