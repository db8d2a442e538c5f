/- Contracts of functions, printed by program from annotations. -/
import Derived.Test.YtmfinopdokkjcaaLawN
namespace Go.Proofs.Ytmfinopdokkjcaa
open Go Go.AW Go.RowKit
set_option linter.unusedVariables false
set_option linter.unusedSimpArgs false

def pdig (m : Nat) : Nat → List Int
  | 0 => []
  | j + 1 => ((m / p3 j % 3 : Nat) : Int) :: pdig m j
theorem length_pdig (m : Nat) : ∀ j, (pdig m j).length = j
  | 0 => rfl
  | j + 1 => by simp [pdig, length_pdig m j]
theorem pdig_step {m n j : Nat} (h : j < n) : (List.replicate (n - j) (0 : Int) ++ pdig m j).set (n - 1 - j) ((m / p3 j % 3 : Nat) : Int) = List.replicate (n - (j + 1)) 0 ++ pdig m (j + 1) := by
  have e : n - j = (n - 1 - j) + 1 := by omega
  rw [e, show n - (j + 1) = n - 1 - j by omega, List.set_append, if_pos (by simp), List.replicate_succ', List.set_append, if_neg (by simp)]
  simp [pdig]
theorem div_p3 (m j : Nat) : m / p3 j / 3 = m / p3 (j + 1) := by rw [p3_succ, Nat.div_div_eq_div_mul, Nat.mul_comm]

set_option maxRecDepth 4000 in
/-- impl.newPanel -/
theorem f_i_newPanel (w : World) (a : Int) (b : Int) (hs : SizeOk a b) : Ret Try.prog 189 [.int .i64 a, .int .i64 b] w (fun u L => ∃ x, x.oneCell' = true ∧ u = .agg #[.int .i64 a, .int .i64 b, x] ∧ L = [.row 2 1 x (inn a b) (ints (List.replicate (inn a b) 0))]) := by
  have hin := inn_eq hs
  obtain ⟨hs1, hs2, hs3, hs4⟩ := id hs
  refine Ret.enter Try.func189 rfl Try.ntmps189 rfl ?_
  refine Run.seq ?_
  refine Run.region ?_
  refine Ops.go rfl (Loud.alloc zero35 rfl) ?_
  rintro _ _ ⟨b4, rfl, rfl⟩
  refine Ops.nil ?_
  refine Run.seq ?_
  refine Run.region ?_
  refine Ops.pure rfl (Pure.move rfl) ?_
  refine Ops.pure rfl (Pure.move rfl) ?_
  refine Ops.pure rfl (Pure.move rfl) ?_
  refine Ops.pure rfl (Pure.move rfl) ?_
  refine Ops.q rfl (QOp.call fn126 rfl (fun w hw => f_i_innerPoints w _ _ (by assumption))) ?_
  refine Ops.go rfl (Loud.make sl32 rfl rfl (by omega) (by omega)) ?_
  rintro v10 _ rfl
  refine Ops.have_ (fun w hw => row_one 0 hw rfl) (fun h10 => ?_)
  refine Ops.pure rfl (Pure.build rfl (bld35_3 _ _ _ (by first | rfl | assumption) (by first | rfl | assumption) (by first | rfl | assumption))) ?_
  refine Ops.store (Stores.box 1 rfl rfl rfl size35 (one3 h10) rfl rfl) ?_
  refine Ops.nil ?_
  refine Run.retCx 1 rfl rfl rfl cell35 rfl (Ext.take 0 rfl (Ext.nil _)) ?_
  exact ⟨v10, h10, rfl, by rw [made_one _ rfl]; simp [ints]⟩

set_option maxRecDepth 4000 in
/-- spec.l02New -/
theorem f_s_l02New (w : World) (a : Int) (b : Int) (hs : SizeOk a b) : Ret Try.prog 170 [.int .i64 a, .int .i64 b] w (fun u L => ∃ x, x.oneCell' = true ∧ u = .agg #[.int .i64 a, .int .i64 b, x] ∧ L = [.row 2 1 x (inn a b) (ints (List.replicate (inn a b) 0))]) := by
  have hin := inn_eq hs
  obtain ⟨hs1, hs2, hs3, hs4⟩ := id hs
  refine Ret.enter Try.func170 rfl Try.ntmps170 rfl ?_
  refine Run.seq ?_
  refine Run.region ?_
  refine Ops.go rfl (Loud.alloc zero35 rfl) ?_
  rintro _ _ ⟨b4, rfl, rfl⟩
  refine Ops.nil ?_
  refine Run.seq ?_
  refine Run.region ?_
  refine Ops.pure rfl (Pure.move rfl) ?_
  refine Ops.pure rfl (Pure.move rfl) ?_
  refine Ops.pure rfl (Pure.move rfl) ?_
  refine Ops.pure rfl (Pure.move rfl) ?_
  refine Ops.q rfl (QOp.call fn128 rfl (fun w hw => f_s_l02Inner w _ _ (by assumption))) ?_
  refine Ops.go rfl (Loud.make sl32 rfl rfl (by omega) (by omega)) ?_
  rintro v10 _ rfl
  refine Ops.have_ (fun w hw => row_one 0 hw rfl) (fun h10 => ?_)
  refine Ops.pure rfl (Pure.build rfl (bld35_3 _ _ _ (by first | rfl | assumption) (by first | rfl | assumption) (by first | rfl | assumption))) ?_
  refine Ops.store (Stores.box 1 rfl rfl rfl size35 (one3 h10) rfl rfl) ?_
  refine Ops.nil ?_
  refine Run.retCx 1 rfl rfl rfl cell35 rfl (Ext.take 0 rfl (Ext.nil _)) ?_
  exact ⟨v10, h10, rfl, by rw [made_one _ rfl]; simp [ints]⟩

set_option maxRecDepth 4000 in
/-- impl.panelWith -/
theorem f_i_panelWith (w : World) (a : Int) (b : Int) (m : Nat) (hs : SizeOk a b) (hm : m ≤ 1000000) : Ret Try.prog 114 [.int .i64 a, .int .i64 b, .int .i64 m] w (fun u L => ∃ x, x.oneCell' = true ∧ u = .agg #[.int .i64 a, .int .i64 b, x] ∧ L = [.row 2 1 x (inn a b) (ints (pdig m (inn a b)))]) := by
  have hin := inn_eq hs
  obtain ⟨hs1, hs2, hs3, hs4⟩ := id hs
  refine Ret.enter Try.func114 rfl Try.ntmps114 rfl ?_
  refine Run.seq ?_
  refine Run.region ?_
  refine Ops.go rfl (Loud.alloc zero35 rfl) ?_
  rintro _ _ ⟨b6, rfl, rfl⟩
  refine Ops.nil ?_
  refine Run.seq ?_
  refine Run.region ?_
  refine Ops.pure rfl (Pure.move rfl) ?_
  refine Ops.pure rfl (Pure.move rfl) ?_
  refine Ops.go rfl (Loud.callR fn189 rfl (fun w hw => f_i_newPanel w _ _ (by assumption))) ?_
  rintro v11 _ ⟨L11, hQ11, rfl⟩
  obtain ⟨x11, h11, rfl, rfl⟩ := hQ11
  refine Ops.go rfl (Loud.alloc zero35 rfl) ?_
  rintro _ _ ⟨b7, rfl, rfl⟩
  refine Ops.store (Stores.box 0 rfl rfl rfl size35 (one3 h11) rfl rfl) ?_
  refine Ops.nil ?_
  refine Run.seq ?_
  refine Run.seq ?_
  refine Run.region ?_
  refine Ops.pure rfl (Pure.fieldAddrB fld35_2 rfl) ?_
  refine Ops.pure rfl (Pure.ldB 0 rfl cell32 rfl rfl) ?_
  refine Ops.pure rfl (Pure.len sl32 (RdL.own 1 rfl) rfl) ?_
  refine Ops.pure rfl (Pure.sub rfl rfl (by omega) (by omega)) ?_
  refine Ops.pure rfl (Pure.assign rfl) ?_
  refine Ops.nil ?_
  refine Run.block ?_
  refine Run.loop (X := Nat) (fun j => [(2, .int .i64 ((m / p3 j : Nat) : Int)), (6, .pointer (some ⟨b6, 0, none⟩)), (7, .pointer (some ⟨b7, 0, none⟩)), (8, .int .i64 ((inn a b : Int) - 1 - j))]) (fun j => [.box b7 35 [.int .i64 a, .int .i64 b, x11], .row 2 1 x11 (inn a b) (ints (List.replicate (inn a b - j) 0 ++ pdig m j)), .box b6 35 [.int .i64 0, .int .i64 0, .slice none 0 0]]) (fun j => j ≤ inn a b) (fun j => inn a b - j) 0 ?_ ?_ ?_ ?_
  · exact Nat.zero_le _
  · exact ⟨by rw [show m / p3 0 = m from Nat.div_one m]; rfl, rfl, rfl, by rw [show (inn a b : Int) - 1 - ((0 : Nat) : Int) = inn a b - 1 by omega]; rfl, trivial⟩
  · exact Ext.eq (by rw [Nat.sub_zero]; show _ = [Ent.box _ _ _, Ent.row _ _ _ _ _, Ent.box _ _ _]; rw [show pdig m 0 = [] from rfl, List.append_nil]; rfl)
  · intro j hinv0
    have hll : (List.replicate (inn a b - j) 0 ++ pdig m j).length = inn a b := by rw [List.length_append, List.length_replicate, length_pdig]; omega
    have hll2 : (ints (List.replicate (inn a b - j) 0 ++ pdig m j)).length = inn a b := by rw [ints, List.length_map]; exact hll
    have hdl := Nat.div_le_self m (p3 j)
    refine Run.seq ?_
    refine Run.seq ?_
    refine Run.region ?_
    refine Ops.pure rfl (Pure.move rfl) ?_
    refine Ops.pure rfl (Pure.geq rfl rfl) ?_
    refine Ops.nil ?_
    refine Run.cond rfl (fun c17 => ?_) (fun c17 => ?_)
    · skip
      replace c17 := dT c17
      refine Run.skip ?_
      refine Run.seq ?_
      refine Run.block ?_
      refine Run.seq ?_
      refine Run.setv 8 rfl (congrArg (Value.int .i64) (show (inn a b : Int) - 1 - j = ((inn a b - 1 - j : Nat) : Int) by omega)) ?_
      refine Run.region ?_
      refine Ops.pure rfl (Pure.fieldAddrB fld35_2 rfl) ?_
      refine Ops.pure rfl (Pure.ldB 0 rfl cell32 rfl rfl) ?_
      refine Ops.pure rfl (Pure.move rfl) ?_
      refine Ops.pure rfl (Pure.move rfl) ?_
      refine Ops.pure rfl (Pure.remN (n := 3) rfl rfl (by omega)) ?_
      refine Ops.pure rfl (Pure.idx1N sl32 (RdL.own 1 rfl) rfl rfl (by first | assumption | omega | (simp; omega))) ?_
      refine Ops.store (Stores.row1 1 rfl size2 rfl rfl rfl (by first | assumption | omega | (simp; omega))) ?_
      refine Ops.nil ?_
      refine Run.region ?_
      refine Ops.pure rfl (Pure.move rfl) ?_
      refine Ops.pure rfl (Pure.quoN (n := 3) rfl rfl (by omega) (by omega)) ?_
      refine Ops.pure rfl (Pure.assign rfl) ?_
      refine Ops.nil ?_
      refine Run.blk ?_
      refine Run.region ?_
      refine Ops.pure rfl (Pure.move rfl) ?_
      refine Ops.pure rfl (Pure.sub rfl rfl (by omega) (by omega)) ?_
      refine Ops.pure rfl (Pure.assign rfl) ?_
      refine Ops.nil ?_
      refine Run.asrt ?_
      refine ⟨j + 1, ⟨by omega, by omega⟩, ⟨by rw [← div_p3]; rfl, rfl, rfl, by rw [show (inn a b : Int) - 1 - ((j + 1 : Nat) : Int) = ((inn a b - 1 - j : Nat) : Int) - 1 by omega]; rfl, trivial⟩, Ext.eq ?_⟩
      rw [← pdig_step (by omega)]
      show [_, Ent.row _ _ _ _ (ints (List.set _ _ _)), _] = [_, Ent.row _ _ _ _ (List.set _ _ _), _]
      rw [ints, List.map_set]
      try rfl
    · skip
      replace c17 := dF c17
      refine Run.exit rfl ?_
      refine Run.seq ?_
      have e : j = inn a b := by omega
      subst e
      rw [Nat.sub_self]
      refine Run.region ?_
      refine Ops.pure rfl (Pure.ldBA 0 rfl cell35 rfl rfl rfl) ?_
      refine Ops.store (Stores.box 2 rfl rfl rfl size35 (one3 h11) rfl rfl) ?_
      refine Ops.nil ?_
      refine Run.retCx 2 rfl rfl rfl cell35 rfl (Ext.take 1 rfl (Ext.nil _)) ?_
      exact ⟨x11, h11, rfl, rfl⟩

set_option maxRecDepth 4000 in
/-- spec.l12At -/
theorem f_s_l12At (w : World) (a : Int) (b : Int) (m : Nat) (hs : SizeOk a b) (hm : m ≤ 1000000) : Ret Try.prog 109 [.int .i64 a, .int .i64 b, .int .i64 m] w (fun u L => ∃ x, x.oneCell' = true ∧ u = .agg #[.int .i64 a, .int .i64 b, x] ∧ L = [.row 2 1 x (inn a b) (ints (pdig m (inn a b)))]) := by
  have hin := inn_eq hs
  obtain ⟨hs1, hs2, hs3, hs4⟩ := id hs
  refine Ret.enter Try.func109 rfl Try.ntmps109 rfl ?_
  refine Run.seq ?_
  refine Run.region ?_
  refine Ops.go rfl (Loud.alloc zero35 rfl) ?_
  rintro _ _ ⟨b6, rfl, rfl⟩
  refine Ops.nil ?_
  refine Run.seq ?_
  refine Run.region ?_
  refine Ops.pure rfl (Pure.move rfl) ?_
  refine Ops.pure rfl (Pure.move rfl) ?_
  refine Ops.go rfl (Loud.callR fn170 rfl (fun w hw => f_s_l02New w _ _ (by assumption))) ?_
  rintro v11 _ ⟨L11, hQ11, rfl⟩
  obtain ⟨x11, h11, rfl, rfl⟩ := hQ11
  refine Ops.go rfl (Loud.alloc zero35 rfl) ?_
  rintro _ _ ⟨b7, rfl, rfl⟩
  refine Ops.store (Stores.box 0 rfl rfl rfl size35 (one3 h11) rfl rfl) ?_
  refine Ops.nil ?_
  refine Run.seq ?_
  refine Run.seq ?_
  refine Run.region ?_
  refine Ops.pure rfl (Pure.fieldAddrB fld35_2 rfl) ?_
  refine Ops.pure rfl (Pure.ldB 0 rfl cell32 rfl rfl) ?_
  refine Ops.pure rfl (Pure.len sl32 (RdL.own 1 rfl) rfl) ?_
  refine Ops.pure rfl (Pure.sub rfl rfl (by omega) (by omega)) ?_
  refine Ops.pure rfl (Pure.assign rfl) ?_
  refine Ops.nil ?_
  refine Run.block ?_
  refine Run.loop (X := Nat) (fun j => [(2, .int .i64 ((m / p3 j : Nat) : Int)), (6, .pointer (some ⟨b6, 0, none⟩)), (7, .pointer (some ⟨b7, 0, none⟩)), (8, .int .i64 ((inn a b : Int) - 1 - j))]) (fun j => [.box b7 35 [.int .i64 a, .int .i64 b, x11], .row 2 1 x11 (inn a b) (ints (List.replicate (inn a b - j) 0 ++ pdig m j)), .box b6 35 [.int .i64 0, .int .i64 0, .slice none 0 0]]) (fun j => j ≤ inn a b) (fun j => inn a b - j) 0 ?_ ?_ ?_ ?_
  · exact Nat.zero_le _
  · exact ⟨by rw [show m / p3 0 = m from Nat.div_one m]; rfl, rfl, rfl, by rw [show (inn a b : Int) - 1 - ((0 : Nat) : Int) = inn a b - 1 by omega]; rfl, trivial⟩
  · exact Ext.eq (by rw [Nat.sub_zero]; show _ = [Ent.box _ _ _, Ent.row _ _ _ _ _, Ent.box _ _ _]; rw [show pdig m 0 = [] from rfl, List.append_nil]; rfl)
  · intro j hinv0
    have hll : (List.replicate (inn a b - j) 0 ++ pdig m j).length = inn a b := by rw [List.length_append, List.length_replicate, length_pdig]; omega
    have hll2 : (ints (List.replicate (inn a b - j) 0 ++ pdig m j)).length = inn a b := by rw [ints, List.length_map]; exact hll
    have hdl := Nat.div_le_self m (p3 j)
    refine Run.seq ?_
    refine Run.seq ?_
    refine Run.region ?_
    refine Ops.pure rfl (Pure.move rfl) ?_
    refine Ops.pure rfl (Pure.geq rfl rfl) ?_
    refine Ops.nil ?_
    refine Run.cond rfl (fun c17 => ?_) (fun c17 => ?_)
    · skip
      replace c17 := dT c17
      refine Run.skip ?_
      refine Run.seq ?_
      refine Run.block ?_
      refine Run.seq ?_
      refine Run.setv 8 rfl (congrArg (Value.int .i64) (show (inn a b : Int) - 1 - j = ((inn a b - 1 - j : Nat) : Int) by omega)) ?_
      refine Run.region ?_
      refine Ops.pure rfl (Pure.fieldAddrB fld35_2 rfl) ?_
      refine Ops.pure rfl (Pure.ldB 0 rfl cell32 rfl rfl) ?_
      refine Ops.pure rfl (Pure.move rfl) ?_
      refine Ops.pure rfl (Pure.move rfl) ?_
      refine Ops.pure rfl (Pure.remN (n := 3) rfl rfl (by omega)) ?_
      refine Ops.pure rfl (Pure.idx1N sl32 (RdL.own 1 rfl) rfl rfl (by first | assumption | omega | (simp; omega))) ?_
      refine Ops.store (Stores.row1 1 rfl size2 rfl rfl rfl (by first | assumption | omega | (simp; omega))) ?_
      refine Ops.nil ?_
      refine Run.region ?_
      refine Ops.pure rfl (Pure.move rfl) ?_
      refine Ops.pure rfl (Pure.quoN (n := 3) rfl rfl (by omega) (by omega)) ?_
      refine Ops.pure rfl (Pure.assign rfl) ?_
      refine Ops.nil ?_
      refine Run.blk ?_
      refine Run.region ?_
      refine Ops.pure rfl (Pure.move rfl) ?_
      refine Ops.pure rfl (Pure.sub rfl rfl (by omega) (by omega)) ?_
      refine Ops.pure rfl (Pure.assign rfl) ?_
      refine Ops.nil ?_
      refine Run.asrt ?_
      refine ⟨j + 1, ⟨by omega, by omega⟩, ⟨by rw [← div_p3]; rfl, rfl, rfl, by rw [show (inn a b : Int) - 1 - ((j + 1 : Nat) : Int) = ((inn a b - 1 - j : Nat) : Int) - 1 by omega]; rfl, trivial⟩, Ext.eq ?_⟩
      rw [← pdig_step (by omega)]
      show [_, Ent.row _ _ _ _ (ints (List.set _ _ _)), _] = [_, Ent.row _ _ _ _ (List.set _ _ _), _]
      rw [ints, List.map_set]
      try rfl
    · skip
      replace c17 := dF c17
      refine Run.exit rfl ?_
      refine Run.seq ?_
      have e : j = inn a b := by omega
      subst e
      rw [Nat.sub_self]
      refine Run.region ?_
      refine Ops.pure rfl (Pure.ldBA 0 rfl cell35 rfl rfl rfl) ?_
      refine Ops.store (Stores.box 2 rfl rfl rfl size35 (one3 h11) rfl rfl) ?_
      refine Ops.nil ?_
      refine Run.retCx 2 rfl rfl rfl cell35 rfl (Ext.take 1 rfl (Ext.nil _)) ?_
      exact ⟨x11, h11, rfl, rfl⟩

def pwE (a b c : Int) : Int := if pcE a b = 0 then (if 0 ≤ c ∧ c ≤ pcN a b - 1 then 0 else 3) else pcE a b
theorem pwE_many {a b c : Int} (h : ¬ pcE a b = 0) : pwE a b c = pcE a b := by unfold pwE; rw [if_neg h]
theorem pwE_out {a b c : Int} (h : pcE a b = 0) (hc : ¬ (0 ≤ c ∧ c ≤ pcN a b - 1)) : pwE a b c = 3 := by unfold pwE; rw [if_pos h, if_neg hc]
theorem pwE_ok {a b c : Int} (h : pcE a b = 0) (hc : 0 ≤ c ∧ c ≤ pcN a b - 1) : pwE a b c = 0 := by unfold pwE; rw [if_pos h, if_pos hc]
def pwL (a b c : Int) : List Int := if pwE a b c = 0 then pdig c.toNat (inn a b) else []
def pwZ (a b c x : Int) : Int := if pwE a b c = 0 then x else 0
/-- What a call gives that returns a panel of its own and an error. -/
def retP (a b : Int) (l : List Int) (e : Int) : Value → List Ent → Prop := fun u L => ∃ x, x.oneCell' = true ∧ u = .tuple #[.agg #[.int .i64 a, .int .i64 b, x], .int .i64 e] ∧ L = [.row 2 1 x l.length (ints l)]
theorem retP_bad {a b c e : Int} (h : pwE a b c = e) (he : ¬ e = 0) : retP (pwZ a b c a) (pwZ a b c b) (pwL a b c) (pwE a b c) (.tuple #[.agg #[.int .i64 0, .int .i64 0, .slice none 0 0], .int .i64 e]) [.row 2 1 (.slice none 0 0) 0 []] := by
  have h0 : ¬ pwE a b c = 0 := by rw [h]; exact he
  unfold pwZ pwL
  rw [if_neg h0, if_neg h0, if_neg h0, h]
  exact ⟨_, rfl, rfl, rfl⟩
theorem retP_ok {a b : Int} {m : Nat} {x : Value} (h : pwE a b m = 0) (hx : x.oneCell' = true) : retP (pwZ a b m a) (pwZ a b m b) (pwL a b m) (pwE a b m) (.tuple #[.agg #[.int .i64 a, .int .i64 b, x], .int .i64 0]) [.row 2 1 x (inn a b) (ints (pdig m (inn a b)))] := by
  unfold pwZ pwL
  rw [if_pos h, if_pos h, if_pos h, h]
  exact ⟨_, hx, rfl, by rw [Int.toNat_natCast, length_pdig]⟩

set_option maxRecDepth 4000 in
/-- impl.PanelWith -/
theorem f_i_PanelWith (w : World) (a : Int) (b : Int) (c : Int) (a0 : -9223372036854775808 ≤ a) (a1 : a ≤ 9223372036854775807) (b0 : -9223372036854775808 ≤ b) (b1 : b ≤ 9223372036854775807) (c0 : -9223372036854775808 ≤ c) (c1 : c ≤ 9223372036854775807) : Ret Try.prog 33 [.int .i64 a, .int .i64 b, .int .i64 c] w (retP (pwZ a b c a) (pwZ a b c b) (pwL a b c) (pwE a b c)) := by
  refine Ret.enter Try.func33 rfl Try.ntmps33 rfl ?_
  refine Run.seq ?_
  refine Run.region ?_
  refine Ops.go rfl (Loud.alloc zero35 rfl) ?_
  rintro _ _ ⟨b6, rfl, rfl⟩
  refine Ops.pure rfl (Pure.assign rfl) ?_
  refine Ops.nil ?_
  refine Run.seq ?_
  refine Run.region ?_
  refine Ops.pure rfl (Pure.move rfl) ?_
  refine Ops.pure rfl (Pure.move rfl) ?_
  refine Ops.q rfl (QOp.call fn111 rfl (fun w hw => f_i_panelCount w _ _ (by assumption) (by assumption) (by assumption) (by assumption))) ?_
  refine Ops.pure rfl (Pure.move rfl) ?_
  refine Ops.pure rfl (Pure.extract rfl rfl) ?_
  refine Ops.pure rfl (Pure.extract rfl rfl) ?_
  refine Ops.pure rfl (Pure.assign rfl) ?_
  refine Ops.pure rfl (Pure.assign rfl) ?_
  refine Ops.nil ?_
  refine Run.seq ?_
  refine Run.seq ?_
  refine Run.region ?_
  refine Ops.pure rfl (Pure.move rfl) ?_
  refine Ops.pure rfl (Pure.neq rfl rfl) ?_
  refine Ops.nil ?_
  refine Run.cond rfl (fun c17 => ?_) (fun c17 => ?_)
  · skip
    replace c17 := nT c17
    refine Run.seq ?_
    refine Run.region ?_
    refine Ops.pure rfl (Pure.build rfl bld35) ?_
    refine Ops.pure rfl (Pure.move rfl) ?_
    refine Ops.store (Stores.box 0 rfl rfl rfl size35 (allOne rfl) rfl rfl) ?_
    refine Ops.pure rfl (Pure.assign rfl) ?_
    refine Ops.nil ?_
    refine Run.addNil 2 1 ?_
    refine Run.retC1x 1 rfl rfl rfl rfl cell35 rfl (Ext.take 0 rfl (Ext.nil _)) ?_
    exact retP_bad (pwE_many c17) c17
  · skip
    replace c17 := nF c17
    obtain ⟨hs, hmm, hpn⟩ := pc_zero c17
    refine Run.skip ?_
    refine Run.seq ?_
    refine Run.seq ?_
    refine Run.region ?_
    refine Ops.pure rfl (Pure.move rfl) ?_
    refine Ops.pure rfl (Pure.move rfl) ?_
    refine Ops.pure rfl (Pure.sub rfl rfl (by omega) (by omega)) ?_
    refine Ops.q rfl (QOp.call fn93 rfl (fun w hw => f_i_inRange w _ _ _)) ?_
    refine Ops.pure rfl (Pure.not rfl) ?_
    refine Ops.nil ?_
    refine Run.cond rfl (fun c24 => ?_) (fun c24 => ?_)
    · skip
      replace c24 := nT c24
      refine Run.seq ?_
      refine Run.region ?_
      refine Ops.pure rfl (Pure.build rfl bld35) ?_
      refine Ops.store (Stores.box 0 rfl rfl rfl size35 (allOne rfl) rfl rfl) ?_
      refine Ops.pure rfl (Pure.assign rfl) ?_
      refine Ops.nil ?_
      refine Run.addNil 2 1 ?_
      refine Run.retC1x 1 rfl rfl rfl rfl cell35 rfl (Ext.take 0 rfl (Ext.nil _)) ?_
      exact retP_bad (pwE_out c17 c24) (by decide)
    · skip
      replace c24 := nF c24
      obtain ⟨m, rfl⟩ := Int.eq_ofNat_of_zero_le c24.1
      refine Run.skip ?_
      refine Run.seq ?_
      refine Run.region ?_
      refine Ops.pure rfl (Pure.move rfl) ?_
      refine Ops.pure rfl (Pure.move rfl) ?_
      refine Ops.pure rfl (Pure.move rfl) ?_
      refine Ops.go rfl (Loud.callR fn114 rfl (fun w hw => f_i_panelWith w _ _ _ (by assumption) (by omega))) ?_
      rintro v29 _ ⟨L29, hQ29, rfl⟩
      obtain ⟨x29, h29, rfl, rfl⟩ := hQ29
      refine Ops.store (Stores.box 1 rfl rfl rfl size35 (one3 h29) rfl rfl) ?_
      refine Ops.pure rfl (Pure.assign rfl) ?_
      refine Ops.nil ?_
      refine Run.retC1x 1 rfl rfl rfl rfl cell35 rfl (Ext.take 0 rfl (Ext.nil _)) ?_
      exact retP_ok (pwE_ok c17 c24) h29

set_option maxRecDepth 4000 in
/-- spec.PanelWith -/
theorem f_s_PanelWith (w : World) (a : Int) (b : Int) (c : Int) (a0 : -9223372036854775808 ≤ a) (a1 : a ≤ 9223372036854775807) (b0 : -9223372036854775808 ≤ b) (b1 : b ≤ 9223372036854775807) (c0 : -9223372036854775808 ≤ c) (c1 : c ≤ 9223372036854775807) : Ret Try.prog 34 [.int .i64 a, .int .i64 b, .int .i64 c] w (retP (pwZ a b c a) (pwZ a b c b) (pwL a b c) (pwE a b c)) := by
  refine Ret.enter Try.func34 rfl Try.ntmps34 rfl ?_
  refine Run.seq ?_
  refine Run.region ?_
  refine Ops.go rfl (Loud.alloc zero35 rfl) ?_
  rintro _ _ ⟨b6, rfl, rfl⟩
  refine Ops.pure rfl (Pure.assign rfl) ?_
  refine Ops.nil ?_
  refine Run.seq ?_
  refine Run.region ?_
  refine Ops.pure rfl (Pure.move rfl) ?_
  refine Ops.pure rfl (Pure.move rfl) ?_
  refine Ops.q rfl (QOp.call fn107 rfl (fun w hw => f_s_l12Code w _ _ (by assumption) (by assumption) (by assumption) (by assumption))) ?_
  refine Ops.pure rfl (Pure.assign rfl) ?_
  refine Ops.nil ?_
  refine Run.seq ?_
  refine Run.seq ?_
  refine Run.region ?_
  refine Ops.pure rfl (Pure.move rfl) ?_
  refine Ops.pure rfl (Pure.neq rfl rfl) ?_
  refine Ops.nil ?_
  refine Run.cond rfl (fun c13 => ?_) (fun c13 => ?_)
  · skip
    replace c13 := nT c13
    refine Run.seq ?_
    refine Run.region ?_
    refine Ops.pure rfl (Pure.build rfl bld35) ?_
    refine Ops.pure rfl (Pure.move rfl) ?_
    refine Ops.store (Stores.box 0 rfl rfl rfl size35 (allOne rfl) rfl rfl) ?_
    refine Ops.pure rfl (Pure.assign rfl) ?_
    refine Ops.nil ?_
    refine Run.addNil 2 1 ?_
    refine Run.retC1x 1 rfl rfl rfl rfl cell35 rfl (Ext.take 0 rfl (Ext.nil _)) ?_
    exact retP_bad (pwE_many c13) c13
  · skip
    replace c13 := nF c13
    obtain ⟨hs, hmm, hpn⟩ := pc_zero c13
    refine Run.skip ?_
    refine Run.seq ?_
    refine Run.seq ?_
    refine Run.region ?_
    refine Ops.pure rfl (Pure.move rfl) ?_
    refine Ops.pure rfl (Pure.move rfl) ?_
    refine Ops.pure rfl (Pure.move rfl) ?_
    refine Ops.q rfl (QOp.call fn108 rfl (fun w hw => f_s_l12Many w _ _ (by assumption))) ?_
    refine Ops.pure rfl (Pure.sub rfl rfl (by omega) (by omega)) ?_
    refine Ops.q rfl (QOp.call fn119 rfl (fun w hw => f_s_l00In w _ _ _)) ?_
    refine Ops.pure rfl (Pure.not rfl) ?_
    refine Ops.nil ?_
    refine Run.cond rfl (fun c22 => ?_) (fun c22 => ?_)
    · skip
      replace c22 := nT c22
      rw [← hpn] at c22
      refine Run.seq ?_
      refine Run.region ?_
      refine Ops.pure rfl (Pure.build rfl bld35) ?_
      refine Ops.store (Stores.box 0 rfl rfl rfl size35 (allOne rfl) rfl rfl) ?_
      refine Ops.pure rfl (Pure.assign rfl) ?_
      refine Ops.nil ?_
      refine Run.addNil 2 1 ?_
      refine Run.retC1x 1 rfl rfl rfl rfl cell35 rfl (Ext.take 0 rfl (Ext.nil _)) ?_
      exact retP_bad (pwE_out c13 c22) (by decide)
    · skip
      replace c22 := nF c22
      have hcc := c22
      rw [← hpn] at c22
      obtain ⟨m, rfl⟩ := Int.eq_ofNat_of_zero_le hcc.1
      refine Run.skip ?_
      refine Run.seq ?_
      refine Run.region ?_
      refine Ops.pure rfl (Pure.move rfl) ?_
      refine Ops.pure rfl (Pure.move rfl) ?_
      refine Ops.pure rfl (Pure.move rfl) ?_
      refine Ops.go rfl (Loud.callR fn109 rfl (fun w hw => f_s_l12At w _ _ _ (by assumption) (by omega))) ?_
      rintro v27 _ ⟨L27, hQ27, rfl⟩
      obtain ⟨x27, h27, rfl, rfl⟩ := hQ27
      refine Ops.store (Stores.box 1 rfl rfl rfl size35 (one3 h27) rfl rfl) ?_
      refine Ops.pure rfl (Pure.assign rfl) ?_
      refine Ops.nil ?_
      refine Run.retC1x 1 rfl rfl rfl rfl cell35 rfl (Ext.take 0 rfl (Ext.nil _)) ?_
      exact retP_ok (pwE_ok c13 c22) h27

end Go.Proofs.Ytmfinopdokkjcaa
