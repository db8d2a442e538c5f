/- Contracts of functions, printed by program from annotations. -/
import Derived.Test.YtkplanpcmkbfiaaChgM
import Derived.Test.YtkplanpcmkbfiaaEds
import Derived.Test.YtkplanpcmkbfiaaTrc3
namespace Go.Proofs.Ytkplanpcmkbfiaa
open Go Go.AW Go.RowKit
set_option linter.unusedVariables false
set_option linter.unusedSimpArgs false

set_option maxRecDepth 4000 in
/-- (impl.Panel).changed -/
theorem f_i_Panel_changed (w : World) (a : Int) (b : Int) (v : Value) (l : List Int) (k : Nat) (y : Int) (hv : Rd w v 1 l.length (ints l)) (hl : l.length ≤ 1073741824) (hk : k < l.length) : Ret Try.prog 110 [.agg #[.int .i64 a, .int .i64 b, v], .int .i64 k, .int .i64 y] w (fun u L => ∃ x, x.oneCell' = true ∧ u = .agg #[.int .i64 a, .int .i64 b, x] ∧ L = [.row 2 1 x l.length (ints (l.set k y))]) := by
  refine Ret.enter Try.func110 rfl Try.ntmps110 rfl ?_
  refine Run.seq ?_
  refine Run.region ?_
  refine Ops.go rfl (Loud.box rfl rfl) ?_
  rintro _ _ ⟨b3, rfl, rfl⟩
  refine Ops.go rfl (Loud.alloc zero28 rfl) ?_
  rintro _ _ ⟨b6, rfl, rfl⟩
  refine Ops.nil ?_
  refine Run.seq ?_
  refine Run.region ?_
  refine Ops.pure rfl (Pure.ldBA 1 rfl cell28 rfl rfl rfl) ?_
  refine Ops.go rfl (Loud.callR fn108 rfl (fun w hw => f_i_clonePanel w _ _ _ _ (by exact RdL.old (by assumption) w hw) (by assumption))) ?_
  rintro v9 _ ⟨L9, hQ9, rfl⟩
  obtain ⟨x9, h9, rfl, rfl⟩ := hQ9
  refine Ops.go rfl (Loud.alloc zero28 rfl) ?_
  rintro _ _ ⟨b7, rfl, rfl⟩
  refine Ops.store (Stores.box 0 rfl rfl rfl size28 (one3 h9) rfl rfl) ?_
  refine Ops.nil ?_
  refine Run.seq ?_
  have hli : (ints l).length = l.length := by rw [ints, List.length_map]
  refine Run.region ?_
  refine Ops.pure rfl (Pure.fieldAddrB fld28_2 rfl) ?_
  refine Ops.pure rfl (Pure.ldB 0 rfl cell22 rfl rfl) ?_
  refine Ops.pure rfl (Pure.move rfl) ?_
  refine Ops.pure rfl (Pure.move rfl) ?_
  refine Ops.pure rfl (Pure.idx1N sl22 (RdL.own 1 rfl) rfl rfl (by first | assumption | omega | (simp; omega))) ?_
  refine Ops.store (Stores.row1 1 rfl size2 rfl rfl rfl (by first | assumption | omega | (simp; omega))) ?_
  refine Ops.nil ?_
  refine Run.seq ?_
  refine Run.region ?_
  refine Ops.pure rfl (Pure.ldBA 0 rfl cell28 rfl rfl rfl) ?_
  refine Ops.store (Stores.box 2 rfl rfl rfl size28 (one3 h9) rfl rfl) ?_
  refine Ops.nil ?_
  refine Run.retCx 2 rfl rfl rfl cell28 rfl (Ext.take 1 rfl (Ext.nil _)) ?_
  exact ⟨_, h9, rfl, by rw [ints, ints, List.map_set]⟩

set_option maxRecDepth 4000 in
/-- spec.l10With -/
theorem f_s_l10With (w : World) (p : Nat) (a : Int) (b : Int) (v : Value) (l : List Int) (k : Nat) (y : Int) (hp : Rd w (boxS p) 3 1 [.int .i64 a, .int .i64 b, v]) (hv : Rd w v 1 l.length (ints l)) (hl : l.length ≤ 1073741824) (hk : okP a b l = true) (hkl : k < l.length) (hy0 : 0 ≤ y) (hy1 : y ≤ 2) : RetV Try.prog 157 [.pointer (some ⟨p, 0, none⟩), .int .i64 k, .int .i64 y] w (.int .i64 (cnt a b (l.set k y) : Int)) := by
  refine Ret.enter Try.func157 rfl Try.ntmps157 rfl ?_
  refine Run.seq ?_
  refine Run.region ?_
  refine Ops.pure rfl (Pure.assign rfl) ?_
  refine Ops.nil ?_
  refine Run.seq ?_
  refine Run.region ?_
  refine Ops.pure rfl (Pure.move rfl) ?_
  refine Ops.go rfl (Loud.callR fn112 rfl (fun w hw => f_s_l02Own w p a b v l (RdL.old hp w hw) (RdL.old hv w hw) hl)) ?_
  rintro v9 _ ⟨L9, hQ9, rfl⟩
  obtain ⟨x9, h9, rfl, rfl⟩ := hQ9
  refine Ops.go rfl (Loud.alloc zero28 rfl) ?_
  rintro _ _ ⟨b7, rfl, rfl⟩
  refine Ops.store (Stores.box 0 rfl rfl rfl size28 (one3 h9) rfl rfl) ?_
  refine Ops.nil ?_
  refine Run.seq ?_
  have hli : (ints l).length = l.length := by rw [ints, List.length_map]
  refine Run.region ?_
  refine Ops.pure rfl (Pure.fieldAddrB fld28_2 rfl) ?_
  refine Ops.pure rfl (Pure.ldB 0 rfl cell22 rfl rfl) ?_
  refine Ops.pure rfl (Pure.move rfl) ?_
  refine Ops.pure rfl (Pure.move rfl) ?_
  refine Ops.pure rfl (Pure.idx1N sl22 (RdL.own 1 rfl) rfl rfl (by first | assumption | omega | (simp; omega))) ?_
  refine Ops.store (Stores.row1 1 rfl size2 rfl rfl rfl (by first | assumption | omega | (simp; omega))) ?_
  refine Ops.nil ?_
  refine Run.seq ?_
  refine Run.region ?_
  refine Ops.q rfl (QOp.call fn85 rfl (fun w hw => f_s_l04Count w _ a b x9 (l.set k y) (RdL.boxM 0 rfl rfl w hw) (by rw [List.length_set, ints, List.map_set]; exact RdL.own 1 rfl w hw) (okP_set hk k hy0 hy1))) ?_
  refine Ops.pure rfl (Pure.assign rfl) ?_
  refine Ops.nil ?_
  refine Run.ret1 rfl rfl ?_
  rfl

def effTo (a b : Int) (l : List Int) (k : Nat) (n : Nat) : List Int := (List.range n).map fun j => cw a b l k j
theorem effTo_succ (a b : Int) (l : List Int) (k n : Nat) : effTo a b l k (n + 1) = effTo a b l k n ++ [cw a b l k n] := by unfold effTo; rw [List.range_succ, List.map_append]; rfl
theorem length_effTo (a b : Int) (l : List Int) (k n : Nat) : (effTo a b l k n).length = n := by unfold effTo; rw [List.length_map, List.length_range]
theorem effTo_get {a b : Int} {l : List Int} {k n j : Nat} (h : j < n) : (effTo a b l k n).getD j 0 = cw a b l k j := by simp [effTo, List.getD, h]
theorem cw_le {a b : Int} {l : List Int} (hs : SizeOk a b) (k j : Nat) : 1 ≤ cw a b l k j ∧ cw a b l k j ≤ 256 := by
  have := cnt_le (l := l.set k (j : Int)) hs
  unfold cw; omega

set_option maxRecDepth 4000 in
/-- (impl.Panel).effectsAt -/
theorem f_i_Panel_effectsAt (w : World) (a : Int) (b : Int) (v : Value) (l : List Int) (k : Nat) (hv : Rd w v 1 l.length (ints l)) (hl : l.length ≤ 1073741824) (hk : okP a b l = true) (hkl : k < l.length) : Ret Try.prog 154 [.agg #[.int .i64 a, .int .i64 b, v], .int .i64 k] w (fun u L => L = [.row 2 1 u 3 (ints (effTo a b l k 3))]) := by
  refine Ret.enter Try.func154 rfl Try.ntmps154 rfl ?_
  refine Run.seq ?_
  refine Run.region ?_
  refine Ops.go rfl (Loud.box rfl rfl) ?_
  rintro _ _ ⟨b2, rfl, rfl⟩
  refine Ops.pure rfl (Pure.assign rfl) ?_
  refine Ops.nil ?_
  refine Run.seq ?_
  refine Run.region ?_
  refine Ops.go rfl (Loud.lit sl22 rfl rfl rfl (by simp [Value.oneCell'])) ?_
  rintro v7 _ rfl
  refine Ops.pure rfl (Pure.assign rfl) ?_
  refine Ops.nil ?_
  refine Run.seq ?_
  refine Run.seq ?_
  refine Run.region ?_
  refine Ops.pure rfl (Pure.move rfl) ?_
  refine Ops.nil ?_
  refine Run.block ?_
  refine Run.loop2 (X := Nat) (Y := Value) (fun j vo => [(1, .int .i64 k), (2, .pointer (some ⟨b2, 0, none⟩)), (5, vo), (8, .int .i64 j)]) (fun j vo => [.row 2 1 vo j (ints (effTo a b l k j)), .box b2 28 [.int .i64 a, .int .i64 b, v]]) (fun j vo => j ≤ 3) (fun j vo => 3 - j) 0 v7 ?_ ?_ ?_ ?_
  · exact by omega
  · exact ⟨rfl, rfl, rfl, rfl, trivial⟩
  · exact Ext.take 0 rfl (Ext.take 0 rfl (Ext.nil _))
  · intro j vo hinv0
    refine Run.seq ?_
    refine Run.region ?_
    refine Ops.pure rfl (Pure.lss rfl rfl) ?_
    refine Ops.nil ?_
    refine Run.seq ?_
    refine Run.cond rfl (fun c9 => ?_) (fun c9 => ?_)
    · skip
      replace c9 := dT c9
      refine Run.skip ?_
      refine Run.seq ?_
      refine Run.block ?_
      refine Run.seq ?_
      refine Run.region ?_
      refine Ops.pure rfl (Pure.move rfl) ?_
      refine Ops.pure rfl (Pure.assign rfl) ?_
      refine Ops.nil ?_
      refine Run.region ?_
      refine Ops.pure rfl (Pure.move rfl) ?_
      refine Ops.pure rfl (Pure.ldBA 1 rfl cell28 rfl rfl rfl) ?_
      refine Ops.pure rfl (Pure.move rfl) ?_
      refine Ops.pure rfl (Pure.move rfl) ?_
      refine Ops.go rfl (Loud.callR fn110 rfl (fun w hw => f_i_Panel_changed w a b v l k (j : Int) (RdL.old hv w hw) hl hkl)) ?_
      rintro v15 _ ⟨L15, hQ15, rfl⟩
      obtain ⟨x15, h15, rfl, rfl⟩ := hQ15
      refine Ops.q rfl (QOp.call fn75 rfl (fun w hw => (f_i_countCurves w a b x15 (l.set k (j : Int)) (by rw [List.length_set]; exact RdL.own 0 rfl w hw) (okP_set hk k (by omega) (by omega))).cong (show _ = Value.int .i64 (cw a b l k j) from rfl))) ?_
      refine Ops.go rfl (Loud.lit sl22 rfl rfl rfl (by simp [Value.oneCell'])) ?_
      rintro v17 _ rfl
      refine Ops.go rfl (Loud.append 2 rfl sl22 rfl rfl (RdL.own 0 rfl) (by simp [Value.oneCell']) (by omega) (by omega)) ?_
      rintro v18 _ rfl
      refine Ops.pure rfl (Pure.assign rfl) ?_
      refine Ops.nil ?_
      refine Run.blk ?_
      refine Run.region ?_
      refine Ops.pure rfl (Pure.add rfl rfl (by omega) (by omega)) ?_
      refine Ops.pure rfl (Pure.move rfl) ?_
      refine Ops.nil ?_
      refine Run.asrt ?_
      refine ⟨j + 1, v18, ⟨by omega, by omega⟩, ⟨rfl, rfl, rfl, rfl, trivial⟩, Ext.trans (Ext.eq ?_) (Ext.take 2 rfl (Ext.take 2 rfl (Ext.nil _)))⟩
      rw [effTo_succ, ints, List.map_append]
      rfl
    · skip
      replace c9 := dF c9
      refine Run.exit rfl ?_
      refine Run.seq ?_
      refine Run.region ?_
      refine Ops.pure rfl (Pure.move rfl) ?_
      refine Ops.pure rfl (Pure.assign rfl) ?_
      refine Ops.nil ?_
      have e : j = 3 := by omega
      subst e
      refine Run.ext_ (Ext.take 0 rfl (Ext.nil _)) ?_
      refine Run.ret1 rfl rfl ?_
      rfl

set_option maxRecDepth 4000 in
/-- impl.distance -/
theorem f_i_distance (w : World) (a : Int) (b : Int) (ha : 0 ≤ a ∧ a ≤ 256) (hb : 1 ≤ b ∧ b ≤ 128) : RetV Try.prog 153 [.int .i64 a, .int .i64 b] w (.int .i64 (dst a b)) := by
  refine Ret.enter Try.func153 rfl Try.ntmps153 rfl ?_
  refine Run.seq ?_
  refine Run.region ?_
  refine Ops.pure rfl (Pure.assign rfl) ?_
  refine Ops.nil ?_
  refine Run.seq ?_
  refine Run.region ?_
  refine Ops.pure rfl (Pure.move rfl) ?_
  refine Ops.pure rfl (Pure.move rfl) ?_
  refine Ops.pure rfl (Pure.sub rfl rfl (by omega) (by omega)) ?_
  refine Ops.pure rfl (Pure.move rfl) ?_
  refine Ops.pure rfl (Pure.move rfl) ?_
  refine Ops.pure rfl (Pure.sub rfl rfl (by omega) (by omega)) ?_
  refine Ops.pure rfl (Pure.maxI rfl rfl) ?_
  refine Ops.pure rfl (Pure.assign rfl) ?_
  refine Ops.nil ?_
  refine Run.ret1 rfl rfl ?_
  rfl

set_option maxRecDepth 4000 in
/-- spec.l00Max -/
theorem f_s_l00Max (w : World) (a : Int) (b : Int) : RetV Try.prog 165 [.int .i64 a, .int .i64 b] w (.int .i64 (max a b)) := by
  refine Ret.enter Try.func165 rfl Try.ntmps165 rfl ?_
  refine Run.seq ?_
  refine Run.region ?_
  refine Ops.pure rfl (Pure.assign rfl) ?_
  refine Ops.nil ?_
  refine Run.seq ?_
  refine Run.seq ?_
  refine Run.region ?_
  refine Ops.pure rfl (Pure.move rfl) ?_
  refine Ops.pure rfl (Pure.move rfl) ?_
  refine Ops.pure rfl (Pure.gtr rfl rfl) ?_
  refine Ops.nil ?_
  refine Run.cond rfl (fun c7 => ?_) (fun c7 => ?_)
  · skip
    replace c7 := dT c7
    refine Run.seq ?_
    refine Run.region ?_
    refine Ops.pure rfl (Pure.move rfl) ?_
    refine Ops.pure rfl (Pure.assign rfl) ?_
    refine Ops.nil ?_
    refine Run.ret1 rfl rfl ?_
    first
      | (congr 1; omega)
      | (simp only [Value.int.injEq, true_and]; omega)
  · skip
    replace c7 := dF c7
    refine Run.skip ?_
    refine Run.seq ?_
    refine Run.region ?_
    refine Ops.pure rfl (Pure.move rfl) ?_
    refine Ops.pure rfl (Pure.assign rfl) ?_
    refine Ops.nil ?_
    refine Run.ret1 rfl rfl ?_
    first
      | (congr 1; omega)
      | (simp only [Value.int.injEq, true_and]; omega)

set_option maxRecDepth 4000 in
/-- spec.l10Away -/
theorem f_s_l10Away (w : World) (a : Int) (b : Int) (ha : 0 ≤ a ∧ a ≤ 256) (hb : 1 ≤ b ∧ b ≤ 128) : RetV Try.prog 156 [.int .i64 a, .int .i64 b] w (.int .i64 (dst a b)) := by
  refine Ret.enter Try.func156 rfl Try.ntmps156 rfl ?_
  refine Run.seq ?_
  refine Run.region ?_
  refine Ops.pure rfl (Pure.assign rfl) ?_
  refine Ops.nil ?_
  refine Run.seq ?_
  refine Run.region ?_
  refine Ops.pure rfl (Pure.move rfl) ?_
  refine Ops.pure rfl (Pure.move rfl) ?_
  refine Ops.pure rfl (Pure.sub rfl rfl (by omega) (by omega)) ?_
  refine Ops.pure rfl (Pure.move rfl) ?_
  refine Ops.pure rfl (Pure.move rfl) ?_
  refine Ops.pure rfl (Pure.sub rfl rfl (by omega) (by omega)) ?_
  refine Ops.q rfl (QOp.call fn165 rfl (fun w hw => f_s_l00Max w _ _)) ?_
  refine Ops.pure rfl (Pure.assign rfl) ?_
  refine Ops.nil ?_
  refine Run.ret1 rfl rfl ?_
  rfl

set_option maxRecDepth 4000 in
/-- impl.changeCode -/
theorem f_i_changeCode (w : World) (a : Int) (b : Int) (v : Value) (l : List Int) (c : Int) (hv : Rd w v 1 l.length (ints l)) (hl : l.length ≤ 1073741824) (a0 : -9223372036854775808 ≤ a) (a1 : a ≤ 9223372036854775807) (b0 : -9223372036854775808 ≤ b) (b1 : b ≤ 9223372036854775807) : RetV Try.prog 107 [.agg #[.int .i64 a, .int .i64 b, v], .int .i64 c] w (.int .i64 (gcE a b l c)) := by
  refine Ret.enter Try.func107 rfl Try.ntmps107 rfl ?_
  refine Run.seq ?_
  refine Run.region ?_
  refine Ops.go rfl (Loud.box rfl rfl) ?_
  rintro _ _ ⟨b2, rfl, rfl⟩
  refine Ops.pure rfl (Pure.assign rfl) ?_
  refine Ops.nil ?_
  refine Run.seq ?_
  refine Run.seq ?_
  refine Run.region ?_
  refine Ops.pure rfl (Pure.ldBA 0 rfl cell28 rfl rfl rfl) ?_
  refine Ops.q rfl (QOp.call fn100 rfl (fun w hw => f_i_ValidPanel w _ _ _ _ (by exact RdL.old (by assumption) w hw) (by assumption) (by assumption) (by assumption) (by assumption) (by assumption))) ?_
  refine Ops.pure rfl (Pure.not rfl) ?_
  refine Ops.nil ?_
  refine Run.cond rfl (fun c7 => ?_) (fun c7 => ?_)
  · skip
    replace c7 := bT c7
    refine Run.seq ?_
    refine Run.region ?_
    refine Ops.pure rfl (Pure.assign rfl) ?_
    refine Ops.nil ?_
    refine Run.ret1 rfl rfl ?_
    rw [gc_bad c7]
  · skip
    replace c7 := bF c7
    refine Run.skip ?_
    refine Run.seq ?_
    refine Run.seq ?_
    refine Run.region ?_
    refine Ops.pure rfl (Pure.move rfl) ?_
    refine Ops.q rfl (QOp.call fn128 rfl (fun w hw => f_i_inRange w _ _ _)) ?_
    refine Ops.pure rfl (Pure.not rfl) ?_
    refine Ops.nil ?_
    refine Run.cond rfl (fun c10 => ?_) (fun c10 => ?_)
    · skip
      replace c10 := nT c10
      refine Run.seq ?_
      refine Run.region ?_
      refine Ops.pure rfl (Pure.assign rfl) ?_
      refine Ops.nil ?_
      refine Run.ret1 rfl rfl ?_
      rw [gc_out c7 c10]
    · skip
      replace c10 := nF c10
      refine Run.skip ?_
      refine Run.seq ?_
      refine Run.region ?_
      refine Ops.pure rfl (Pure.assign rfl) ?_
      refine Ops.nil ?_
      refine Run.ret1 rfl rfl ?_
      rw [gc_ok c7 c10]

set_option maxRecDepth 4000 in
/-- spec.l10Goal -/
theorem f_s_l10Goal (w : World) (p : Nat) (a : Int) (b : Int) (v : Value) (l : List Int) (c : Int) (hp : Rd w (boxS p) 3 1 [.int .i64 a, .int .i64 b, v]) (hv : Rd w v 1 l.length (ints l)) (hl : l.length ≤ 1073741824) (a0 : -9223372036854775808 ≤ a) (a1 : a ≤ 9223372036854775807) (b0 : -9223372036854775808 ≤ b) (b1 : b ≤ 9223372036854775807) : RetV Try.prog 111 [.pointer (some ⟨p, 0, none⟩), .int .i64 c] w (.int .i64 (gcE a b l c)) := by
  refine Ret.enter Try.func111 rfl Try.ntmps111 rfl ?_
  refine Run.seq ?_
  refine Run.region ?_
  refine Ops.pure rfl (Pure.assign rfl) ?_
  refine Ops.nil ?_
  refine Run.seq ?_
  refine Run.seq ?_
  refine Run.region ?_
  refine Ops.pure rfl (Pure.move rfl) ?_
  refine Ops.q rfl (QOp.call fn84 rfl (fun w hw => f_s_l02Ok w _ _ _ _ _ (by exact RdL.old (by assumption) w hw) (by exact RdL.old (by assumption) w hw) (by assumption) (by assumption) (by assumption) (by assumption) (by assumption))) ?_
  refine Ops.pure rfl (Pure.not rfl) ?_
  refine Ops.nil ?_
  refine Run.cond rfl (fun c7 => ?_) (fun c7 => ?_)
  · skip
    replace c7 := bT c7
    refine Run.seq ?_
    refine Run.region ?_
    refine Ops.pure rfl (Pure.assign rfl) ?_
    refine Ops.nil ?_
    refine Run.ret1 rfl rfl ?_
    rw [gc_bad c7]
  · skip
    replace c7 := bF c7
    refine Run.skip ?_
    refine Run.seq ?_
    refine Run.seq ?_
    refine Run.region ?_
    refine Ops.pure rfl (Pure.move rfl) ?_
    refine Ops.q rfl (QOp.call fn121 rfl (fun w hw => f_s_l00In w _ _ _)) ?_
    refine Ops.pure rfl (Pure.not rfl) ?_
    refine Ops.nil ?_
    refine Run.cond rfl (fun c10 => ?_) (fun c10 => ?_)
    · skip
      replace c10 := nT c10
      refine Run.seq ?_
      refine Run.region ?_
      refine Ops.pure rfl (Pure.assign rfl) ?_
      refine Ops.nil ?_
      refine Run.ret1 rfl rfl ?_
      rw [gc_out c7 c10]
    · skip
      replace c10 := nF c10
      refine Run.skip ?_
      refine Run.seq ?_
      refine Run.region ?_
      refine Ops.pure rfl (Pure.assign rfl) ?_
      refine Ops.nil ?_
      refine Run.ret1 rfl rfl ?_
      rw [gc_ok c7 c10]

set_option maxRecDepth 4000 in
set_option maxHeartbeats 800000 in
/-- (impl.Panel).firstChange -/
theorem f_i_Panel_firstChange (w : World) (a : Int) (b : Int) (v : Value) (l : List Int) (c : Int) (hv : Rd w v 1 l.length (ints l)) (hl : l.length ≤ 1073741824) (hk : okP a b l = true) (hc : 1 ≤ c ∧ c ≤ 128) : RetV Try.prog 109 [.agg #[.int .i64 a, .int .i64 b, v], .int .i64 c] w (.tuple #[.int .i64 (if fcA a b l c < 0 then 0 else fcA a b l c), .int .i64 (fcK a b l c), .bool (decide (0 ≤ fcA a b l c))]) := by
  have hs := okP_size hk
  have hcl := cnt_le (l := l) hs
  refine Ret.enter Try.func109 rfl Try.ntmps109 rfl ?_
  refine Run.seq ?_
  refine Run.region ?_
  refine Ops.go rfl (Loud.box rfl rfl) ?_
  rintro _ _ ⟨b2, rfl, rfl⟩
  refine Ops.pure rfl (Pure.assign rfl) ?_
  refine Ops.pure rfl (Pure.assign rfl) ?_
  refine Ops.pure rfl (Pure.assign rfl) ?_
  refine Ops.nil ?_
  refine Run.seq ?_
  refine Run.region ?_
  refine Ops.pure rfl (Pure.assign rfl) ?_
  refine Ops.pure rfl (Pure.assign rfl) ?_
  refine Ops.pure rfl (Pure.assign rfl) ?_
  refine Ops.nil ?_
  refine Run.seq ?_
  refine Run.region ?_
  refine Ops.pure rfl (Pure.ldBA 0 rfl cell28 rfl rfl rfl) ?_
  refine Ops.q rfl (QOp.call fn75 rfl (fun w hw => f_i_countCurves w _ _ _ _ (by exact RdL.old (by assumption) w hw) (by assumption))) ?_
  refine Ops.pure rfl (Pure.move rfl) ?_
  refine Ops.q rfl (QOp.call fn153 rfl (fun w hw => f_i_distance w _ _ (by omega) (by assumption))) ?_
  refine Ops.pure rfl (Pure.assign rfl) ?_
  refine Ops.nil ?_
  refine Run.seq ?_
  refine Run.seq ?_
  refine Run.region ?_
  refine Ops.pure rfl (Pure.fieldAddrB fld28_2 rfl) ?_
  refine Ops.pure rfl (Pure.ldB 0 rfl cell22 rfl rfl) ?_
  refine Ops.pure rfl (Pure.len sl22 (RdL.old hv) rfl) ?_
  refine Ops.pure rfl (Pure.move rfl) ?_
  refine Ops.nil ?_
  refine Run.block ?_
  refine Run.loop (X := Nat) (fun k => [(1, .int .i64 c), (2, .pointer (some ⟨b2, 0, none⟩)), (7, .int .i64 (if (fcS a b l c k).1 < 0 then 0 else (fcS a b l c k).1)), (8, .int .i64 (fcS a b l c k).2.1), (9, .bool (decide (0 ≤ (fcS a b l c k).1))), (10, .int .i64 (fcS a b l c k).2.2), (21, .int .i64 l.length), (22, .int .i64 k)]) (fun k => [.box b2 28 [.int .i64 a, .int .i64 b, v]]) (fun k => k ≤ l.length) (fun k => l.length - k) 0 ?_ ?_ ?_ ?_
  · exact Nat.zero_le _
  · exact ⟨rfl, rfl, rfl, rfl, rfl, rfl, rfl, rfl, trivial⟩
  · exact Ext.refl _
  · intro k hinv0
    refine Run.seq ?_
    refine Run.region ?_
    refine Ops.pure rfl (Pure.lss rfl rfl) ?_
    refine Ops.nil ?_
    refine Run.seq ?_
    refine Run.cond rfl (fun c23 => ?_) (fun c23 => ?_)
    · skip
      replace c23 := dT c23
      refine Run.skip ?_
      refine Run.seq ?_
      refine Run.block ?_
      refine Run.seq ?_
      refine Run.region ?_
      refine Ops.pure rfl (Pure.move rfl) ?_
      refine Ops.pure rfl (Pure.assign rfl) ?_
      refine Ops.nil ?_
      refine Run.seq ?_
      refine Run.region ?_
      refine Ops.pure rfl (Pure.ldBA 0 rfl cell28 rfl rfl rfl) ?_
      refine Ops.pure rfl (Pure.move rfl) ?_
      refine Ops.go rfl (Loud.callR fn154 rfl (fun w hw => f_i_Panel_effectsAt w a b v l k (RdL.old hv w hw) hl hk (by omega))) ?_
      rintro v27 _ ⟨L27, hQ27, rfl⟩
      subst hQ27
      refine Ops.pure rfl (Pure.len sl22 (RdL.own 0 rfl) rfl) ?_
      refine Ops.pure rfl (Pure.move rfl) ?_
      refine Ops.nil ?_
      refine Run.block ?_
      refine Run.loop (X := Nat) (fun j => [(1, .int .i64 c), (2, .pointer (some ⟨b2, 0, none⟩)), (7, .int .i64 (if (fcJ a b l c k (fcS a b l c k) j).1 < 0 then 0 else (fcJ a b l c k (fcS a b l c k) j).1)), (8, .int .i64 (fcJ a b l c k (fcS a b l c k) j).2.1), (9, .bool (decide (0 ≤ (fcJ a b l c k (fcS a b l c k) j).1))), (10, .int .i64 (fcJ a b l c k (fcS a b l c k) j).2.2), (11, .int .i64 k), (21, .int .i64 l.length), (22, .int .i64 k), (27, v27), (28, .int .i64 3), (29, .int .i64 j)]) (fun j => [.row 2 1 v27 3 (ints (effTo a b l k 3)), .box b2 28 [.int .i64 a, .int .i64 b, v]]) (fun j => j ≤ 3) (fun j => 3 - j) 0 ?_ ?_ ?_ ?_
      · exact Nat.zero_le _
      · exact ⟨rfl, rfl, rfl, rfl, rfl, rfl, rfl, rfl, rfl, rfl, rfl, rfl, trivial⟩
      · exact Ext.refl _
      · intro j hinv1
        have hfi := (FI.S a b c l k).J j hinv1
        have hfl := hfi.le
        have hf1 : -1 ≤ (fcJ a b l c k (fcS a b l c k) j).1 ∧ (fcJ a b l c k (fcS a b l c k) j).1 ≤ k := by rcases hfi with h | h <;> omega
        have hcw := cw_le (l := l) hs k j
        refine Run.seq ?_
        refine Run.region ?_
        refine Ops.pure rfl (Pure.lss rfl rfl) ?_
        refine Ops.nil ?_
        refine Run.seq ?_
        refine Run.cond rfl (fun c30 => ?_) (fun c30 => ?_)
        · skip
          replace c30 := dT c30
          refine Run.skip ?_
          refine Run.seq ?_
          refine Run.block ?_
          refine Run.seq ?_
          have hef := effTo_get (a := a) (b := b) (l := l) (k := k) (show j < 3 by omega)
          have hel := length_effTo a b l k 3
          refine Run.region ?_
          refine Ops.pure rfl (Pure.move rfl) ?_
          refine Ops.pure rfl (Pure.idx1N sl22 (RdL.own 0 rfl) rfl rfl (by first | assumption | omega | (simp; omega))) ?_
          refine Ops.pure rfl (Pure.ld cell2 rfl (RdL.own 0 rfl) (by first | exact ints_get (by omega) | exact bools_get (by omega) | exact strs_get (by omega) | exact vals_get (by first | omega | (simp; omega)))) ?_
          refine Ops.pure rfl (Pure.assign rfl) ?_
          refine Ops.pure rfl (Pure.assign rfl) ?_
          refine Ops.nil ?_
          refine Run.seq ?_
          rw [hef]
          refine Run.region ?_
          refine Ops.pure rfl (Pure.move rfl) ?_
          refine Ops.pure rfl (Pure.move rfl) ?_
          refine Ops.q rfl (QOp.call fn153 rfl (fun w hw => f_i_distance w _ _ (by omega) (by assumption))) ?_
          refine Ops.pure rfl (Pure.assign rfl) ?_
          refine Ops.nil ?_
          refine Run.seq ?_
          refine Run.region ?_
          refine Ops.pure rfl (Pure.move rfl) ?_
          refine Ops.pure rfl (Pure.move rfl) ?_
          refine Ops.pure rfl (Pure.lss rfl rfl) ?_
          refine Ops.nil ?_
          refine Run.cond rfl (fun c39 => ?_) (fun c39 => ?_)
          · skip
            replace c39 := dT c39
            refine Run.region ?_
            refine Ops.pure rfl (Pure.move rfl) ?_
            refine Ops.pure rfl (Pure.move rfl) ?_
            refine Ops.pure rfl (Pure.move rfl) ?_
            refine Ops.pure rfl (Pure.assign rfl) ?_
            refine Ops.pure rfl (Pure.assign rfl) ?_
            refine Ops.pure rfl (Pure.assign rfl) ?_
            refine Ops.pure rfl (Pure.assign rfl) ?_
            refine Ops.nil ?_
            refine Run.blk ?_
            refine Run.region ?_
            refine Ops.pure rfl (Pure.add rfl rfl (by omega) (by omega)) ?_
            refine Ops.pure rfl (Pure.move rfl) ?_
            refine Ops.nil ?_
            refine Run.asrt ?_
            first
              | (refine ⟨j + 1, ⟨by omega, by omega⟩, ?_, Ext.refl _⟩
                 rw [show fcJ a b l c k (fcS a b l c k) (j + 1) = fcU a b l c k j (fcJ a b l c k (fcS a b l c k) j) from rfl, fcU_yes c39]
                 refine ⟨rfl, rfl, ?_, rfl, ?_, rfl, rfl, rfl, rfl, rfl, rfl, rfl, trivial⟩
                 · rw [if_neg (show ¬ (k : Int) < 0 by omega)]; rfl
                 · rw [decide_eq_true (show (0 : Int) ≤ (k : Int) by omega)]; rfl)
              | (refine ⟨j + 1, ⟨by omega, by omega⟩, ?_, Ext.refl _⟩
                 rw [show fcJ a b l c k (fcS a b l c k) (j + 1) = fcU a b l c k j (fcJ a b l c k (fcS a b l c k) j) from rfl, fcU_no c39]
                 exact ⟨rfl, rfl, rfl, rfl, rfl, rfl, rfl, rfl, rfl, rfl, rfl, rfl, trivial⟩)
          · skip
            replace c39 := dF c39
            refine Run.skip ?_
            refine Run.blk ?_
            refine Run.region ?_
            refine Ops.pure rfl (Pure.add rfl rfl (by omega) (by omega)) ?_
            refine Ops.pure rfl (Pure.move rfl) ?_
            refine Ops.nil ?_
            refine Run.asrt ?_
            first
              | (refine ⟨j + 1, ⟨by omega, by omega⟩, ?_, Ext.refl _⟩
                 rw [show fcJ a b l c k (fcS a b l c k) (j + 1) = fcU a b l c k j (fcJ a b l c k (fcS a b l c k) j) from rfl, fcU_yes c39]
                 refine ⟨rfl, rfl, ?_, rfl, ?_, rfl, rfl, rfl, rfl, rfl, rfl, rfl, trivial⟩
                 · rw [if_neg (show ¬ (k : Int) < 0 by omega)]; rfl
                 · rw [decide_eq_true (show (0 : Int) ≤ (k : Int) by omega)]; rfl)
              | (refine ⟨j + 1, ⟨by omega, by omega⟩, ?_, Ext.refl _⟩
                 rw [show fcJ a b l c k (fcS a b l c k) (j + 1) = fcU a b l c k j (fcJ a b l c k (fcS a b l c k) j) from rfl, fcU_no c39]
                 exact ⟨rfl, rfl, rfl, rfl, rfl, rfl, rfl, rfl, rfl, rfl, rfl, rfl, trivial⟩)
        · skip
          replace c30 := dF c30
          refine Run.exit rfl ?_
          refine Run.blk ?_
          refine Run.region ?_
          refine Ops.pure rfl (Pure.add rfl rfl (by omega) (by omega)) ?_
          refine Ops.pure rfl (Pure.move rfl) ?_
          refine Ops.nil ?_
          refine Run.asrt ?_
          have e : j = 3 := by omega
          subst e
          exact ⟨k + 1, ⟨by omega, by omega⟩, ⟨rfl, rfl, rfl, rfl, rfl, rfl, rfl, rfl, trivial⟩, Ext.take 1 rfl (Ext.nil _)⟩
    · skip
      replace c23 := dF c23
      refine Run.exit rfl ?_
      refine Run.seq ?_
      refine Run.region ?_
      refine Ops.pure rfl (Pure.move rfl) ?_
      refine Ops.pure rfl (Pure.move rfl) ?_
      refine Ops.pure rfl (Pure.move rfl) ?_
      refine Ops.pure rfl (Pure.assign rfl) ?_
      refine Ops.pure rfl (Pure.assign rfl) ?_
      refine Ops.pure rfl (Pure.assign rfl) ?_
      refine Ops.nil ?_
      refine Run.ret3 rfl rfl rfl rfl ?_
      have e : k = l.length := by omega
      subst e
      rfl

set_option maxRecDepth 4000 in
set_option maxHeartbeats 800000 in
/-- spec.l10First -/
theorem f_s_l10First (w : World) (p : Nat) (a : Int) (b : Int) (v : Value) (l : List Int) (c : Int) (hp : Rd w (boxS p) 3 1 [.int .i64 a, .int .i64 b, v]) (hv : Rd w v 1 l.length (ints l)) (hl : l.length ≤ 1073741824) (hk : okP a b l = true) (hc : 1 ≤ c ∧ c ≤ 128) : RetV Try.prog 113 [.pointer (some ⟨p, 0, none⟩), .int .i64 c] w (.tuple #[.int .i64 (fcA a b l c), .int .i64 (fcK a b l c)]) := by
  have hs := okP_size hk
  have hcl := cnt_le (l := l) hs
  refine Ret.enter Try.func113 rfl Try.ntmps113 rfl ?_
  refine Run.seq ?_
  refine Run.region ?_
  refine Ops.pure rfl (Pure.assign rfl) ?_
  refine Ops.pure rfl (Pure.assign rfl) ?_
  refine Ops.nil ?_
  refine Run.seq ?_
  refine Run.region ?_
  refine Ops.pure rfl (Pure.assign rfl) ?_
  refine Ops.nil ?_
  refine Run.seq ?_
  refine Run.region ?_
  refine Ops.pure rfl (Pure.assign rfl) ?_
  refine Ops.nil ?_
  refine Run.seq ?_
  refine Run.region ?_
  refine Ops.pure rfl (Pure.move rfl) ?_
  refine Ops.q rfl (QOp.call fn85 rfl (fun w hw => f_s_l04Count w _ _ _ _ _ (by exact RdL.old (by assumption) w hw) (by exact RdL.old (by assumption) w hw) (by assumption))) ?_
  refine Ops.pure rfl (Pure.move rfl) ?_
  refine Ops.q rfl (QOp.call fn156 rfl (fun w hw => f_s_l10Away w _ _ (by omega) (by assumption))) ?_
  refine Ops.pure rfl (Pure.assign rfl) ?_
  refine Ops.nil ?_
  refine Run.seq ?_
  refine Run.seq ?_
  refine Run.region ?_
  refine Ops.pure rfl (Pure.assign rfl) ?_
  refine Ops.nil ?_
  refine Run.block ?_
  refine Run.loop (X := Nat) (fun k => [(0, .pointer (some ⟨p, 0, none⟩)), (1, .int .i64 c), (6, .int .i64 (fcS a b l c k).1), (7, .int .i64 (fcS a b l c k).2.1), (8, .int .i64 (fcS a b l c k).2.2), (9, .int .i64 k)]) (fun k => []) (fun k => k ≤ l.length) (fun k => l.length - k) 0 ?_ ?_ ?_ ?_
  · exact Nat.zero_le _
  · exact ⟨rfl, rfl, rfl, rfl, rfl, rfl, trivial⟩
  · exact Ext.refl _
  · intro k hinv0
    refine Run.seq ?_
    refine Run.seq ?_
    refine Run.region ?_
    refine Ops.pure rfl (Pure.move rfl) ?_
    refine Ops.pure rfl (Pure.move rfl) ?_
    refine Ops.pure rfl (Pure.nilchk rfl) ?_
    refine Ops.pure rfl (Pure.fieldAddrB fld28_2 rfl) ?_
    refine Ops.pure rfl (Pure.ldP cell22 rfl (RdL.old hp) rfl) ?_
    refine Ops.pure rfl (Pure.len sl22 (RdL.old hv) rfl) ?_
    refine Ops.pure rfl (Pure.lss rfl rfl) ?_
    refine Ops.nil ?_
    refine Run.cond rfl (fun c22 => ?_) (fun c22 => ?_)
    · skip
      replace c22 := dT c22
      refine Run.skip ?_
      refine Run.seq ?_
      refine Run.block ?_
      refine Run.seq ?_
      refine Run.region ?_
      refine Ops.pure rfl (Pure.assign rfl) ?_
      refine Ops.nil ?_
      refine Run.block ?_
      refine Run.loop (X := Nat) (fun j => [(0, .pointer (some ⟨p, 0, none⟩)), (1, .int .i64 c), (6, .int .i64 (fcJ a b l c k (fcS a b l c k) j).1), (7, .int .i64 (fcJ a b l c k (fcS a b l c k) j).2.1), (8, .int .i64 (fcJ a b l c k (fcS a b l c k) j).2.2), (9, .int .i64 k), (10, .int .i64 j)]) (fun j => []) (fun j => j ≤ 3) (fun j => 3 - j) 0 ?_ ?_ ?_ ?_
      · exact Nat.zero_le _
      · exact ⟨rfl, rfl, rfl, rfl, rfl, rfl, rfl, trivial⟩
      · exact Ext.refl _
      · intro j hinv1
        have hfi := (FI.S a b c l k).J j hinv1
        have hfl := hfi.le
        have hf1 : -1 ≤ (fcJ a b l c k (fcS a b l c k) j).1 ∧ (fcJ a b l c k (fcS a b l c k) j).1 ≤ k := by rcases hfi with h | h <;> omega
        have hcw := cw_le (l := l) hs k j
        refine Run.seq ?_
        refine Run.seq ?_
        refine Run.region ?_
        refine Ops.pure rfl (Pure.move rfl) ?_
        refine Ops.pure rfl (Pure.lss rfl rfl) ?_
        refine Ops.nil ?_
        refine Run.cond rfl (fun c26 => ?_) (fun c26 => ?_)
        · skip
          replace c26 := dT c26
          refine Run.skip ?_
          refine Run.seq ?_
          refine Run.block ?_
          refine Run.seq ?_
          refine Run.region ?_
          refine Ops.pure rfl (Pure.move rfl) ?_
          refine Ops.pure rfl (Pure.move rfl) ?_
          refine Ops.pure rfl (Pure.move rfl) ?_
          refine Ops.q rfl (QOp.call fn157 rfl (fun w hw => (f_s_l10With w p a b v l k (j : Int) (RdL.old hp w hw) (RdL.old hv w hw) hl hk (by omega) (by omega) (by omega)).cong (show _ = Value.int .i64 (cw a b l k j) from rfl))) ?_
          refine Ops.pure rfl (Pure.move rfl) ?_
          refine Ops.q rfl (QOp.call fn156 rfl (fun w hw => f_s_l10Away w _ _ (by omega) (by assumption))) ?_
          refine Ops.pure rfl (Pure.assign rfl) ?_
          refine Ops.nil ?_
          refine Run.seq ?_
          refine Run.region ?_
          refine Ops.pure rfl (Pure.move rfl) ?_
          refine Ops.pure rfl (Pure.move rfl) ?_
          refine Ops.pure rfl (Pure.lss rfl rfl) ?_
          refine Ops.nil ?_
          refine Run.cond rfl (fun c37 => ?_) (fun c37 => ?_)
          · skip
            replace c37 := dT c37
            refine Run.seq ?_
            refine Run.region ?_
            refine Ops.pure rfl (Pure.move rfl) ?_
            refine Ops.pure rfl (Pure.assign rfl) ?_
            refine Ops.nil ?_
            refine Run.seq ?_
            refine Run.region ?_
            refine Ops.pure rfl (Pure.move rfl) ?_
            refine Ops.pure rfl (Pure.assign rfl) ?_
            refine Ops.nil ?_
            refine Run.region ?_
            refine Ops.pure rfl (Pure.move rfl) ?_
            refine Ops.pure rfl (Pure.assign rfl) ?_
            refine Ops.nil ?_
            refine Run.blk ?_
            refine Run.region ?_
            refine Ops.pure rfl (Pure.move rfl) ?_
            refine Ops.pure rfl (Pure.add rfl rfl (by omega) (by omega)) ?_
            refine Ops.pure rfl (Pure.assign rfl) ?_
            refine Ops.nil ?_
            refine Run.asrt ?_
            refine ⟨j + 1, ⟨by omega, by omega⟩, ?_, Ext.refl _⟩
            first
              | (rw [show fcJ a b l c k (fcS a b l c k) (j + 1) = fcU a b l c k j (fcJ a b l c k (fcS a b l c k) j) from rfl, fcU_yes c37]
                 exact ⟨rfl, rfl, rfl, rfl, rfl, rfl, rfl, trivial⟩)
              | (rw [show fcJ a b l c k (fcS a b l c k) (j + 1) = fcU a b l c k j (fcJ a b l c k (fcS a b l c k) j) from rfl, fcU_no c37]
                 exact ⟨rfl, rfl, rfl, rfl, rfl, rfl, rfl, trivial⟩)
          · skip
            replace c37 := dF c37
            refine Run.skip ?_
            refine Run.blk ?_
            refine Run.region ?_
            refine Ops.pure rfl (Pure.move rfl) ?_
            refine Ops.pure rfl (Pure.add rfl rfl (by omega) (by omega)) ?_
            refine Ops.pure rfl (Pure.assign rfl) ?_
            refine Ops.nil ?_
            refine Run.asrt ?_
            refine ⟨j + 1, ⟨by omega, by omega⟩, ?_, Ext.refl _⟩
            first
              | (rw [show fcJ a b l c k (fcS a b l c k) (j + 1) = fcU a b l c k j (fcJ a b l c k (fcS a b l c k) j) from rfl, fcU_yes c37]
                 exact ⟨rfl, rfl, rfl, rfl, rfl, rfl, rfl, trivial⟩)
              | (rw [show fcJ a b l c k (fcS a b l c k) (j + 1) = fcU a b l c k j (fcJ a b l c k (fcS a b l c k) j) from rfl, fcU_no c37]
                 exact ⟨rfl, rfl, rfl, rfl, rfl, rfl, rfl, trivial⟩)
        · skip
          replace c26 := dF c26
          refine Run.exit rfl ?_
          refine Run.blk ?_
          refine Run.region ?_
          refine Ops.pure rfl (Pure.move rfl) ?_
          refine Ops.pure rfl (Pure.add rfl rfl (by omega) (by omega)) ?_
          refine Ops.pure rfl (Pure.assign rfl) ?_
          refine Ops.nil ?_
          refine Run.asrt ?_
          have e : j = 3 := by omega
          subst e
          exact ⟨k + 1, ⟨by omega, by omega⟩, ⟨rfl, rfl, rfl, rfl, rfl, rfl, trivial⟩, Ext.refl _⟩
    · skip
      replace c22 := dF c22
      refine Run.exit rfl ?_
      refine Run.seq ?_
      refine Run.region ?_
      refine Ops.pure rfl (Pure.move rfl) ?_
      refine Ops.pure rfl (Pure.move rfl) ?_
      refine Ops.pure rfl (Pure.assign rfl) ?_
      refine Ops.pure rfl (Pure.assign rfl) ?_
      refine Ops.nil ?_
      refine Run.ret2 rfl rfl rfl ?_
      have e : k = l.length := by omega
      subst e
      rfl

end Go.Proofs.Ytkplanpcmkbfiaa
