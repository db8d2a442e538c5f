/- Contracts of functions, printed by program from annotations. -/
import Derived.Test.YtmfinopdokkjcaaChgM
import Derived.Test.YtmfinopdokkjcaaEds
import Derived.Test.YtmfinopdokkjcaaTrc3
namespace Go.Proofs.Ytmfinopdokkjcaa
open Go Go.AW Go.RowKit
set_option linter.unusedVariables false
set_option linter.unusedSimpArgs false

set_option maxRecDepth 4000 in
/-- (impl.Panel).changed -/
theorem f_i_Panel_changed (w : World) (a : Int) (b : Int) (v : Value) (l : List Int) (k : Nat) (y : Int) (hv : Rd w v 1 l.length (ints l)) (hl : l.length ≤ 1073741824) (hk : k < l.length) : Ret Try.prog 140 [.agg #[.int .i64 a, .int .i64 b, v], .int .i64 k, .int .i64 y] w (fun u L => ∃ x, x.oneCell' = true ∧ u = .agg #[.int .i64 a, .int .i64 b, x] ∧ L = [.row 2 1 x l.length (ints (l.set k y))]) := by
  refine Ret.enter Try.func140 rfl Try.ntmps140 rfl ?_
  refine Run.seq ?_
  refine Run.region ?_
  refine Ops.go rfl (Loud.box rfl rfl) ?_
  rintro _ _ ⟨b3, rfl, rfl⟩
  refine Ops.go rfl (Loud.alloc zero35 rfl) ?_
  rintro _ _ ⟨b6, rfl, rfl⟩
  refine Ops.nil ?_
  refine Run.seq ?_
  refine Run.region ?_
  refine Ops.pure rfl (Pure.ldBA 1 rfl cell35 rfl rfl rfl) ?_
  refine Ops.go rfl (Loud.callR fn152 rfl (fun w hw => f_i_clonePanel w _ _ _ _ (by exact RdL.old (by assumption) w hw) (by assumption))) ?_
  rintro v9 _ ⟨L9, hQ9, rfl⟩
  obtain ⟨x9, h9, rfl, rfl⟩ := hQ9
  refine Ops.go rfl (Loud.alloc zero35 rfl) ?_
  rintro _ _ ⟨b7, rfl, rfl⟩
  refine Ops.store (Stores.box 0 rfl rfl rfl size35 (one3 h9) rfl rfl) ?_
  refine Ops.nil ?_
  refine Run.seq ?_
  have hli : (ints l).length = l.length := by rw [ints, List.length_map]
  refine Run.region ?_
  refine Ops.pure rfl (Pure.fieldAddrB fld35_2 rfl) ?_
  refine Ops.pure rfl (Pure.ldB 0 rfl cell32 rfl rfl) ?_
  refine Ops.pure rfl (Pure.move rfl) ?_
  refine Ops.pure rfl (Pure.move rfl) ?_
  refine Ops.pure rfl (Pure.idx1N sl32 (RdL.own 1 rfl) rfl rfl (by first | assumption | omega | (simp; omega))) ?_
  refine Ops.store (Stores.row1 1 rfl size2 rfl rfl rfl (by first | assumption | omega | (simp; omega))) ?_
  refine Ops.nil ?_
  refine Run.seq ?_
  refine Run.region ?_
  refine Ops.pure rfl (Pure.ldBA 0 rfl cell35 rfl rfl rfl) ?_
  refine Ops.store (Stores.box 2 rfl rfl rfl size35 (one3 h9) rfl rfl) ?_
  refine Ops.nil ?_
  refine Run.retCx 2 rfl rfl rfl cell35 rfl (Ext.take 1 rfl (Ext.nil _)) ?_
  exact ⟨_, h9, rfl, by rw [ints, ints, List.map_set]⟩

set_option maxRecDepth 4000 in
/-- spec.l10With -/
theorem f_s_l10With (w : World) (p : Nat) (a : Int) (b : Int) (v : Value) (l : List Int) (k : Nat) (y : Int) (hp : Rd w (boxS p) 3 1 [.int .i64 a, .int .i64 b, v]) (hv : Rd w v 1 l.length (ints l)) (hl : l.length ≤ 1073741824) (hk : okP a b l = true) (hkl : k < l.length) (hy0 : 0 ≤ y) (hy1 : y ≤ 2) : RetV Try.prog 143 [.pointer (some ⟨p, 0, none⟩), .int .i64 k, .int .i64 y] w (.int .i64 (cnt a b (l.set k y) : Int)) := by
  refine Ret.enter Try.func143 rfl Try.ntmps143 rfl ?_
  refine Run.seq ?_
  refine Run.region ?_
  refine Ops.pure rfl (Pure.assign rfl) ?_
  refine Ops.nil ?_
  refine Run.seq ?_
  refine Run.region ?_
  refine Ops.pure rfl (Pure.move rfl) ?_
  refine Ops.go rfl (Loud.callR fn136 rfl (fun w hw => f_s_l02Own w p a b v l (RdL.old hp w hw) (RdL.old hv w hw) hl)) ?_
  rintro v9 _ ⟨L9, hQ9, rfl⟩
  obtain ⟨x9, h9, rfl, rfl⟩ := hQ9
  refine Ops.go rfl (Loud.alloc zero35 rfl) ?_
  rintro _ _ ⟨b7, rfl, rfl⟩
  refine Ops.store (Stores.box 0 rfl rfl rfl size35 (one3 h9) rfl rfl) ?_
  refine Ops.nil ?_
  refine Run.seq ?_
  have hli : (ints l).length = l.length := by rw [ints, List.length_map]
  refine Run.region ?_
  refine Ops.pure rfl (Pure.fieldAddrB fld35_2 rfl) ?_
  refine Ops.pure rfl (Pure.ldB 0 rfl cell32 rfl rfl) ?_
  refine Ops.pure rfl (Pure.move rfl) ?_
  refine Ops.pure rfl (Pure.move rfl) ?_
  refine Ops.pure rfl (Pure.idx1N sl32 (RdL.own 1 rfl) rfl rfl (by first | assumption | omega | (simp; omega))) ?_
  refine Ops.store (Stores.row1 1 rfl size2 rfl rfl rfl (by first | assumption | omega | (simp; omega))) ?_
  refine Ops.nil ?_
  refine Run.seq ?_
  refine Run.region ?_
  refine Ops.q rfl (QOp.call fn122 rfl (fun w hw => f_s_l04Count w _ a b x9 (l.set k y) (RdL.boxM 0 rfl rfl w hw) (by rw [List.length_set, ints, List.map_set]; exact RdL.own 1 rfl w hw) (okP_set hk k hy0 hy1))) ?_
  refine Ops.pure rfl (Pure.assign rfl) ?_
  refine Ops.nil ?_
  refine Run.ret1 rfl rfl ?_
  rfl

def effTo (a b : Int) (l : List Int) (k : Nat) (n : Nat) : List Int := (List.range n).map fun j => cw a b l k j
theorem effTo_succ (a b : Int) (l : List Int) (k n : Nat) : effTo a b l k (n + 1) = effTo a b l k n ++ [cw a b l k n] := by unfold effTo; rw [List.range_succ, List.map_append]; rfl
theorem length_effTo (a b : Int) (l : List Int) (k n : Nat) : (effTo a b l k n).length = n := by unfold effTo; rw [List.length_map, List.length_range]
theorem effTo_get {a b : Int} {l : List Int} {k n j : Nat} (h : j < n) : (effTo a b l k n).getD j 0 = cw a b l k j := by simp [effTo, List.getD, h]
theorem cw_le {a b : Int} {l : List Int} (hs : SizeOk a b) (k j : Nat) : 1 ≤ cw a b l k j ∧ cw a b l k j ≤ 256 := by
  have := cnt_le (l := l.set k (j : Int)) hs
  unfold cw; omega

set_option maxRecDepth 4000 in
/-- (impl.Panel).effectsAt -/
theorem f_i_Panel_effectsAt (w : World) (a : Int) (b : Int) (v : Value) (l : List Int) (k : Nat) (hv : Rd w v 1 l.length (ints l)) (hl : l.length ≤ 1073741824) (hk : okP a b l = true) (hkl : k < l.length) : Ret Try.prog 145 [.agg #[.int .i64 a, .int .i64 b, v], .int .i64 k] w (fun u L => L = [.row 2 1 u 3 (ints (effTo a b l k 3))]) := by
  refine Ret.enter Try.func145 rfl Try.ntmps145 rfl ?_
  refine Run.seq ?_
  refine Run.region ?_
  refine Ops.go rfl (Loud.box rfl rfl) ?_
  rintro _ _ ⟨b2, rfl, rfl⟩
  refine Ops.pure rfl (Pure.assign rfl) ?_
  refine Ops.nil ?_
  refine Run.seq ?_
  refine Run.region ?_
  refine Ops.go rfl (Loud.lit sl32 rfl rfl rfl (by simp [Value.oneCell'])) ?_
  rintro v7 _ rfl
  refine Ops.pure rfl (Pure.assign rfl) ?_
  refine Ops.nil ?_
  refine Run.seq ?_
  refine Run.seq ?_
  refine Run.region ?_
  refine Ops.pure rfl (Pure.move rfl) ?_
  refine Ops.nil ?_
  refine Run.block ?_
  refine Run.loop2 (X := Nat) (Y := Value) (fun j vo => [(1, .int .i64 k), (2, .pointer (some ⟨b2, 0, none⟩)), (5, vo), (8, .int .i64 j)]) (fun j vo => [.row 2 1 vo j (ints (effTo a b l k j)), .box b2 35 [.int .i64 a, .int .i64 b, v]]) (fun j vo => j ≤ 3) (fun j vo => 3 - j) 0 v7 ?_ ?_ ?_ ?_
  · exact by omega
  · exact ⟨rfl, rfl, rfl, rfl, trivial⟩
  · exact Ext.take 0 rfl (Ext.take 0 rfl (Ext.nil _))
  · intro j vo hinv0
    refine Run.seq ?_
    refine Run.region ?_
    refine Ops.pure rfl (Pure.lss rfl rfl) ?_
    refine Ops.nil ?_
    refine Run.seq ?_
    refine Run.cond rfl (fun c9 => ?_) (fun c9 => ?_)
    · skip
      replace c9 := dT c9
      refine Run.skip ?_
      refine Run.seq ?_
      refine Run.block ?_
      refine Run.seq ?_
      refine Run.region ?_
      refine Ops.pure rfl (Pure.move rfl) ?_
      refine Ops.pure rfl (Pure.assign rfl) ?_
      refine Ops.nil ?_
      refine Run.region ?_
      refine Ops.pure rfl (Pure.move rfl) ?_
      refine Ops.pure rfl (Pure.ldBA 1 rfl cell35 rfl rfl rfl) ?_
      refine Ops.pure rfl (Pure.move rfl) ?_
      refine Ops.pure rfl (Pure.move rfl) ?_
      refine Ops.go rfl (Loud.callR fn140 rfl (fun w hw => f_i_Panel_changed w a b v l k (j : Int) (RdL.old hv w hw) hl hkl)) ?_
      rintro v15 _ ⟨L15, hQ15, rfl⟩
      obtain ⟨x15, h15, rfl, rfl⟩ := hQ15
      refine Ops.q rfl (QOp.call fn121 rfl (fun w hw => (f_i_countCurves w a b x15 (l.set k (j : Int)) (by rw [List.length_set]; exact RdL.own 0 rfl w hw) (okP_set hk k (by omega) (by omega))).cong (show _ = Value.int .i64 (cw a b l k j) from rfl))) ?_
      refine Ops.go rfl (Loud.lit sl32 rfl rfl rfl (by simp [Value.oneCell'])) ?_
      rintro v17 _ rfl
      refine Ops.go rfl (Loud.append 2 rfl sl32 rfl rfl (RdL.own 0 rfl) (by simp [Value.oneCell']) (by omega) (by omega)) ?_
      rintro v18 _ rfl
      refine Ops.pure rfl (Pure.assign rfl) ?_
      refine Ops.nil ?_
      refine Run.blk ?_
      refine Run.region ?_
      refine Ops.pure rfl (Pure.add rfl rfl (by omega) (by omega)) ?_
      refine Ops.pure rfl (Pure.move rfl) ?_
      refine Ops.nil ?_
      refine Run.asrt ?_
      refine ⟨j + 1, v18, ⟨by omega, by omega⟩, ⟨rfl, rfl, rfl, rfl, trivial⟩, Ext.trans (Ext.eq ?_) (Ext.take 2 rfl (Ext.take 2 rfl (Ext.nil _)))⟩
      rw [effTo_succ, ints, List.map_append]
      rfl
    · skip
      replace c9 := dF c9
      refine Run.exit rfl ?_
      refine Run.seq ?_
      refine Run.region ?_
      refine Ops.pure rfl (Pure.move rfl) ?_
      refine Ops.pure rfl (Pure.assign rfl) ?_
      refine Ops.nil ?_
      have e : j = 3 := by omega
      subst e
      refine Run.ext_ (Ext.take 0 rfl (Ext.nil _)) ?_
      refine Run.ret1 rfl rfl ?_
      rfl

end Go.Proofs.Ytmfinopdokkjcaa
