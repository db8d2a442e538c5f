/- Contracts of functions, printed by program from annotations. -/
import Derived.Test.YtmfinopdokkjcaaTrc3
namespace Go.Proofs.Ytmfinopdokkjcaa
open Go Go.AW Go.RowKit
set_option linter.unusedVariables false
set_option linter.unusedSimpArgs false

/-- the inner point with a number -/
def ptX (a k : Int) : Int := if k % (2 * a - 1) < a - 1 then 2 * (k % (2 * a - 1)) + 2 else 2 * (k % (2 * a - 1) - (a - 1)) + 1
def ptY (a k : Int) : Int := if k % (2 * a - 1) < a - 1 then 2 * (k / (2 * a - 1)) + 1 else 2 * (k / (2 * a - 1)) + 2
theorem rowN_up (a : Int) (y : Nat) : rowN a ((y : Int) + 1) = rowN a y + a - ((y % 2 : Nat) : Int) := by
  have h := rowN_succ a y
  rwa [show ((y + 1 : Nat) : Int) = (y : Int) + 1 by omega] at h
theorem pt_row {a b k y : Int} (hs : SizeOk a b) (h0 : 1 ≤ y) (h1 : rowN a y ≤ k) (h2 : k < rowN a (y + 1)) : ptY a k = y ∧ ptX a k = 2 * (k - rowN a y) + 1 + y % 2 := by
  obtain ⟨s1, s2, s3, s4⟩ := hs
  unfold rowN at *
  unfold ptX ptY
  rcases side8 s1 s2 with rfl | rfl | rfl | rfl | rfl | rfl | rfl | rfl <;> (split <;> omega)
theorem pt_spec {a b k : Int} (hs : SizeOk a b) (h0 : 0 ≤ k) (h1 : k < inn a b) : PtOk a b (ptX a k) (ptY a k) ∧ ¬ Edge a b (ptX a k) (ptY a k) ∧ num a (ptX a k) (ptY a k) = k := by
  obtain ⟨s1, s2, s3, s4⟩ := hs
  unfold inn at h1
  unfold num rowN PtOk Edge ptX ptY
  rcases side8 s1 s2 with rfl | rfl | rfl | rfl | rfl | rfl | rfl | rfl <;> (split <;> omega)
theorem pt_num {a b x y : Int} (hs : SizeOk a b) (hp : PtOk a b x y) (he : ¬ Edge a b x y) : ptX a (num a x y) = x ∧ ptY a (num a x y) = y := by
  unfold PtOk at hp
  unfold Edge at he
  obtain ⟨n, rfl⟩ := Int.eq_ofNat_of_zero_le (show 0 ≤ y by omega)
  have hr := rowN_succ a n
  rw [show ((n + 1 : Nat) : Int) = (n : Int) + 1 by omega] at hr
  have h := pt_row (k := num a x n) hs (show (1 : Int) ≤ n by omega) (by unfold num; omega) (by unfold num; omega)
  refine ⟨?_, h.1⟩
  rw [h.2]
  unfold num
  omega
theorem inn_row {a b : Int} (hs : SizeOk a b) : rowN a (2 * b) = inn a b := by
  obtain ⟨s1, s2, s3, s4⟩ := hs
  unfold inn rowN
  rcases side8 s1 s2 with rfl | rfl | rfl | rfl | rfl | rfl | rfl | rfl <;> omega
abbrev pnts (l : List (Int × Int)) : List Value := l.flatMap encQ
theorem pnts_append (l m : List (Int × Int)) : pnts (l ++ m) = pnts l ++ pnts m := List.flatMap_append
/-- the first n inner points -/
def pnL (a : Int) (n : Nat) : List (Int × Int) := (List.range n).map fun (k : Nat) => (ptX a k, ptY a k)
theorem length_pnL (a : Int) (n : Nat) : (pnL a n).length = n := by unfold pnL; rw [List.length_map, List.length_range]
theorem pnL_succ (a : Int) (n : Nat) : pnL a (n + 1) = pnL a n ++ [(ptX a n, ptY a n)] := by unfold pnL; rw [List.range_succ, List.map_append]; rfl
theorem pnL_get {a : Int} {n k : Nat} (h : k < n) : (pnL a n).getD k (0, 0) = (ptX a k, ptY a k) := by simp [pnL, List.getD, h]
def rwN (a : Int) (y : Nat) : Nat := (rowN a y).toNat
theorem rwN_eq {a b : Int} (hs : SizeOk a b) {y : Nat} (h0 : 1 ≤ y) (h1 : (y : Int) ≤ 2 * b) : (rwN a y : Int) = rowN a y ∧ rwN a y ≤ 112 := by
  have := rowN_bd (y := y) hs (by omega) h1
  unfold rwN; omega

set_option maxRecDepth 4000 in
/-- (impl.Panel).points -/
theorem f_i_Panel_points (w : World) (a : Int) (b : Int) (v : Value) (l : List Int) (hs : SizeOk a b) : Ret Try.prog 192 [.agg #[.int .i64 a, .int .i64 b, v]] w (fun u L => L = [.row 72 2 u (inn a b) (pnts (pnL a (inn a b)))]) := by
  obtain ⟨hs1, hs2, hs3, hs4⟩ := id hs
  refine Ret.enter Try.func192 rfl Try.ntmps192 rfl ?_
  refine Run.seq ?_
  refine Run.region ?_
  refine Ops.go rfl (Loud.box rfl rfl) ?_
  rintro _ _ ⟨b1, rfl, rfl⟩
  refine Ops.pure rfl (Pure.assign rfl) ?_
  refine Ops.nil ?_
  refine Run.seq ?_
  refine Run.region ?_
  refine Ops.go rfl (Loud.lit0 sl134) ?_
  rintro v6 _ rfl
  refine Ops.pure rfl (Pure.assign rfl) ?_
  refine Ops.nil ?_
  refine Run.seq ?_
  refine Run.seq ?_
  refine Run.region ?_
  refine Ops.pure rfl (Pure.assign rfl) ?_
  refine Ops.nil ?_
  refine Run.block ?_
  refine Run.loop2 (X := Nat) (Y := Value) (fun y vo => [(1, .pointer (some ⟨b1, 0, none⟩)), (3, vo), (4, .int .i64 y)]) (fun y vo => [.row 72 2 vo (rwN a y) (pnts (pnL a (rwN a y))), .box b1 35 [.int .i64 a, .int .i64 b, v]]) (fun y vo => 1 ≤ y ∧ (y : Int) ≤ 2 * b) (fun y vo => 16 - y) 1 v6 ?_ ?_ ?_ ?_
  · exact ⟨by omega, by omega⟩
  · exact ⟨rfl, rfl, rfl, trivial⟩
  · exact Ext.trans (Ext.eq (by rw [show rwN a 1 = 0 by unfold rwN rowN; omega]; rfl)) (Ext.take 0 rfl (Ext.take 0 rfl (Ext.nil _)))
  · intro y vo hinv0
    obtain ⟨hr1, hr2⟩ := rwN_eq hs hinv0.1 hinv0.2
    refine Run.seq ?_
    refine Run.seq ?_
    refine Run.region ?_
    refine Ops.pure rfl (Pure.move rfl) ?_
    refine Ops.pure rfl (Pure.fieldAddrB fld35_1 rfl) ?_
    refine Ops.pure rfl (Pure.ldB 1 rfl cell2 rfl rfl) ?_
    refine Ops.pure rfl (Pure.mul rfl rfl (by omega) (by omega)) ?_
    refine Ops.pure rfl (Pure.lss rfl rfl) ?_
    refine Ops.nil ?_
    refine Run.cond rfl (fun c11 => ?_) (fun c11 => ?_)
    · skip
      replace c11 := dT c11
      refine Run.skip ?_
      refine Run.seq ?_
      refine Run.block ?_
      refine Run.seq ?_
      refine Run.region ?_
      refine Ops.pure rfl (Pure.move rfl) ?_
      refine Ops.pure rfl (Pure.remN (n := 2) rfl rfl (by omega)) ?_
      refine Ops.pure rfl (Pure.add rfl rfl (by omega) (by omega)) ?_
      refine Ops.pure rfl (Pure.assign rfl) ?_
      refine Ops.nil ?_
      refine Run.block ?_
      refine Run.loop2 (X := Nat) (Y := Value) (fun j vq => [(1, .pointer (some ⟨b1, 0, none⟩)), (3, vq), (4, .int .i64 y), (5, .int .i64 (1 + ((y % 2 : Nat) : Int) + 2 * (j : Int)))]) (fun j vq => [.row 72 2 vq (rwN a y + j) (pnts (pnL a (rwN a y + j))), .box b1 35 [.int .i64 a, .int .i64 b, v]]) (fun j vq => 1 + ((y % 2 : Nat) : Int) + 2 * (j : Int) ≤ 2 * a + 1) (fun j vq => 16 - j) 0 vo ?_ ?_ ?_ ?_
      · omega
      · exact ⟨rfl, rfl, rfl, congrArg (fun x => some (Value.int .i64 x)) (by omega), trivial⟩
      · exact Ext.refl _
      · intro j vq hinv1
        refine Run.seq ?_
        refine Run.seq ?_
        refine Run.region ?_
        refine Ops.pure rfl (Pure.move rfl) ?_
        refine Ops.pure rfl (Pure.fieldAddrB fld35_0 rfl) ?_
        refine Ops.pure rfl (Pure.ldB 1 rfl cell2 rfl rfl) ?_
        refine Ops.pure rfl (Pure.mul rfl rfl (by omega) (by omega)) ?_
        refine Ops.pure rfl (Pure.lss rfl rfl) ?_
        refine Ops.nil ?_
        refine Run.cond rfl (fun c21 => ?_) (fun c21 => ?_)
        · skip
          replace c21 := dT c21
          refine Run.skip ?_
          refine Run.seq ?_
          refine Run.block ?_
          refine Run.region ?_
          refine Ops.pure rfl (Pure.move rfl) ?_
          refine Ops.pure rfl (Pure.move rfl) ?_
          refine Ops.pure rfl (Pure.move rfl) ?_
          refine Ops.pure rfl (Pure.build rfl (bld72_2 _ _ (by first | rfl | assumption) (by first | rfl | assumption))) ?_
          refine Ops.go rfl (Loud.litA sl134 rfl rfl rfl) ?_
          rintro v28 _ rfl
          refine Ops.go rfl (Loud.append 1 rfl sl134 rfl rfl (RdL.own 0 rfl) (by simp [Value.oneCell']) (by omega) (by omega)) ?_
          rintro v29 _ rfl
          refine Ops.pure rfl (Pure.assign rfl) ?_
          refine Ops.nil ?_
          refine Run.blk ?_
          refine Run.region ?_
          refine Ops.pure rfl (Pure.move rfl) ?_
          refine Ops.pure rfl (Pure.add rfl rfl (by omega) (by omega)) ?_
          refine Ops.pure rfl (Pure.assign rfl) ?_
          refine Ops.nil ?_
          refine Run.asrt ?_
          have hr3 := rwN_eq hs (y := y + 1) (by omega) (by omega)
          have hr4 := rowN_up a y
          obtain ⟨g1, g2⟩ := pt_row (k := (rwN a y + j : Nat)) hs (show (1 : Int) ≤ y by omega) (by omega) (by omega)
          refine ⟨j + 1, v29, ⟨by omega, by omega⟩, ⟨rfl, rfl, rfl, congrArg (fun x => some (Value.int .i64 x)) (by omega), trivial⟩, Ext.trans (Ext.eq ?_) (Ext.take 1 rfl (Ext.take 1 rfl (Ext.nil _)))⟩
          rw [show rwN a y + (j + 1) = rwN a y + j + 1 by omega, pnL_succ, pnts_append, g1, g2]
          rw [show 2 * (((rwN a y + j : Nat) : Int) - rowN a y) + 1 + (y : Int) % 2 = 1 + ((y % 2 : Nat) : Int) + 2 * (j : Int) by omega]
          rfl
        · skip
          replace c21 := dF c21
          refine Run.exit rfl ?_
          refine Run.blk ?_
          refine Run.region ?_
          refine Ops.pure rfl (Pure.move rfl) ?_
          refine Ops.pure rfl (Pure.add rfl rfl (by omega) (by omega)) ?_
          refine Ops.pure rfl (Pure.assign rfl) ?_
          refine Ops.nil ?_
          refine Run.asrt ?_
          have hr3 := rwN_eq hs (y := y + 1) (by omega) (by omega)
          have hr4 := rowN_succ a y
          have e : rwN a (y + 1) = rwN a y + j := by omega
          refine ⟨y + 1, vq, ⟨by omega, by omega⟩, ⟨rfl, rfl, rfl, trivial⟩, ?_⟩
          rw [e]
          exact Ext.refl _
    · skip
      replace c11 := dF c11
      refine Run.exit rfl ?_
      refine Run.seq ?_
      refine Run.region ?_
      refine Ops.pure rfl (Pure.move rfl) ?_
      refine Ops.pure rfl (Pure.assign rfl) ?_
      refine Ops.nil ?_
      have hi := inn_row hs
      have e : (y : Int) = 2 * b := by omega
      have e2 : rwN a y = inn a b := by rw [← e] at hi; omega
      refine Run.ext_ (Ext.take 0 rfl (Ext.nil _)) ?_
      rw [e2]
      refine Run.ret1 rfl rfl ?_
      rfl

set_option maxRecDepth 4000 in
/-- spec.l02Point -/
theorem f_s_l02Point (w : World) (p : Nat) (a : Int) (b : Int) (v : Value) (k : Nat) (hp : Rd w (boxS p) 3 1 [.int .i64 a, .int .i64 b, v]) (hs : SizeOk a b) (hk : k < inn a b) : RetV Try.prog 185 [.pointer (some ⟨p, 0, none⟩), .int .i64 k] w (.agg #[.int .i64 (ptX a k), .int .i64 (ptY a k)]) := by
  obtain ⟨hs1, hs2, hs3, hs4⟩ := id hs
  have hi := inn_row hs
  refine Ret.enter Try.func185 rfl Try.ntmps185 rfl ?_
  refine Run.seq ?_
  refine Run.region ?_
  refine Ops.go rfl (Loud.alloc zero72 rfl) ?_
  rintro _ _ ⟨b4, rfl, rfl⟩
  refine Ops.nil ?_
  refine Run.seq ?_
  refine Run.region ?_
  refine Ops.pure rfl (Pure.assign rfl) ?_
  refine Ops.nil ?_
  refine Run.seq ?_
  refine Run.block ?_
  refine Run.loop (X := Nat) (fun y => [(0, .pointer (some ⟨p, 0, none⟩)), (1, .int .i64 k), (4, .pointer (some ⟨b4, 0, none⟩)), (5, .int .i64 y)]) (fun y => [.box b4 72 [.int .i64 0, .int .i64 0]]) (fun y => 1 ≤ y ∧ (y : Int) < 2 * b ∧ rowN a y ≤ k) (fun y => 16 - y) 1 ?_ ?_ ?_ ?_
  · exact ⟨by omega, by rcases hs with ⟨_, _, _, _⟩; omega, by unfold rowN; omega⟩
  · exact ⟨rfl, rfl, rfl, rfl, trivial⟩
  · exact Ext.refl _
  · intro y hinv0
    obtain ⟨hr1, hr2⟩ := rwN_eq hs hinv0.1 (by omega)
    refine Run.seq ?_
    refine Run.seq ?_
    refine Run.region ?_
    refine Ops.pure rfl (Pure.move rfl) ?_
    refine Ops.pure rfl (Pure.add rfl rfl (by omega) (by omega)) ?_
    refine Ops.pure rfl (Pure.move rfl) ?_
    refine Ops.pure rfl (Pure.nilchk rfl) ?_
    refine Ops.pure rfl (Pure.fieldAddrB fld35_1 rfl) ?_
    refine Ops.pure rfl (Pure.ldP cell2 rfl (RdL.old hp) rfl) ?_
    refine Ops.pure rfl (Pure.mul rfl rfl (by omega) (by omega)) ?_
    refine Ops.pure rfl (Pure.lss rfl rfl) ?_
    refine Ops.pure rfl (Pure.move rfl) ?_
    refine Ops.guard rfl rfl rfl rfl (fun c14 => ?_) (fun c14 => ?_)
    · skip
      have c14' := dT c14
      refine Ops.pure rfl (Pure.move rfl) ?_
      refine Ops.guardY rfl rfl rfl c14 ?_
      refine Ops.pure rfl (Pure.move rfl) ?_
      refine Ops.guardY rfl rfl rfl c14 ?_
      refine Ops.pure rfl (Pure.add rfl rfl (by omega) (by omega)) ?_
      refine Ops.guardY rfl rfl rfl c14 ?_
      refine Ops.q rfl (QOp.call fn200 rfl (fun w hw => f_s_l02Row w p a b v (y + 1) (RdL.old hp w hw) hs (by omega) (by omega))) ?_
      refine Ops.guardY rfl rfl rfl c14 ?_
      refine Ops.pure rfl (Pure.move rfl) ?_
      refine Ops.guardY rfl rfl rfl c14 ?_
      refine Ops.pure rfl (Pure.leq rfl rfl) ?_
      refine Ops.pure rfl (Pure.pickT rfl c14 rfl) ?_
      refine Ops.nil ?_
      refine Run.cond rfl (fun c21 => ?_) (fun c21 => ?_)
      · skip
        replace c21 := dT c21
        refine Run.skip ?_
        refine Run.block ?_
        refine Run.region ?_
        refine Ops.pure rfl (Pure.move rfl) ?_
        refine Ops.pure rfl (Pure.add rfl rfl (by omega) (by omega)) ?_
        refine Ops.pure rfl (Pure.assign rfl) ?_
        refine Ops.nil ?_
        refine Run.blk ?_
        refine Run.asrt ?_
        exact ⟨y + 1, ⟨⟨by omega, by omega, by omega⟩, by omega⟩, ⟨rfl, rfl, rfl, rfl, trivial⟩, Ext.refl _⟩
      · skip
        replace c21 := dF c21
        refine Run.exit rfl ?_
        refine Run.seq ?_
        have hib := (inn_eq hs).2.1
        have hu1 := rowN_up a y
        have hu2 := rowN_succ a y
        have hlast : (k : Int) < rowN a ((y : Int) + 1) := by
          rcases Int.lt_or_le ((y : Int) + 1) (2 * b) with h | h
          · first
              | omega
              | (simp_all; omega)
          · rw [show (y : Int) + 1 = 2 * b by omega, hi]; omega
        obtain ⟨g1, g2⟩ := pt_row (k := (k : Int)) hs (show (1 : Int) ≤ y by omega) hinv0.2.2 hlast
        refine Run.region ?_
        refine Ops.pure rfl (Pure.move rfl) ?_
        refine Ops.pure rfl (Pure.move rfl) ?_
        refine Ops.pure rfl (Pure.move rfl) ?_
        refine Ops.q rfl (QOp.call fn200 rfl (fun w hw => f_s_l02Row w p a b v y (RdL.old hp w hw) hs (by omega) (by omega))) ?_
        refine Ops.pure rfl (Pure.sub rfl rfl (by omega) (by omega)) ?_
        refine Ops.pure rfl (Pure.mul rfl rfl (by omega) (by omega)) ?_
        refine Ops.pure rfl (Pure.add rfl rfl (by omega) (by omega)) ?_
        refine Ops.pure rfl (Pure.move rfl) ?_
        refine Ops.pure rfl (Pure.remN (n := 2) rfl rfl (by omega)) ?_
        refine Ops.pure rfl (Pure.add rfl rfl (by omega) (by omega)) ?_
        refine Ops.pure rfl (Pure.move rfl) ?_
        refine Ops.pure rfl (Pure.build rfl (bld72_2 _ _ (by first | rfl | assumption) (by first | rfl | assumption))) ?_
        refine Ops.store (Stores.box 0 rfl rfl rfl size72 (allOne rfl) rfl rfl) ?_
        refine Ops.nil ?_
        refine Run.retC 0 rfl rfl rfl cell72 rfl ?_
        rw [g1, g2]
        rfl
    · skip
      replace c14 := Bool.eq_false_of_ne c14
      have c14' := dF c14
      refine Ops.guardN rfl rfl rfl rfl (by rw [c14]; decide) ?_
      refine Ops.guardN rfl rfl rfl rfl (by rw [c14]; decide) ?_
      refine Ops.guardN rfl rfl rfl rfl (by rw [c14]; decide) ?_
      refine Ops.guardN rfl rfl rfl rfl (by rw [c14]; decide) ?_
      refine Ops.guardN rfl rfl rfl rfl (by rw [c14]; decide) ?_
      refine Ops.pure rfl (Pure.pickF rfl c14 rfl) ?_
      refine Ops.nil ?_
      refine Run.condEF rfl rfl ?_
      refine Run.exit rfl ?_
      refine Run.seq ?_
      have hib := (inn_eq hs).2.1
      have hu1 := rowN_up a y
      have hu2 := rowN_succ a y
      have hlast : (k : Int) < rowN a ((y : Int) + 1) := by
        rcases Int.lt_or_le ((y : Int) + 1) (2 * b) with h | h
        · first
            | omega
            | (simp_all; omega)
        · rw [show (y : Int) + 1 = 2 * b by omega, hi]; omega
      obtain ⟨g1, g2⟩ := pt_row (k := (k : Int)) hs (show (1 : Int) ≤ y by omega) hinv0.2.2 hlast
      refine Run.region ?_
      refine Ops.pure rfl (Pure.move rfl) ?_
      refine Ops.pure rfl (Pure.move rfl) ?_
      refine Ops.pure rfl (Pure.move rfl) ?_
      refine Ops.q rfl (QOp.call fn200 rfl (fun w hw => f_s_l02Row w p a b v y (RdL.old hp w hw) hs (by omega) (by omega))) ?_
      refine Ops.pure rfl (Pure.sub rfl rfl (by omega) (by omega)) ?_
      refine Ops.pure rfl (Pure.mul rfl rfl (by omega) (by omega)) ?_
      refine Ops.pure rfl (Pure.add rfl rfl (by omega) (by omega)) ?_
      refine Ops.pure rfl (Pure.move rfl) ?_
      refine Ops.pure rfl (Pure.remN (n := 2) rfl rfl (by omega)) ?_
      refine Ops.pure rfl (Pure.add rfl rfl (by omega) (by omega)) ?_
      refine Ops.pure rfl (Pure.move rfl) ?_
      refine Ops.pure rfl (Pure.build rfl (bld72_2 _ _ (by first | rfl | assumption) (by first | rfl | assumption))) ?_
      refine Ops.store (Stores.box 0 rfl rfl rfl size72 (allOne rfl) rfl rfl) ?_
      refine Ops.nil ?_
      refine Run.retC 0 rfl rfl rfl cell72 rfl ?_
      rw [g1, g2]
      rfl

end Go.Proofs.Ytmfinopdokkjcaa
