/- Contracts of functions, printed by program from annotations. -/
import Derived.Test.YtkabgeoafanmaaaPss
namespace Go.Proofs.Ytkabgeoafanmaaa
open Go Go.AW Go.RowKit
set_option linter.unusedVariables false
set_option linter.unusedSimpArgs false

theorem psL_none {a b c : Int} {l : List Int} (h : ¬ psE a b l c = 0) : psL a b l c = [] := by unfold psL; rw [if_neg h]
theorem length_passes (l : List (Int × Bool)) : (passes l).length = l.length * 2 := length_flatMap encP_len l
theorem set2b : ∀ (l : List (Int × Bool)) (i : Nat) (x : Int) (y : Bool), i < l.length → ((passes l).set (i * 2 + 0) (.int .i64 x)).set (i * 2 + 1) (.bool y) = passes (l.set i (x, y))
  | [], i, _, _, h => by simp at h
  | e :: l, 0, x, y, _ => rfl
  | e :: l, i + 1, x, y, h => by
    have ih := set2b l i x y (by simpa using h)
    rw [show (i + 1) * 2 + 0 = i * 2 + 0 + 1 + 1 by omega, show (i + 1) * 2 + 1 = i * 2 + 1 + 1 + 1 by omega]
    show Value.int .i64 e.1 :: Value.bool e.2 :: ((passes l).set (i * 2 + 0) (.int .i64 x)).set (i * 2 + 1) (.bool y) = Value.int .i64 e.1 :: Value.bool e.2 :: passes (l.set i (x, y))
    rw [ih]
def mkP (k : Int) (i : Nat) : Int × Bool := (k + 2 * (i : Int), decide ((k + 2 * (i : Int) + 1) % 3 = 0))
def marksP (k : Int) (n : Nat) : List (Int × Bool) := (List.range n).map (mkP k)
theorem length_marksP (k : Int) (n : Nat) : (marksP k n).length = n := by simp [marksP]
theorem marksP_getD {k : Int} {n i : Nat} (h : i < n) : (marksP k n).getD i (0, false) = mkP k i := by simp [marksP, List.getD, h]
def markToP (k : Int) (l : List (Int × Bool)) (j : Nat) : List (Int × Bool) := marksP k j ++ l.drop j
theorem markToP_zero (k : Int) (l : List (Int × Bool)) : markToP k l 0 = l := by simp [markToP, marksP]
theorem markToP_full {k : Int} {l : List (Int × Bool)} {j : Nat} (h : j = l.length) : markToP k l j = marksP k l.length := by subst h; simp [markToP]
theorem length_markToP {k : Int} {l : List (Int × Bool)} {j : Nat} (h : j ≤ l.length) : (markToP k l j).length = l.length := by simp [markToP, length_marksP]; omega
theorem markToP_step {k : Int} {l : List (Int × Bool)} {j : Nat} (h : j < l.length) : (markToP k l j).set j (mkP k j) = markToP k l (j + 1) := by
  unfold markToP
  rw [List.set_append, if_neg (by simp [length_marksP]), length_marksP, Nat.sub_self, List.drop_eq_getElem_cons h, List.set_cons_zero]
  simp [marksP, List.range_succ]
theorem beqB (x y : Bool) : (x == y) = decide (x = y) := by cases x <;> cases y <;> rfl
theorem heldRdP {w : World} {v : Value} {k : Int} {n : Nat} (h : Rd w v 2 n (passes (marksP k n))) : Rd w v 2 (marksP k n).length (passes (marksP k n)) := by rw [length_marksP]; exact h
theorem heldPassS_again (k : Int) (l : List (Int × Bool)) : (if marksP k l.length = marksP k (marksP k l.length).length then k + 2 * ((marksP k l.length).length : Int) else -1) = k + 2 * (l.length : Int) := by
  rw [length_marksP, if_pos rfl]

set_option maxRecDepth 4000 in
/-- laws.markPassS -/
theorem f_l_markPassS (w0 : World) (w : World) (v : Value) (l : List (Int × Bool)) (k0 : Int) (F : List Ent) (hw : Sat w0 w (.row 78 2 v l.length (passes l) :: F)) (hl : l.length ≤ 1048576) (hk0 : 0 ≤ k0) (hk1 : k0 ≤ 4611686018427387904) : RetO Try.prog 39 [v, .int .i64 k0] w0 w (fun u L => u = .int .i64 (k0 + 2 * (l.length : Int)) ∧ L = .row 78 2 v l.length (passes (marksP k0 l.length)) :: F) := by
  refine RetO.enter Try.func39 rfl Try.ntmps39 rfl hw ?_
  refine Run.seq ?_
  refine Run.region ?_
  refine Ops.pure rfl (Pure.assign rfl) ?_
  refine Ops.nil ?_
  refine Run.seq ?_
  refine Run.seq ?_
  refine Run.region ?_
  refine Ops.pure rfl (Pure.assign rfl) ?_
  refine Ops.nil ?_
  refine Run.block ?_
  refine Run.loop (X := Nat) (fun k => [(0, v), (1, .int .i64 (k0 + 2 * (k : Int))), (5, .int .i64 k)]) (fun k => .row 78 2 v l.length (passes (markToP k0 l k)) :: F) (fun k => k ≤ l.length) (fun k => l.length - k) 0 ?_ ?_ ?_ ?_
  · exact Nat.zero_le _
  · exact ⟨rfl, by rw [show k0 + 2 * ((0 : Nat) : Int) = k0 by omega]; rfl, rfl, trivial⟩
  · exact Ext.eq (by rw [markToP_zero])
  · intro k hinv0
    have hml : (markToP k0 l k).length = l.length := length_markToP hinv0
    have hrd : RdL w0 (.row 78 2 v l.length (passes (markToP k0 l k)) :: F) v 2 l.length (passes (markToP k0 l k)) := RdL.own 0 rfl
    have hrd1 : RdL w0 (.row 78 2 v l.length ((passes (markToP k0 l k)).set (k * 2 + 0) (.int .i64 (k0 + 2 * (k : Int)))) :: F) v 2 l.length ((passes (markToP k0 l k)).set (k * 2 + 0) (.int .i64 (k0 + 2 * (k : Int)))) := RdL.own 0 rfl
    have hml2 : (passes (markToP k0 l k)).length = l.length * 2 := by rw [length_passes, hml]
    have hml3 : ((passes (markToP k0 l k)).set (k * 2 + 0) (.int .i64 (k0 + 2 * (k : Int)))).length = l.length * 2 := by rw [List.length_set, hml2]
    refine Run.seq ?_
    refine Run.seq ?_
    refine Run.region ?_
    refine Ops.pure rfl (Pure.move rfl) ?_
    refine Ops.pure rfl (Pure.move rfl) ?_
    refine Ops.pure rfl (Pure.len sl47 hrd rfl) ?_
    refine Ops.pure rfl (Pure.lss rfl rfl) ?_
    refine Ops.nil ?_
    refine Run.cond rfl (fun c9 => ?_) (fun c9 => ?_)
    · skip
      replace c9 := dT c9
      refine Run.skip ?_
      refine Run.seq ?_
      refine Run.block ?_
      refine Run.seq ?_
      refine Run.region ?_
      refine Ops.pure rfl (Pure.move rfl) ?_
      refine Ops.pure rfl (Pure.move rfl) ?_
      refine Ops.pure rfl (Pure.move rfl) ?_
      refine Ops.pure rfl (Pure.idxN sl47 hrd rfl rfl (by first | assumption | omega | (simp; omega))) ?_
      refine Ops.pure rfl (Pure.fieldAddr fld78_0 rfl hrd (by first | omega | (simp; omega))) ?_
      refine Ops.store (Stores.row1 0 rfl size2 rfl rfl rfl (by first | assumption | omega | (simp; omega))) ?_
      refine Ops.nil ?_
      refine Run.seq ?_
      refine Run.region ?_
      refine Ops.pure rfl (Pure.move rfl) ?_
      refine Ops.pure rfl (Pure.add rfl rfl (by omega) (by omega)) ?_
      refine Ops.pure rfl (Pure.assign rfl) ?_
      refine Ops.nil ?_
      refine Run.seq ?_
      refine Run.region ?_
      refine Ops.pure rfl (Pure.move rfl) ?_
      refine Ops.pure rfl (Pure.move rfl) ?_
      refine Ops.pure rfl (Pure.move rfl) ?_
      refine Ops.pure rfl (Pure.rem rfl rfl (by omega) (by omega)) ?_
      refine Ops.pure rfl (Pure.eql rfl rfl) ?_
      refine Ops.pure rfl (Pure.idxN sl47 hrd1 rfl rfl (by first | assumption | omega | (simp; omega))) ?_
      refine Ops.pure rfl (Pure.fieldAddr fld78_1 rfl hrd1 (by first | omega | (simp; omega))) ?_
      refine Ops.store (Stores.row1 0 rfl size4 rfl rfl rfl (by first | assumption | omega | (simp; omega))) ?_
      refine Ops.nil ?_
      refine Run.region ?_
      refine Ops.pure rfl (Pure.move rfl) ?_
      refine Ops.pure rfl (Pure.add rfl rfl (by omega) (by omega)) ?_
      refine Ops.pure rfl (Pure.assign rfl) ?_
      refine Ops.nil ?_
      refine Run.blk ?_
      refine Run.region ?_
      refine Ops.pure rfl (Pure.move rfl) ?_
      refine Ops.pure rfl (Pure.add rfl rfl (by omega) (by omega)) ?_
      refine Ops.pure rfl (Pure.assign rfl) ?_
      refine Ops.nil ?_
      refine Run.asrt ?_
      exact ⟨k + 1, ⟨by omega, by omega⟩, ⟨rfl, by rw [show k0 + 2 * ((k + 1 : Nat) : Int) = k0 + 2 * (k : Int) + 1 + 1 by omega]; rfl, rfl, trivial⟩, Ext.eq (by rw [← markToP_step (by omega)]; unfold mkP; rw [← set2b _ _ _ _ (by omega)]; rfl)⟩
    · skip
      replace c9 := dF c9
      refine Run.exit rfl ?_
      refine Run.seq ?_
      refine Run.region ?_
      refine Ops.pure rfl (Pure.move rfl) ?_
      refine Ops.pure rfl (Pure.assign rfl) ?_
      refine Ops.nil ?_
      refine Run.ret1 rfl rfl ?_
      have e : k = l.length := by omega
      subst e
      exact ⟨rfl, by rw [markToP_full rfl]⟩

set_option maxRecDepth 4000 in
/-- laws.heldPassS -/
theorem f_l_heldPassS (w : World) (v : Value) (l : List (Int × Bool)) (k0 : Int) (hv : Rd w v 2 l.length (passes l)) (hl : l.length ≤ 1048576) (hk0 : 0 ≤ k0) (hk1 : k0 ≤ 4611686018427387904) : RetV Try.prog 40 [v, .int .i64 k0] w (.int .i64 (if l = marksP k0 l.length then k0 + 2 * (l.length : Int) else -1)) := by
  refine Ret.enter Try.func40 rfl Try.ntmps40 rfl ?_
  refine Run.seq ?_
  refine Run.region ?_
  refine Ops.pure rfl (Pure.assign rfl) ?_
  refine Ops.nil ?_
  refine Run.seq ?_
  refine Run.seq ?_
  refine Run.region ?_
  refine Ops.pure rfl (Pure.assign rfl) ?_
  refine Ops.nil ?_
  refine Run.block ?_
  refine Run.loop (X := Nat) (fun k => [(0, v), (1, .int .i64 (k0 + 2 * (k : Int))), (5, .int .i64 k)]) (fun k => []) (fun k => k ≤ l.length ∧ ∀ j, j < k → l.getD j (0, false) = mkP k0 j) (fun k => l.length - k) 0 ?_ ?_ ?_ ?_
  · exact ⟨by omega, by omega⟩
  · exact ⟨rfl, by rw [show k0 + 2 * ((0 : Nat) : Int) = k0 by omega]; rfl, rfl, trivial⟩
  · exact Ext.refl _
  · intro k hinv0
    refine Run.seq ?_
    refine Run.seq ?_
    refine Run.region ?_
    refine Ops.pure rfl (Pure.move rfl) ?_
    refine Ops.pure rfl (Pure.move rfl) ?_
    refine Ops.pure rfl (Pure.len sl47 (RdL.old hv) rfl) ?_
    refine Ops.pure rfl (Pure.lss rfl rfl) ?_
    refine Ops.nil ?_
    refine Run.cond rfl (fun c9 => ?_) (fun c9 => ?_)
    · skip
      replace c9 := dT c9
      refine Run.skip ?_
      refine Run.seq ?_
      refine Run.block ?_
      refine Run.seq ?_
      refine Run.seq ?_
      refine Run.region ?_
      refine Ops.pure rfl (Pure.move rfl) ?_
      refine Ops.pure rfl (Pure.move rfl) ?_
      refine Ops.pure rfl (Pure.idxN sl47 (RdL.old hv) rfl rfl (by first | assumption | omega | (simp; omega))) ?_
      refine Ops.pure rfl (Pure.fieldAddr fld78_0 rfl (RdL.old hv) (by first | omega | (simp; omega))) ?_
      refine Ops.pure rfl (Pure.ld cell2 rfl (RdL.old hv) (fget encP_len (by omega) (0, false) rfl)) ?_
      refine Ops.pure rfl (Pure.move rfl) ?_
      refine Ops.pure rfl (Pure.neq rfl rfl) ?_
      refine Ops.nil ?_
      refine Run.cond rfl (fun c18 => ?_) (fun c18 => ?_)
      · skip
        replace c18 := nT c18
        refine Run.seq ?_
        refine Run.region ?_
        refine Ops.pure rfl (Pure.assign rfl) ?_
        refine Ops.nil ?_
        refine Run.ret1 rfl rfl ?_
        rw [if_neg (by intro h; apply c18; rw [h, marksP_getD (by omega)]; rfl)]
      · skip
        replace c18 := nF c18
        refine Run.skip ?_
        refine Run.seq ?_
        refine Run.region ?_
        refine Ops.pure rfl (Pure.move rfl) ?_
        refine Ops.pure rfl (Pure.add rfl rfl (by omega) (by omega)) ?_
        refine Ops.pure rfl (Pure.assign rfl) ?_
        refine Ops.nil ?_
        refine Run.seq ?_
        refine Run.seq ?_
        refine Run.region ?_
        refine Ops.pure rfl (Pure.move rfl) ?_
        refine Ops.pure rfl (Pure.move rfl) ?_
        refine Ops.pure rfl (Pure.idxN sl47 (RdL.old hv) rfl rfl (by first | assumption | omega | (simp; omega))) ?_
        refine Ops.pure rfl (Pure.fieldAddr fld78_1 rfl (RdL.old hv) (by first | omega | (simp; omega))) ?_
        refine Ops.pure rfl (Pure.ld cell4 rfl (RdL.old hv) (fget encP_len (by omega) (0, false) rfl)) ?_
        refine Ops.pure rfl (Pure.move rfl) ?_
        refine Ops.pure rfl (Pure.rem rfl rfl (by omega) (by omega)) ?_
        refine Ops.pure rfl (Pure.eql rfl rfl) ?_
        refine Ops.pure rfl (Pure.neqB und4 rfl rfl) ?_
        refine Ops.nil ?_
        refine Run.setv 29 rfl (congrArg (fun x => Value.bool (!x)) (beqB _ _)) ?_
        refine Run.cond rfl (fun c29 => ?_) (fun c29 => ?_)
        · skip
          replace c29 := nT c29
          refine Run.seq ?_
          refine Run.region ?_
          refine Ops.pure rfl (Pure.assign rfl) ?_
          refine Ops.nil ?_
          refine Run.ret1 rfl rfl ?_
          rw [if_neg (by intro h; apply c29; rw [h, marksP_getD (by omega)]; rfl)]
        · skip
          replace c29 := nF c29
          refine Run.skip ?_
          refine Run.region ?_
          refine Ops.pure rfl (Pure.move rfl) ?_
          refine Ops.pure rfl (Pure.add rfl rfl (by omega) (by omega)) ?_
          refine Ops.pure rfl (Pure.assign rfl) ?_
          refine Ops.nil ?_
          refine Run.blk ?_
          refine Run.region ?_
          refine Ops.pure rfl (Pure.move rfl) ?_
          refine Ops.pure rfl (Pure.add rfl rfl (by omega) (by omega)) ?_
          refine Ops.pure rfl (Pure.assign rfl) ?_
          refine Ops.nil ?_
          refine Run.asrt ?_
          exact ⟨k + 1, ⟨⟨by omega, fun j hj => step_lt (p := fun (j : Nat) => l.getD j (0, false) = mkP k0 j) hj hinv0.2 (Prod.ext c18 c29)⟩, by omega⟩, ⟨rfl, by rw [show k0 + 2 * ((k + 1 : Nat) : Int) = k0 + 2 * (k : Int) + 1 + 1 by omega]; rfl, rfl, trivial⟩, Ext.nil _⟩
    · skip
      replace c9 := dF c9
      refine Run.exit rfl ?_
      refine Run.seq ?_
      refine Run.region ?_
      refine Ops.pure rfl (Pure.move rfl) ?_
      refine Ops.pure rfl (Pure.assign rfl) ?_
      refine Ops.nil ?_
      refine Run.ret1 rfl rfl ?_
      rw [if_pos (ext_getD (0, false) (length_marksP _ _).symm (fun j hj => by rw [marksP_getD hj]; exact hinv0.2 j (by omega)))]; congr 1; omega

set_option maxRecDepth 4000 in
/-- impl.CountOver -/
theorem f_i_CountOver (w : World) (a : Int) (b : Int) (v : Value) (l : List Int) (c : Int) (hv : Rd w v 1 l.length (ints l)) (hl : l.length ≤ 1073741824) (a0 : -9223372036854775808 ≤ a) (a1 : a ≤ 9223372036854775807) (b0 : -9223372036854775808 ≤ b) (b1 : b ≤ 9223372036854775807) (c0 : -9223372036854775808 ≤ c) (c1 : c ≤ 9223372036854775807) : RetV Try.prog 35 [.agg #[.int .i64 a, .int .i64 b, v], .int .i64 c] w (.tuple #[.int .i64 (ovN (psL a b l c) (psL a b l c).length : Int), .int .i64 (psE a b l c)]) := by
  have hpz := psL_size a b l c
  refine Ret.enter Try.func35 rfl Try.ntmps35 rfl ?_
  refine Run.seq ?_
  refine Run.region ?_
  refine Ops.go rfl (Loud.box rfl rfl) ?_
  rintro _ _ ⟨b2, rfl, rfl⟩
  refine Ops.pure rfl (Pure.assign rfl) ?_
  refine Ops.pure rfl (Pure.assign rfl) ?_
  refine Ops.nil ?_
  refine Run.seq ?_
  refine Run.region ?_
  refine Ops.pure rfl (Pure.ldBA 0 rfl cell31 rfl rfl rfl) ?_
  refine Ops.pure rfl (Pure.move rfl) ?_
  refine Ops.go rfl (Loud.callR fn37 rfl (fun w hw => f_i_PassesOf w _ _ _ _ _ (by exact RdL.old (by assumption) w hw) (by assumption) (by assumption) (by assumption) (by assumption) (by assumption) (by assumption) (by assumption))) ?_
  rintro v14 _ ⟨L14, hQ14, rfl⟩
  obtain ⟨x14, rfl, rfl⟩ := hQ14
  refine Ops.pure rfl (Pure.move rfl) ?_
  refine Ops.pure rfl (Pure.extract rfl rfl) ?_
  refine Ops.pure rfl (Pure.extract rfl rfl) ?_
  refine Ops.pure rfl (Pure.assign rfl) ?_
  refine Ops.pure rfl (Pure.assign rfl) ?_
  refine Ops.nil ?_
  refine Run.seq ?_
  refine Run.region ?_
  refine Ops.pure rfl (Pure.assign rfl) ?_
  refine Ops.nil ?_
  refine Run.seq ?_
  refine Run.seq ?_
  refine Run.region ?_
  refine Ops.pure rfl (Pure.move rfl) ?_
  refine Ops.pure rfl (Pure.len sl47 (RdL.own 0 rfl) rfl) ?_
  refine Ops.pure rfl (Pure.move rfl) ?_
  refine Ops.nil ?_
  refine Run.block ?_
  refine Run.loop (X := Nat) (fun k => [(7, .int .i64 (psE a b l c)), (8, .int .i64 (ovN (psL a b l c) k : Int)), (17, x14), (18, .int .i64 (psL a b l c).length), (19, .int .i64 k)]) (fun k => [.row 78 2 x14 (psL a b l c).length (passes (psL a b l c))]) (fun k => k ≤ (psL a b l c).length) (fun k => (psL a b l c).length - k) 0 ?_ ?_ ?_ ?_
  · exact Nat.zero_le _
  · exact ⟨rfl, rfl, rfl, rfl, rfl, trivial⟩
  · exact Ext.take 0 rfl (Ext.nil _)
  · intro k hinv0
    have hol := ovN_le (psL a b l c) k
    refine Run.seq ?_
    refine Run.region ?_
    refine Ops.pure rfl (Pure.lss rfl rfl) ?_
    refine Ops.nil ?_
    refine Run.seq ?_
    refine Run.cond rfl (fun c20 => ?_) (fun c20 => ?_)
    · skip
      replace c20 := dT c20
      refine Run.skip ?_
      refine Run.seq ?_
      refine Run.block ?_
      refine Run.seq ?_
      refine Run.region ?_
      refine Ops.pure rfl (Pure.idxN sl47 (RdL.own 0 rfl) rfl rfl (by first | assumption | omega | (simp; omega))) ?_
      refine Ops.pure rfl (Pure.ldA cell78 rfl (RdL.own 0 rfl) (seg_get encP_len (by omega) (0, false)) rfl (by decide)) ?_
      refine Ops.go rfl (Loud.alloc zero78 rfl) ?_
      rintro _ _ ⟨b10, rfl, rfl⟩
      refine Ops.store (Stores.box 0 rfl rfl rfl size78 (allOne rfl) rfl rfl) ?_
      refine Ops.nil ?_
      refine Run.seq ?_
      refine Run.region ?_
      refine Ops.pure rfl (Pure.fieldAddrB fld78_1 rfl) ?_
      refine Ops.pure rfl (Pure.ldB 0 rfl cell4 rfl rfl) ?_
      refine Ops.nil ?_
      refine Run.cond rfl (fun c24 => ?_) (fun c24 => ?_)
      · skip
        skip
        refine Run.region ?_
        refine Ops.pure rfl (Pure.move rfl) ?_
        refine Ops.pure rfl (Pure.add rfl rfl (by omega) (by omega)) ?_
        refine Ops.pure rfl (Pure.assign rfl) ?_
        refine Ops.nil ?_
        refine Run.blk ?_
        refine Run.region ?_
        refine Ops.pure rfl (Pure.add rfl rfl (by omega) (by omega)) ?_
        refine Ops.pure rfl (Pure.move rfl) ?_
        refine Ops.nil ?_
        refine Run.asrt ?_
        first
          | exact ⟨k + 1, ⟨by omega, by omega⟩, ⟨rfl, congrArg (fun x => some (Value.int .i64 x)) (by rw [ovN_yes c24]; omega), rfl, rfl, rfl, trivial⟩, Ext.right [_] _⟩
          | exact ⟨k + 1, ⟨by omega, by omega⟩, ⟨rfl, congrArg (fun x => some (Value.int .i64 x)) (by rw [ovN_no c24]), rfl, rfl, rfl, trivial⟩, Ext.right [_] _⟩
      · skip
        skip
        refine Run.skip ?_
        refine Run.blk ?_
        refine Run.region ?_
        refine Ops.pure rfl (Pure.add rfl rfl (by omega) (by omega)) ?_
        refine Ops.pure rfl (Pure.move rfl) ?_
        refine Ops.nil ?_
        refine Run.asrt ?_
        first
          | exact ⟨k + 1, ⟨by omega, by omega⟩, ⟨rfl, congrArg (fun x => some (Value.int .i64 x)) (by rw [ovN_yes c24]; omega), rfl, rfl, rfl, trivial⟩, Ext.right [_] _⟩
          | exact ⟨k + 1, ⟨by omega, by omega⟩, ⟨rfl, congrArg (fun x => some (Value.int .i64 x)) (by rw [ovN_no c24]), rfl, rfl, rfl, trivial⟩, Ext.right [_] _⟩
    · skip
      replace c20 := dF c20
      refine Run.exit rfl ?_
      refine Run.seq ?_
      refine Run.region ?_
      refine Ops.pure rfl (Pure.move rfl) ?_
      refine Ops.pure rfl (Pure.move rfl) ?_
      refine Ops.pure rfl (Pure.assign rfl) ?_
      refine Ops.pure rfl (Pure.assign rfl) ?_
      refine Ops.nil ?_
      refine Run.ret2 rfl rfl rfl ?_
      have e : k = (psL a b l c).length := by omega
      subst e
      rfl

set_option maxRecDepth 4000 in
/-- spec.CountOver -/
theorem f_s_CountOver (w : World) (a : Int) (b : Int) (v : Value) (l : List Int) (c : Int) (hv : Rd w v 1 l.length (ints l)) (hl : l.length ≤ 1073741824) (a0 : -9223372036854775808 ≤ a) (a1 : a ≤ 9223372036854775807) (b0 : -9223372036854775808 ≤ b) (b1 : b ≤ 9223372036854775807) : RetV Try.prog 33 [.agg #[.int .i64 a, .int .i64 b, v], .int .i64 c] w (.tuple #[.int .i64 (ovN (psL a b l c) (psL a b l c).length : Int), .int .i64 (psE a b l c)]) := by
  have hpz := psL_size a b l c
  refine Ret.enter Try.func33 rfl Try.ntmps33 rfl ?_
  refine Run.seq ?_
  refine Run.region ?_
  refine Ops.go rfl (Loud.box rfl rfl) ?_
  rintro _ _ ⟨b2, rfl, rfl⟩
  refine Ops.pure rfl (Pure.assign rfl) ?_
  refine Ops.pure rfl (Pure.assign rfl) ?_
  refine Ops.nil ?_
  refine Run.seq ?_
  refine Run.region ?_
  refine Ops.pure rfl (Pure.move rfl) ?_
  refine Ops.go rfl (Loud.callR fn68 rfl (fun w hw => f_s_l13Of w _ _ _ _ _ _ (by exact RdL.boxM 0 rfl rfl w hw) (by exact RdL.old (by assumption) w hw) (by assumption) (by assumption) (by assumption) (by assumption) (by assumption))) ?_
  rintro v12 _ ⟨L12, hQ12, rfl⟩
  obtain ⟨x12, rfl, rfl⟩ := hQ12
  refine Ops.pure rfl (Pure.move rfl) ?_
  refine Ops.pure rfl (Pure.extract rfl rfl) ?_
  refine Ops.pure rfl (Pure.extract rfl rfl) ?_
  refine Ops.pure rfl (Pure.assign rfl) ?_
  refine Ops.pure rfl (Pure.assign rfl) ?_
  refine Ops.nil ?_
  refine Run.seq ?_
  refine Run.seq ?_
  refine Run.region ?_
  refine Ops.pure rfl (Pure.move rfl) ?_
  refine Ops.pure rfl (Pure.neq rfl rfl) ?_
  refine Ops.nil ?_
  refine Run.cond rfl (fun c16 => ?_) (fun c16 => ?_)
  · skip
    replace c16 := nT c16
    refine Run.seq ?_
    refine Run.region ?_
    refine Ops.pure rfl (Pure.move rfl) ?_
    refine Ops.pure rfl (Pure.assign rfl) ?_
    refine Ops.pure rfl (Pure.assign rfl) ?_
    refine Ops.nil ?_
    refine Run.ret2 rfl rfl rfl ?_
    rw [psL_none c16]
    rfl
  · skip
    replace c16 := nF c16
    refine Run.skip ?_
    refine Run.seq ?_
    refine Run.region ?_
    refine Ops.pure rfl (Pure.assign rfl) ?_
    refine Ops.nil ?_
    refine Run.seq ?_
    refine Run.seq ?_
    refine Run.region ?_
    refine Ops.pure rfl (Pure.assign rfl) ?_
    refine Ops.nil ?_
    refine Run.block ?_
    refine Run.loop (X := Nat) (fun k => [(6, x12), (8, .int .i64 (ovN (psL a b l c) k : Int)), (9, .int .i64 k)]) (fun k => [.row 78 2 x12 (psL a b l c).length (passes (psL a b l c))]) (fun k => k ≤ (psL a b l c).length) (fun k => (psL a b l c).length - k) 0 ?_ ?_ ?_ ?_
    · exact Nat.zero_le _
    · exact ⟨rfl, rfl, rfl, trivial⟩
    · exact Ext.take 0 rfl (Ext.nil _)
    · intro k hinv0
      have hol := ovN_le (psL a b l c) k
      refine Run.seq ?_
      refine Run.seq ?_
      refine Run.region ?_
      refine Ops.pure rfl (Pure.move rfl) ?_
      refine Ops.pure rfl (Pure.move rfl) ?_
      refine Ops.pure rfl (Pure.len sl47 (RdL.own 0 rfl) rfl) ?_
      refine Ops.pure rfl (Pure.lss rfl rfl) ?_
      refine Ops.nil ?_
      refine Run.cond rfl (fun c21 => ?_) (fun c21 => ?_)
      · skip
        replace c21 := dT c21
        refine Run.skip ?_
        refine Run.seq ?_
        refine Run.block ?_
        refine Run.seq ?_
        refine Run.region ?_
        refine Ops.pure rfl (Pure.move rfl) ?_
        refine Ops.pure rfl (Pure.move rfl) ?_
        refine Ops.pure rfl (Pure.idxN sl47 (RdL.own 0 rfl) rfl rfl (by first | assumption | omega | (simp; omega))) ?_
        refine Ops.pure rfl (Pure.fieldAddr fld78_1 rfl (RdL.own 0 rfl) (by first | omega | (simp; omega))) ?_
        refine Ops.pure rfl (Pure.ld cell4 rfl (RdL.own 0 rfl) (fget encP_len (by omega) (0, false) rfl)) ?_
        refine Ops.nil ?_
        refine Run.cond rfl (fun c28 => ?_) (fun c28 => ?_)
        · skip
          skip
          refine Run.region ?_
          refine Ops.pure rfl (Pure.move rfl) ?_
          refine Ops.pure rfl (Pure.add rfl rfl (by omega) (by omega)) ?_
          refine Ops.pure rfl (Pure.assign rfl) ?_
          refine Ops.nil ?_
          refine Run.blk ?_
          refine Run.region ?_
          refine Ops.pure rfl (Pure.move rfl) ?_
          refine Ops.pure rfl (Pure.add rfl rfl (by omega) (by omega)) ?_
          refine Ops.pure rfl (Pure.assign rfl) ?_
          refine Ops.nil ?_
          refine Run.asrt ?_
          first
            | exact ⟨k + 1, ⟨by omega, by omega⟩, ⟨rfl, congrArg (fun x => some (Value.int .i64 x)) (by rw [ovN_yes c28]; omega), rfl, trivial⟩, Ext.refl _⟩
            | exact ⟨k + 1, ⟨by omega, by omega⟩, ⟨rfl, congrArg (fun x => some (Value.int .i64 x)) (by rw [ovN_no c28]), rfl, trivial⟩, Ext.refl _⟩
        · skip
          skip
          refine Run.skip ?_
          refine Run.blk ?_
          refine Run.region ?_
          refine Ops.pure rfl (Pure.move rfl) ?_
          refine Ops.pure rfl (Pure.add rfl rfl (by omega) (by omega)) ?_
          refine Ops.pure rfl (Pure.assign rfl) ?_
          refine Ops.nil ?_
          refine Run.asrt ?_
          first
            | exact ⟨k + 1, ⟨by omega, by omega⟩, ⟨rfl, congrArg (fun x => some (Value.int .i64 x)) (by rw [ovN_yes c28]; omega), rfl, trivial⟩, Ext.refl _⟩
            | exact ⟨k + 1, ⟨by omega, by omega⟩, ⟨rfl, congrArg (fun x => some (Value.int .i64 x)) (by rw [ovN_no c28]), rfl, trivial⟩, Ext.refl _⟩
      · skip
        replace c21 := dF c21
        refine Run.exit rfl ?_
        refine Run.seq ?_
        refine Run.region ?_
        refine Ops.pure rfl (Pure.move rfl) ?_
        refine Ops.pure rfl (Pure.assign rfl) ?_
        refine Ops.pure rfl (Pure.assign rfl) ?_
        refine Ops.nil ?_
        refine Run.ret2 rfl rfl rfl ?_
        have e : k = (psL a b l c).length := by omega
        subst e
        rw [c16]

end Go.Proofs.Ytkabgeoafanmaaa
