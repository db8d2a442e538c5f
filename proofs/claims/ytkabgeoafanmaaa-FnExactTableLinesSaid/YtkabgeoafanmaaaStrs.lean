/- Contracts of functions, printed by program from annotations. -/
import Derived.Test.YtkabgeoafanmaaaRead
namespace Go.Proofs.Ytkabgeoafanmaaa
open Go Go.AW Go.RowKit
set_option linter.unusedVariables false
set_option linter.unusedSimpArgs false

def mtB (k : Nat) : ByteArray := if k = 0 then strOf [109, 48] else strOf (109 :: digs k)
theorem mtB_zero : mtB 0 = strOf [109, 48] := rfl
theorem mtB_pos {k : Nat} (h : ¬ k = 0) : mtB k = strOf (109 :: digs k) := by unfold mtB; rw [if_neg h]
/-- the marks from k on -/
def marksS (k n : Nat) : List ByteArray := (List.range n).map fun i => mtB (k + i)
theorem length_marksS (k n : Nat) : (marksS k n).length = n := by simp [marksS]
theorem marksS_getD {k n i : Nat} (h : i < n) : (marksS k n).getD i ByteArray.empty = mtB (k + i) := by simp [marksS, List.getD, h]
def markToS (k : Nat) (l : List ByteArray) (j : Nat) : List ByteArray := marksS k j ++ l.drop j
theorem markToS_zero (k : Nat) (l : List ByteArray) : markToS k l 0 = l := by simp [markToS, marksS]
theorem markToS_full {k : Nat} {l : List ByteArray} {j : Nat} (h : j = l.length) : markToS k l j = marksS k l.length := by subst h; simp [markToS]
theorem length_markToS {k : Nat} {l : List ByteArray} {j : Nat} (h : j ≤ l.length) : (markToS k l j).length = l.length := by simp [markToS, length_marksS]; omega
theorem markToS_step {k : Nat} {l : List ByteArray} {j : Nat} (h : j < l.length) : (strs (markToS k l j)).set j (.string (mtB (k + j))) = strs (markToS k l (j + 1)) := by
  have e : markToS k l (j + 1) = (markToS k l j).set j (mtB (k + j)) := by
    unfold markToS
    rw [List.set_append, if_neg (by simp [length_marksS]), length_marksS, Nat.sub_self, List.drop_eq_getElem_cons h, List.set_cons_zero]
    simp [marksS, List.range_succ]
  rw [e, strs, strs, List.map_set]

set_option maxRecDepth 4000 in
/-- laws.markText -/
theorem f_l_markText (w : World) (k : Nat) (hk : k ≤ 1000000000000) : RetV Try.prog 66 [.int .i64 k] w (.string (mtB k)) := by
  refine Ret.enter Try.func66 rfl Try.ntmps66 rfl ?_
  refine Run.seq ?_
  refine Run.region ?_
  refine Ops.pure rfl (Pure.assign rfl) ?_
  refine Ops.nil ?_
  refine Run.seq ?_
  refine Run.seq ?_
  refine Run.region ?_
  refine Ops.pure rfl (Pure.move rfl) ?_
  refine Ops.pure rfl (Pure.leq rfl rfl) ?_
  refine Ops.nil ?_
  refine Run.cond rfl (fun c5 => ?_) (fun c5 => ?_)
  · skip
    replace c5 := dT c5
    have hk0 : k = 0 := by omega
    subst hk0
    refine Run.seq ?_
    refine Run.region ?_
    refine Ops.pure rfl (Pure.assign rfl) ?_
    refine Ops.nil ?_
    refine Run.ret1 rfl rfl ?_
    rfl
  · skip
    replace c5 := dF c5
    refine Run.skip ?_
    refine Run.seq ?_
    refine Run.region ?_
    refine Ops.pure rfl (Pure.assign rfl) ?_
    refine Ops.nil ?_
    refine Run.seq ?_
    refine Run.block ?_
    refine Run.loop2 (X := Nat) (Y := List Int) (fun r o => [(0, .int .i64 (r : Int)), (3, .string (strOf o))]) (fun r o => []) (fun r o => r ≤ 1000000000000 ∧ digs k = digs r ++ o) (fun r o => r) k [] ?_ ?_ ?_ ?_
    · exact ⟨hk, by rw [List.append_nil]⟩
    · exact ⟨rfl, rfl, trivial⟩
    · exact Ext.nil _
    · intro r o hinv0
      have hol : o.length + (digs r).length ≤ 19 := by
        have h := digs_19 (n := k) (by omega)
        rw [hinv0.2, List.length_append] at h
        omega
      have hm10 := Nat.mod_lt r (show 0 < 10 by omega)
      refine Run.seq ?_
      refine Run.seq ?_
      refine Run.region ?_
      refine Ops.pure rfl (Pure.move rfl) ?_
      refine Ops.pure rfl (Pure.gtr rfl rfl) ?_
      refine Ops.nil ?_
      refine Run.cond rfl (fun c7 => ?_) (fun c7 => ?_)
      · skip
        replace c7 := dT c7
        refine Run.skip ?_
        refine Run.block ?_
        refine Run.seq ?_
        refine Run.region ?_
        refine Ops.pure rfl (Pure.move rfl) ?_
        refine Ops.pure rfl (Pure.remN (n := 10) rfl rfl (by omega)) ?_
        refine Ops.pure rfl (Pure.add rfl rfl (by omega) (by omega)) ?_
        refine Ops.pure rfl (Pure.conv (by rw [und3]; rfl) und5 rfl) ?_
        refine Ops.setv 11 rfl (congrArg (Value.int .u8) (show IntKind.u8.wrap (48 + ((r % 10 : Nat) : Int)) = ((48 + r % 10 : Nat) : Int) by rw [wrap8 (by omega) (by omega)]; omega)) ?_
        refine Ops.go rfl (Loud.lit sl103 rfl rfl rfl (by simp [Value.oneCell'])) ?_
        rintro v12 _ rfl
        refine Ops.pure rfl (Pure.toStr (l := [((48 + r % 10 : Nat) : Int)]) sl103 und5 und9 rfl (RdL.own 0 rfl)) ?_
        refine Ops.pure rfl (Pure.move rfl) ?_
        refine Ops.pure rfl (Pure.cat rfl rfl (by first | (simp only [size_strOf, List.length_cons, List.length_nil]; omega) | (rw [size_strOf]; show 1 + _ ≤ _; omega))) ?_
        refine Ops.pure rfl (Pure.assign rfl) ?_
        refine Ops.nil ?_
        refine Run.region ?_
        refine Ops.pure rfl (Pure.move rfl) ?_
        refine Ops.pure rfl (Pure.quoN (n := 10) rfl rfl (by omega) (by omega)) ?_
        refine Ops.pure rfl (Pure.assign rfl) ?_
        refine Ops.nil ?_
        refine Run.blk ?_
        refine Run.asrt ?_
        refine ⟨r / 10, ((48 + r % 10 : Nat) : Int) :: o, ⟨⟨by omega, ?_⟩, by omega⟩, ⟨rfl, congrArg (fun x => some (Value.string x)) (strOf_append [((48 + r % 10 : Nat) : Int)] o).symm, trivial⟩, Ext.nil _⟩
        rw [hinv0.2, digs_pos (n := r) (by omega), List.append_assoc]
        rfl
      · skip
        replace c7 := dF c7
        refine Run.exit rfl ?_
        refine Run.seq ?_
        refine Run.region ?_
        refine Ops.pure rfl (Pure.move rfl) ?_
        refine Ops.pure rfl (Pure.cat rfl rfl (by first | (simp only [size_strOf, List.length_cons, List.length_nil]; omega) | (rw [size_strOf]; show 1 + _ ≤ _; omega))) ?_
        refine Ops.pure rfl (Pure.assign rfl) ?_
        refine Ops.nil ?_
        refine Run.ret1 rfl rfl ?_
        have hr0 : r = 0 := by omega
        subst hr0
        have hdo : digs k = o := by rw [hinv0.2, digs_zero]; rfl
        rw [mtB_pos (by omega), hdo]
        exact congrArg Value.string (strOf_append [109] o).symm

set_option maxRecDepth 4000 in
/-- laws.eqStringS -/
theorem f_l_eqStringS (w : World) (v : Value) (u : Value) (l : List ByteArray) (m : List ByteArray) (hv : Rd w v 1 l.length (strs l)) (hu : Rd w u 1 m.length (strs m)) (hl : l.length ≤ 1048576) (hm : m.length ≤ 1048576) : RetV Try.prog 29 [v, u] w (.bool (decide (l = m))) := by
  refine Ret.enter Try.func29 rfl Try.ntmps29 rfl ?_
  refine Run.seq ?_
  refine Run.region ?_
  refine Ops.pure rfl (Pure.assign rfl) ?_
  refine Ops.nil ?_
  refine Run.seq ?_
  refine Run.seq ?_
  refine Run.region ?_
  refine Ops.pure rfl (Pure.move rfl) ?_
  refine Ops.pure rfl (Pure.len sl37 (RdL.old hv) rfl) ?_
  refine Ops.pure rfl (Pure.move rfl) ?_
  refine Ops.pure rfl (Pure.len sl37 (RdL.old hu) rfl) ?_
  refine Ops.pure rfl (Pure.neq rfl rfl) ?_
  refine Ops.nil ?_
  refine Run.cond rfl (fun c10 => ?_) (fun c10 => ?_)
  · skip
    replace c10 := nT c10
    refine Run.seq ?_
    refine Run.region ?_
    refine Ops.pure rfl (Pure.assign rfl) ?_
    refine Ops.nil ?_
    refine Run.ret1 rfl rfl ?_
    rw [decide_eq_false (by rintro rfl; exact c10 rfl)]
  · skip
    replace c10 := nF c10
    have hlen : l.length = m.length := by omega
    refine Run.skip ?_
    refine Run.seq ?_
    refine Run.seq ?_
    refine Run.region ?_
    refine Ops.pure rfl (Pure.assign rfl) ?_
    refine Ops.nil ?_
    refine Run.block ?_
    refine Run.loop (X := Nat) (fun k => [(0, v), (1, u), (5, .int .i64 k)]) (fun k => []) (fun k => k ≤ l.length ∧ ∀ j, j < k → l.getD j ByteArray.empty = m.getD j ByteArray.empty) (fun k => l.length - k) 0 ?_ ?_ ?_ ?_
    · exact ⟨by omega, by omega⟩
    · exact ⟨rfl, rfl, rfl, trivial⟩
    · exact Ext.refl _
    · intro k hinv0
      refine Run.seq ?_
      refine Run.seq ?_
      refine Run.region ?_
      refine Ops.pure rfl (Pure.move rfl) ?_
      refine Ops.pure rfl (Pure.move rfl) ?_
      refine Ops.pure rfl (Pure.len sl37 (RdL.old hv) rfl) ?_
      refine Ops.pure rfl (Pure.lss rfl rfl) ?_
      refine Ops.nil ?_
      refine Run.cond rfl (fun c14 => ?_) (fun c14 => ?_)
      · skip
        replace c14 := dT c14
        refine Run.skip ?_
        refine Run.seq ?_
        refine Run.block ?_
        refine Run.seq ?_
        refine Any.start follows ?_
        refine Any.take 0 rfl (by kernel_rfl) rfl (QOp.pure (Pure.move rfl)) ?_
        refine Any.take 1 rfl (by kernel_rfl) rfl (QOp.pure (Pure.move rfl)) ?_
        refine Any.take 2 rfl (by kernel_rfl) rfl (QOp.pure (Pure.idx1N sl37 (RdL.old hv) rfl rfl (by first | assumption | omega | (simp; omega)))) ?_
        refine Any.take 3 rfl (by kernel_rfl) rfl (QOp.pure (Pure.ld cell9 rfl (RdL.old hv) (by first | exact ints_get (by omega) | exact bools_get (by omega) | exact strs_get (by omega) | exact vals_get (by first | omega | (simp; omega))))) ?_
        refine Any.take 4 rfl (by kernel_rfl) rfl (QOp.pure (Pure.move rfl)) ?_
        refine Any.take 5 rfl (by kernel_rfl) rfl (QOp.pure (Pure.move rfl)) ?_
        refine Any.take 6 rfl (by kernel_rfl) rfl (QOp.pure (Pure.idx1N sl37 (RdL.old hu) rfl rfl (by first | assumption | omega | (simp; omega)))) ?_
        refine Any.take 7 rfl (by kernel_rfl) rfl (QOp.pure (Pure.ld cell9 rfl (RdL.old hu) (by first | exact ints_get (by omega) | exact bools_get (by omega) | exact strs_get (by omega) | exact vals_get (by first | omega | (simp; omega))))) ?_
        refine Any.take 8 rfl (by kernel_rfl) rfl (QOp.pure (Pure.neqS rfl rfl)) ?_
        refine Any.done (by kernel_rfl) ?_
        refine Run.setv 25 rfl (congrArg (fun x => Value.bool (!x)) (eqS_iff _ _)) ?_
        refine Run.cond rfl (fun c25 => ?_) (fun c25 => ?_)
        · skip
          replace c25 := nT c25
          refine Run.seq ?_
          refine Run.region ?_
          refine Ops.pure rfl (Pure.assign rfl) ?_
          refine Ops.nil ?_
          refine Run.ret1 rfl rfl ?_
          rw [decide_eq_false (by rintro rfl; exact c25 rfl)]
        · skip
          replace c25 := nF c25
          refine Run.skip ?_
          refine Run.blk ?_
          refine Run.region ?_
          refine Ops.pure rfl (Pure.move rfl) ?_
          refine Ops.pure rfl (Pure.add rfl rfl (by omega) (by omega)) ?_
          refine Ops.pure rfl (Pure.assign rfl) ?_
          refine Ops.nil ?_
          refine Run.asrt ?_
          exact ⟨k + 1, ⟨⟨by omega, fun j hj => step_lt (p := fun j => l.getD j ByteArray.empty = m.getD j ByteArray.empty) hj hinv0.2 c25⟩, by omega⟩, ⟨rfl, rfl, rfl, trivial⟩, Ext.nil _⟩
      · skip
        replace c14 := dF c14
        refine Run.exit rfl ?_
        refine Run.seq ?_
        refine Run.region ?_
        refine Ops.pure rfl (Pure.assign rfl) ?_
        refine Ops.nil ?_
        refine Run.ret1 rfl rfl ?_
        rw [decide_eq_true (ext_getD ByteArray.empty hlen (fun j hj => hinv0.2 j (by omega)))]

set_option maxRecDepth 4000 in
/-- laws.markStringS -/
theorem f_l_markStringS (w0 : World) (w : World) (v : Value) (l : List ByteArray) (k0 : Nat) (F : List Ent) (hw : Sat w0 w (.row 9 1 v l.length (strs l) :: F)) (hl : l.length ≤ 1048576) (hk1 : k0 ≤ 1000000) : RetO Try.prog 30 [v, .int .i64 k0] w0 w (fun u L => u = .int .i64 ((k0 + l.length : Nat) : Int) ∧ L = .row 9 1 v l.length (strs (marksS k0 l.length)) :: F) := by
  refine RetO.enter Try.func30 rfl Try.ntmps30 rfl hw ?_
  refine Run.seq ?_
  refine Run.region ?_
  refine Ops.pure rfl (Pure.assign rfl) ?_
  refine Ops.nil ?_
  refine Run.seq ?_
  refine Run.seq ?_
  refine Run.region ?_
  refine Ops.pure rfl (Pure.assign rfl) ?_
  refine Ops.nil ?_
  refine Run.block ?_
  refine Run.loop (X := Nat) (fun k => [(0, v), (1, .int .i64 ((k0 + k : Nat) : Int)), (5, .int .i64 k)]) (fun k => .row 9 1 v l.length (strs (markToS k0 l k)) :: F) (fun k => k ≤ l.length) (fun k => l.length - k) 0 ?_ ?_ ?_ ?_
  · exact Nat.zero_le _
  · exact ⟨rfl, rfl, rfl, trivial⟩
  · exact Ext.eq (by rw [markToS_zero])
  · intro k hinv0
    have hml : (markToS k0 l k).length = l.length := length_markToS hinv0
    have hrd : RdL w0 (.row 9 1 v l.length (strs (markToS k0 l k)) :: F) v 1 l.length (strs (markToS k0 l k)) := RdL.own 0 rfl
    have hml2 : (strs (markToS k0 l k)).length = l.length := by simp [hml]
    refine Run.seq ?_
    refine Run.seq ?_
    refine Run.region ?_
    refine Ops.pure rfl (Pure.move rfl) ?_
    refine Ops.pure rfl (Pure.move rfl) ?_
    refine Ops.pure rfl (Pure.len sl37 hrd rfl) ?_
    refine Ops.pure rfl (Pure.lss rfl rfl) ?_
    refine Ops.nil ?_
    refine Run.cond rfl (fun c9 => ?_) (fun c9 => ?_)
    · skip
      replace c9 := dT c9
      refine Run.skip ?_
      refine Run.seq ?_
      refine Run.block ?_
      refine Run.seq ?_
      refine Run.region ?_
      refine Ops.pure rfl (Pure.move rfl) ?_
      refine Ops.pure rfl (Pure.move rfl) ?_
      refine Ops.pure rfl (Pure.move rfl) ?_
      refine Ops.q rfl (QOp.call fn66 rfl (fun w hw => f_l_markText w _ (by omega))) ?_
      refine Ops.pure rfl (Pure.idx1N sl37 hrd rfl rfl (by first | assumption | omega | (simp; omega))) ?_
      refine Ops.store (Stores.row1 0 rfl size9 rfl rfl rfl (by first | assumption | omega | (simp; omega))) ?_
      refine Ops.nil ?_
      refine Run.region ?_
      refine Ops.pure rfl (Pure.move rfl) ?_
      refine Ops.pure rfl (Pure.add rfl rfl (by omega) (by omega)) ?_
      refine Ops.pure rfl (Pure.assign rfl) ?_
      refine Ops.nil ?_
      refine Run.blk ?_
      refine Run.region ?_
      refine Ops.pure rfl (Pure.move rfl) ?_
      refine Ops.pure rfl (Pure.add rfl rfl (by omega) (by omega)) ?_
      refine Ops.pure rfl (Pure.assign rfl) ?_
      refine Ops.nil ?_
      refine Run.asrt ?_
      exact ⟨k + 1, ⟨by omega, by omega⟩, ⟨rfl, by rw [show ((k0 + (k + 1) : Nat) : Int) = ((k0 + k : Nat) : Int) + 1 by omega]; rfl, rfl, trivial⟩, Ext.eq (by rw [← markToS_step (by omega)]; rfl)⟩
    · skip
      replace c9 := dF c9
      refine Run.exit rfl ?_
      refine Run.seq ?_
      refine Run.region ?_
      refine Ops.pure rfl (Pure.move rfl) ?_
      refine Ops.pure rfl (Pure.assign rfl) ?_
      refine Ops.nil ?_
      refine Run.ret1 rfl rfl ?_
      have e : k = l.length := by omega
      subst e
      exact ⟨rfl, by rw [markToS_full rfl]⟩

set_option maxRecDepth 4000 in
/-- laws.heldStringS -/
theorem f_l_heldStringS (w : World) (v : Value) (l : List ByteArray) (k0 : Nat) (hv : Rd w v 1 l.length (strs l)) (hl : l.length ≤ 1048576) (hk1 : k0 ≤ 1000000) : RetV Try.prog 31 [v, .int .i64 k0] w (.int .i64 (if l = marksS k0 l.length then ((k0 + l.length : Nat) : Int) else -1)) := by
  refine Ret.enter Try.func31 rfl Try.ntmps31 rfl ?_
  refine Run.seq ?_
  refine Run.region ?_
  refine Ops.pure rfl (Pure.assign rfl) ?_
  refine Ops.nil ?_
  refine Run.seq ?_
  refine Run.seq ?_
  refine Run.region ?_
  refine Ops.pure rfl (Pure.assign rfl) ?_
  refine Ops.nil ?_
  refine Run.block ?_
  refine Run.loop (X := Nat) (fun k => [(0, v), (1, .int .i64 ((k0 + k : Nat) : Int)), (5, .int .i64 k)]) (fun k => []) (fun k => k ≤ l.length ∧ ∀ j, j < k → l.getD j ByteArray.empty = mtB (k0 + j)) (fun k => l.length - k) 0 ?_ ?_ ?_ ?_
  · exact ⟨by omega, by omega⟩
  · exact ⟨rfl, rfl, rfl, trivial⟩
  · exact Ext.refl _
  · intro k hinv0
    refine Run.seq ?_
    refine Run.seq ?_
    refine Run.region ?_
    refine Ops.pure rfl (Pure.move rfl) ?_
    refine Ops.pure rfl (Pure.move rfl) ?_
    refine Ops.pure rfl (Pure.len sl37 (RdL.old hv) rfl) ?_
    refine Ops.pure rfl (Pure.lss rfl rfl) ?_
    refine Ops.nil ?_
    refine Run.cond rfl (fun c9 => ?_) (fun c9 => ?_)
    · skip
      replace c9 := dT c9
      refine Run.skip ?_
      refine Run.seq ?_
      refine Run.block ?_
      refine Run.seq ?_
      refine Run.seq ?_
      refine Any.start follows ?_
      refine Any.take 0 rfl (by kernel_rfl) rfl (QOp.pure (Pure.move rfl)) ?_
      refine Any.take 1 rfl (by kernel_rfl) rfl (QOp.pure (Pure.move rfl)) ?_
      refine Any.take 2 rfl (by kernel_rfl) rfl (QOp.pure (Pure.idx1N sl37 (RdL.old hv) rfl rfl (by first | assumption | omega | (simp; omega)))) ?_
      refine Any.take 3 rfl (by kernel_rfl) rfl (QOp.pure (Pure.ld cell9 rfl (RdL.old hv) (by first | exact ints_get (by omega) | exact bools_get (by omega) | exact strs_get (by omega) | exact vals_get (by first | omega | (simp; omega))))) ?_
      refine Any.take 4 rfl (by kernel_rfl) rfl (QOp.pure (Pure.move rfl)) ?_
      refine Any.take 5 rfl (by kernel_rfl) rfl (QOp.call fn66 rfl (fun w hw => f_l_markText w _ (by omega))) ?_
      refine Any.take 6 rfl (by kernel_rfl) rfl (QOp.pure (Pure.neqS rfl rfl)) ?_
      refine Any.done (by kernel_rfl) ?_
      refine Run.setv 18 rfl (congrArg (fun x => Value.bool (!x)) (eqS_iff _ _)) ?_
      refine Run.cond rfl (fun c18 => ?_) (fun c18 => ?_)
      · skip
        replace c18 := nT c18
        refine Run.seq ?_
        refine Run.region ?_
        refine Ops.pure rfl (Pure.assign rfl) ?_
        refine Ops.nil ?_
        refine Run.ret1 rfl rfl ?_
        rw [if_neg (by intro h; apply c18; rw [h, marksS_getD (by omega)])]
      · skip
        replace c18 := nF c18
        refine Run.skip ?_
        refine Run.region ?_
        refine Ops.pure rfl (Pure.move rfl) ?_
        refine Ops.pure rfl (Pure.add rfl rfl (by omega) (by omega)) ?_
        refine Ops.pure rfl (Pure.assign rfl) ?_
        refine Ops.nil ?_
        refine Run.blk ?_
        refine Run.region ?_
        refine Ops.pure rfl (Pure.move rfl) ?_
        refine Ops.pure rfl (Pure.add rfl rfl (by omega) (by omega)) ?_
        refine Ops.pure rfl (Pure.assign rfl) ?_
        refine Ops.nil ?_
        refine Run.asrt ?_
        exact ⟨k + 1, ⟨⟨by omega, fun j hj => step_lt (p := fun (j : Nat) => l.getD j ByteArray.empty = mtB (k0 + j)) hj hinv0.2 c18⟩, by omega⟩, ⟨rfl, by rw [show ((k0 + (k + 1) : Nat) : Int) = ((k0 + k : Nat) : Int) + 1 by omega]; rfl, rfl, trivial⟩, Ext.nil _⟩
    · skip
      replace c9 := dF c9
      refine Run.exit rfl ?_
      refine Run.seq ?_
      refine Run.region ?_
      refine Ops.pure rfl (Pure.move rfl) ?_
      refine Ops.pure rfl (Pure.assign rfl) ?_
      refine Ops.nil ?_
      refine Run.ret1 rfl rfl ?_
      rw [if_pos (ext_getD ByteArray.empty (length_marksS _ _).symm (fun j hj => by rw [marksS_getD hj]; exact hinv0.2 j (by omega)))]
      congr 1
      omega

theorem heldRdS {w : World} {v : Value} {k n : Nat} (h : Rd w v 1 n (strs (marksS k n))) : Rd w v 1 (marksS k n).length (strs (marksS k n)) := by rw [length_marksS]; exact h
theorem heldStringS_again (k : Nat) (l : List ByteArray) : (if marksS k l.length = marksS k (marksS k l.length).length then ((k + (marksS k l.length).length : Nat) : Int) else -1) = ((k + l.length : Nat) : Int) := by
  rw [length_marksS, if_pos rfl]

end Go.Proofs.Ytkabgeoafanmaaa
