/- Contracts of functions, printed by program from annotations. -/
import Derived.Test.YtmfinopdokkjcaaInts
import Derived.Test.YtmfinopdokkjcaaAwt
import Derived.Laws.BitsLemmas
import Derived.Laws.Bits64
namespace Go.Proofs.Ytmfinopdokkjcaa
open Go Go.AW Go.RowKit
set_option linter.unusedVariables false
set_option linter.unusedSimpArgs false

def digs (n : Nat) : List Int := if h : n = 0 then [] else digs (n / 10) ++ [((48 + n % 10 : Nat) : Int)]
termination_by n
decreasing_by omega
theorem digs_zero : digs 0 = [] := by rw [digs]; rfl
theorem digs_pos {n : Nat} (h : 0 < n) : digs n = digs (n / 10) ++ [((48 + n % 10 : Nat) : Int)] := by rw [digs, dif_neg (by omega)]
theorem digs_len : ∀ (m n : Nat), n < 10 ^ m → (digs n).length ≤ m
  | 0, n, h => by
    have : n = 0 := by omega
    subst this
    rw [digs_zero]; simp
  | m + 1, n, h => by
    rcases Nat.eq_zero_or_pos n with h0 | h0
    · subst h0; rw [digs_zero]; simp
    · rw [digs_pos h0, List.length_append]
      have h1 : n / 10 < 10 ^ m := by rw [Nat.pow_succ] at h; omega
      have := digs_len m (n / 10) h1
      simp
      omega
theorem digs_19 {n : Nat} (h : n ≤ 9223372036854775808) : (digs n).length ≤ 19 := digs_len 19 n (by omega)
theorem digs_ne {n : Nat} (h : 0 < n) : 0 < (digs n).length := by rw [digs_pos h, List.length_append]; simp
/-- the decimal text of a number -/
def decB (n : Int) : ByteArray := if n = 0 then strOf [48] else if n < 0 then strOf (45 :: digs n.natAbs) else strOf (digs n.natAbs)
theorem decB_zero : decB 0 = strOf [48] := rfl
theorem decB_neg {n : Int} (h : n < 0) : decB n = strOf (45 :: digs n.natAbs) := by unfold decB; rw [if_neg (by omega), if_pos h]
theorem decB_pos {n : Int} (h : 0 < n) : decB n = strOf (digs n.natAbs) := by unfold decB; rw [if_neg (by omega), if_neg (by omega)]
theorem decB_size {n : Int} (h0 : -9223372036854775808 ≤ n) (h1 : n ≤ 9223372036854775807) : (decB n).size ≤ 20 := by
  have := digs_19 (n := n.natAbs) (by omega)
  unfold decB
  split
  · rw [size_strOf]; simp
  · split
    · rw [size_strOf]; simp; omega
    · rw [size_strOf]; omega
theorem tmod10_pos {k : Int} (h : ¬ k.tmod 10 < 0) : k.tmod 10 = ((k.natAbs % 10 : Nat) : Int) := by
  have := Int.natAbs_tmod k 10
  have h2 : (k.tmod 10).natAbs = k.natAbs % 10 := this
  omega
theorem tmod10_neg {k : Int} (h : k.tmod 10 < 0) : -(k.tmod 10) = ((k.natAbs % 10 : Nat) : Int) := by
  have := Int.natAbs_tmod k 10
  have h2 : (k.tmod 10).natAbs = k.natAbs % 10 := this
  omega
theorem tmod10_bd (k : Int) : -9 ≤ k.tmod 10 ∧ k.tmod 10 ≤ 9 := by
  have := Int.natAbs_tmod k 10
  have h2 : (k.tmod 10).natAbs = k.natAbs % 10 := this
  have h3 := Nat.mod_lt k.natAbs (show 0 < 10 by omega)
  omega
theorem tdiv10_abs (k : Int) : (k.tdiv 10).natAbs = k.natAbs / 10 := Int.natAbs_tdiv k 10
theorem wrap_tdiv10 {k : Int} (h0 : -9223372036854775808 ≤ k) (h1 : k ≤ 9223372036854775807) : IntKind.i64.wrap (k.tdiv 10) = k.tdiv 10 := by
  have := tdiv10_abs k
  exact w64_id (by omega) (by omega)
theorem wrap8 {x : Int} (h0 : 0 ≤ x) (h1 : x ≤ 255) : IntKind.u8.wrap x = x := by rw [IntKind.wrap_u8]; omega
theorem wrapu64 {x : Int} (h0 : 0 ≤ x) (h1 : x ≤ 18446744073709551615) : IntKind.u64.wrap x = x := by rw [IntKind.wrap_u64]; omega
theorem bytes_cons (x : Int) (l : List Int) : Value.int .u8 x :: byteV l = byteV (x :: l) := rfl
theorem u64_neg {n : Int} (h : n < 0) (h0 : -9223372036854775808 ≤ n) : IntKind.u64.wrap (0 - IntKind.u64.wrap n) = (n.natAbs : Int) := by rw [IntKind.wrap_u64, IntKind.wrap_u64]; omega
theorem u64_pos {n : Int} (h : ¬ n < 0) (h1 : n ≤ 9223372036854775807) : IntKind.u64.wrap n = (n.natAbs : Int) := by rw [IntKind.wrap_u64]; omega
theorem u64_div {r : Nat} (h : r ≤ 9223372036854775808) : IntKind.u64.wrap ((r : Int).tdiv 10) = ((r / 10 : Nat) : Int) := by
  rw [show (r : Int).tdiv 10 = ((r / 10 : Nat) : Int) from rfl, IntKind.wrap_u64]; omega
theorem u8_digit (r : Nat) : IntKind.u8.wrap (IntKind.u64.wrap (48 + ((r % 10 : Nat) : Int))) = ((48 + r % 10 : Nat) : Int) := by rw [IntKind.wrap_u8, IntKind.wrap_u64]; omega
theorem box_step {m : Nat} {x : Int} {o : List Int} : (List.replicate (m + 1) (Value.int .u8 0) ++ byteV o).set m (.int .u8 x) = List.replicate m (Value.int .u8 0) ++ byteV (x :: o) := by
  rw [List.set_append, if_pos (by simp), List.replicate_succ', List.set_append, if_neg (by simp)]
  simp [AW.bytes]
theorem strOf_nil : strOf [] = ByteArray.empty := rfl

set_option maxRecDepth 4000 in
/-- spec.l01Dec -/
theorem f_s_l01Dec (w : World) (n : Int) (h0 : -9223372036854775808 ≤ n) (h1 : n ≤ 9223372036854775807) : RetV Try.prog 131 [.int .i64 n] w (.string (decB n)) := by
  refine Ret.enter Try.func131 rfl Try.ntmps131 rfl ?_
  refine Run.seq ?_
  refine Run.region ?_
  refine Ops.pure rfl (Pure.assign rfl) ?_
  refine Ops.nil ?_
  refine Run.seq ?_
  refine Run.region ?_
  refine Ops.go rfl (Loud.lit sl22 rfl rfl rfl (by simp [Value.oneCell'])) ?_
  rintro v6 _ rfl
  refine Ops.pure rfl (Pure.assign rfl) ?_
  refine Ops.nil ?_
  refine Run.seq ?_
  refine Run.seq ?_
  refine Run.region ?_
  refine Ops.pure rfl (Pure.move rfl) ?_
  refine Ops.pure rfl (Pure.assign rfl) ?_
  refine Ops.nil ?_
  refine Run.block ?_
  refine Run.loop3 (X := Int) (Y := List Int) (Z := Value) (fun k o vo => [(0, .int .i64 n), (3, vo), (4, .int .i64 k)]) (fun k o vo => [.row 5 1 vo o.length (byteV o)]) (fun k o vo => -9223372036854775808 ≤ k ∧ k ≤ 9223372036854775807 ∧ digs n.natAbs = digs k.natAbs ++ o) (fun k o vo => k.natAbs) n [] v6 ?_ ?_ ?_ ?_
  · exact ⟨h0, h1, by rw [List.append_nil]⟩
  · exact ⟨rfl, rfl, rfl, trivial⟩
  · exact Ext.eq rfl
  · intro k o vo hinv0
    have hol : o.length ≤ 19 := by
      have h := digs_19 (n := n.natAbs) (by omega)
      rw [hinv0.2.2, List.length_append] at h
      omega
    have hbd := tmod10_bd k
    have hm10 := Nat.mod_lt k.natAbs (show 0 < 10 by omega)
    refine Run.seq ?_
    refine Run.seq ?_
    refine Run.region ?_
    refine Ops.pure rfl (Pure.move rfl) ?_
    refine Ops.pure rfl (Pure.neq rfl rfl) ?_
    refine Ops.nil ?_
    refine Run.cond rfl (fun c9 => ?_) (fun c9 => ?_)
    · skip
      replace c9 := nT c9
      refine Run.skip ?_
      refine Run.seq ?_
      refine Run.block ?_
      refine Run.seq ?_
      refine Run.region ?_
      refine Ops.pure rfl (Pure.move rfl) ?_
      refine Ops.pure rfl (Pure.remW rfl rfl (by first | decide | omega)) ?_
      refine Ops.pure rfl (Pure.assign rfl) ?_
      refine Ops.nil ?_
      refine Run.seq ?_
      refine Run.seq ?_
      refine Run.region ?_
      refine Ops.pure rfl (Pure.move rfl) ?_
      refine Ops.pure rfl (Pure.lss rfl rfl) ?_
      refine Ops.nil ?_
      refine Run.cond rfl (fun c15 => ?_) (fun c15 => ?_)
      · skip
        replace c15 := dT c15
        refine Run.region ?_
        refine Ops.pure rfl (Pure.move rfl) ?_
        refine Ops.pure rfl (Pure.neg rfl (by omega) (by omega)) ?_
        refine Ops.pure rfl (Pure.assign rfl) ?_
        refine Ops.nil ?_
        first
          | refine Run.setv 5 rfl (congrArg (Value.int .i64) (tmod10_pos c15)) ?_
          | refine Run.setv 5 rfl (congrArg (Value.int .i64) (tmod10_neg c15)) ?_
        refine Run.region ?_
        refine Ops.pure rfl (Pure.move rfl) ?_
        refine Ops.pure rfl (Pure.add rfl rfl (by omega) (by omega)) ?_
        refine Ops.pure rfl (Pure.conv (by rw [und2]; rfl) und5 rfl) ?_
        refine Ops.go rfl (Loud.lit sl22 rfl rfl rfl (by simp [Value.oneCell'])) ?_
        rintro v21 _ rfl
        refine Ops.pure rfl (Pure.move rfl) ?_
        refine Ops.go rfl (Loud.append 0 rfl sl22 rfl rfl (RdL.own 1 rfl) (by simp [AW.bytes, Value.oneCell']) (by omega) (by omega)) ?_
        rintro v23 _ rfl
        refine Ops.pure rfl (Pure.assign rfl) ?_
        refine Ops.nil ?_
        refine Run.blk ?_
        refine Run.region ?_
        refine Ops.pure rfl (Pure.move rfl) ?_
        refine Ops.pure rfl (Pure.quoW rfl rfl (by first | decide | omega)) ?_
        refine Ops.pure rfl (Pure.assign rfl) ?_
        refine Ops.nil ?_
        refine Run.asrt ?_
        refine ⟨k.tdiv 10, ((48 + k.natAbs % 10 : Nat) : Int) :: o, v23, ⟨⟨?_, ?_, ?_⟩, ?_⟩, ⟨rfl, rfl, congrArg (fun x => some (Value.int .i64 x)) (wrap_tdiv10 hinv0.1 hinv0.2.1), trivial⟩, ?_⟩
        · have := tdiv10_abs k; omega
        · have := tdiv10_abs k; omega
        · rw [hinv0.2.2, digs_pos (n := k.natAbs) (by omega), tdiv10_abs, List.append_assoc]; rfl
        · have := tdiv10_abs k; omega
        · refine Ext.trans (Ext.eq ?_) (Ext.take 0 rfl (Ext.nil _))
          show [_] = [Ent.row _ _ _ _ (_ ++ byteV o)]
          rw [wrap8 (by omega) (by omega), List.length_cons, Nat.add_comm o.length 1]
          rfl
      · skip
        replace c15 := dF c15
        refine Run.skip ?_
        first
          | refine Run.setv 5 rfl (congrArg (Value.int .i64) (tmod10_pos c15)) ?_
          | refine Run.setv 5 rfl (congrArg (Value.int .i64) (tmod10_neg c15)) ?_
        refine Run.region ?_
        refine Ops.pure rfl (Pure.move rfl) ?_
        refine Ops.pure rfl (Pure.add rfl rfl (by omega) (by omega)) ?_
        refine Ops.pure rfl (Pure.conv (by rw [und2]; rfl) und5 rfl) ?_
        refine Ops.go rfl (Loud.lit sl22 rfl rfl rfl (by simp [Value.oneCell'])) ?_
        rintro v21 _ rfl
        refine Ops.pure rfl (Pure.move rfl) ?_
        refine Ops.go rfl (Loud.append 0 rfl sl22 rfl rfl (RdL.own 1 rfl) (by simp [AW.bytes, Value.oneCell']) (by omega) (by omega)) ?_
        rintro v23 _ rfl
        refine Ops.pure rfl (Pure.assign rfl) ?_
        refine Ops.nil ?_
        refine Run.blk ?_
        refine Run.region ?_
        refine Ops.pure rfl (Pure.move rfl) ?_
        refine Ops.pure rfl (Pure.quoW rfl rfl (by first | decide | omega)) ?_
        refine Ops.pure rfl (Pure.assign rfl) ?_
        refine Ops.nil ?_
        refine Run.asrt ?_
        refine ⟨k.tdiv 10, ((48 + k.natAbs % 10 : Nat) : Int) :: o, v23, ⟨⟨?_, ?_, ?_⟩, ?_⟩, ⟨rfl, rfl, congrArg (fun x => some (Value.int .i64 x)) (wrap_tdiv10 hinv0.1 hinv0.2.1), trivial⟩, ?_⟩
        · have := tdiv10_abs k; omega
        · have := tdiv10_abs k; omega
        · rw [hinv0.2.2, digs_pos (n := k.natAbs) (by omega), tdiv10_abs, List.append_assoc]; rfl
        · have := tdiv10_abs k; omega
        · refine Ext.trans (Ext.eq ?_) (Ext.take 0 rfl (Ext.nil _))
          show [_] = [Ent.row _ _ _ _ (_ ++ byteV o)]
          rw [wrap8 (by omega) (by omega), List.length_cons, Nat.add_comm o.length 1]
          rfl
    · skip
      replace c9 := nF c9
      refine Run.exit rfl ?_
      refine Run.seq ?_
      refine Run.seq ?_
      have hk0 : k = 0 := by simpa using c9
      subst hk0
      have hdo : o = digs n.natAbs := by rw [hinv0.2.2]; show o = digs 0 ++ o; rw [digs_zero]; rfl
      subst hdo
      refine Run.region ?_
      refine Ops.pure rfl (Pure.move rfl) ?_
      refine Ops.pure rfl (Pure.len sl22 (RdL.own 0 rfl) rfl) ?_
      refine Ops.pure rfl (Pure.eql rfl rfl) ?_
      refine Ops.nil ?_
      refine Run.cond rfl (fun c26 => ?_) (fun c26 => ?_)
      · skip
        replace c26 := dT c26
        have hn0 : n = 0 := by
          rcases Nat.eq_zero_or_pos n.natAbs with h | h
          · omega
          · have := digs_ne h; omega
        subst hn0
        refine Run.seq ?_
        refine Run.region ?_
        refine Ops.pure rfl (Pure.assign rfl) ?_
        refine Ops.nil ?_
        refine Run.ret1 rfl rfl ?_
        rfl
      · skip
        replace c26 := dF c26
        have hn0 : n ≠ 0 := by
          intro h
          subst h
          exact c26 (by show ((digs 0).length : Int) = 0; rw [digs_zero]; rfl)
        refine Run.skip ?_
        refine Run.seq ?_
        refine Run.seq ?_
        refine Run.region ?_
        refine Ops.pure rfl (Pure.move rfl) ?_
        refine Ops.pure rfl (Pure.lss rfl rfl) ?_
        refine Ops.nil ?_
        refine Run.cond rfl (fun c28 => ?_) (fun c28 => ?_)
        · skip
          replace c28 := dT c28
          refine Run.seq ?_
          refine Run.region ?_
          refine Ops.pure rfl (Pure.move rfl) ?_
          refine Ops.pure rfl (Pure.toStr sl22 und5 und9 rfl (RdL.own 0 rfl)) ?_
          refine Ops.pure rfl (Pure.cat rfl rfl (by (simp only [size_strOf]; first | omega | (show 1 + _ ≤ _; omega)))) ?_
          refine Ops.pure rfl (Pure.assign rfl) ?_
          refine Ops.nil ?_
          refine Run.ret1 rfl rfl ?_
          rw [decB_neg c28]
          exact congrArg Value.string (strOf_append [45] _).symm
        · skip
          replace c28 := dF c28
          refine Run.skip ?_
          refine Run.seq ?_
          refine Run.region ?_
          refine Ops.pure rfl (Pure.move rfl) ?_
          refine Ops.pure rfl (Pure.toStr sl22 und5 und9 rfl (RdL.own 0 rfl)) ?_
          refine Ops.pure rfl (Pure.assign rfl) ?_
          refine Ops.nil ?_
          refine Run.ret1 rfl rfl ?_
          rw [decB_pos (by omega)]

set_option maxRecDepth 4000 in
/-- impl.Decimal -/
theorem f_i_Decimal (w : World) (n : Int) (h0 : -9223372036854775808 ≤ n) (h1 : n ≤ 9223372036854775807) : RetV Try.prog 130 [.int .i64 n] w (.string (decB n)) := by
  refine Ret.enter Try.func130 rfl Try.ntmps130 rfl ?_
  refine Run.seq ?_
  refine Run.region ?_
  refine Ops.pure rfl (Pure.assign rfl) ?_
  refine Ops.nil ?_
  refine Run.seq ?_
  refine Run.seq ?_
  refine Run.region ?_
  refine Ops.pure rfl (Pure.move rfl) ?_
  refine Ops.pure rfl (Pure.eql rfl rfl) ?_
  refine Ops.nil ?_
  refine Run.cond rfl (fun c7 => ?_) (fun c7 => ?_)
  · skip
    replace c7 := dT c7
    refine Run.seq ?_
    refine Run.region ?_
    refine Ops.pure rfl (Pure.assign rfl) ?_
    refine Ops.nil ?_
    refine Run.ret1 rfl rfl ?_
    subst c7
    rfl
  · skip
    replace c7 := dF c7
    refine Run.skip ?_
    refine Run.seq ?_
    refine Run.region ?_
    refine Ops.pure rfl (Pure.build rfl bld193) ?_
    refine Ops.go rfl (Loud.alloc zero193 rfl) ?_
    rintro _ _ ⟨b3, rfl, rfl⟩
    refine Ops.store (Stores.box 0 rfl rfl rfl size193 (allOne rfl) rfl rfl) ?_
    refine Ops.nil ?_
    refine Run.seq ?_
    refine Run.region ?_
    refine Ops.pure rfl (Pure.assign rfl) ?_
    refine Ops.nil ?_
    refine Run.seq ?_
    refine Run.region ?_
    refine Ops.pure rfl (Pure.move rfl) ?_
    refine Ops.pure rfl (Pure.conv (by rw [und2]; rfl) und172 rfl) ?_
    refine Ops.pure rfl (Pure.assign rfl) ?_
    refine Ops.nil ?_
    refine Run.seq ?_
    refine Run.seq ?_
    refine Run.region ?_
    refine Ops.pure rfl (Pure.move rfl) ?_
    refine Ops.pure rfl (Pure.lss rfl rfl) ?_
    refine Ops.nil ?_
    refine Run.cond rfl (fun c12 => ?_) (fun c12 => ?_)
    · skip
      replace c12 := dT c12
      refine Run.region ?_
      refine Ops.pure rfl (Pure.move rfl) ?_
      refine Ops.pure rfl (Pure.negW rfl) ?_
      refine Ops.pure rfl (Pure.assign rfl) ?_
      refine Ops.nil ?_
      refine Run.seq ?_
      refine Run.block ?_
      refine Run.loop2 (X := Nat) (Y := List Int) (fun r o => [(0, .int .i64 n), (3, .pointer (some ⟨b3, 0, none⟩)), (4, .int .i64 ((20 - o.length : Nat) : Int)), (5, .int .u64 (r : Int))]) (fun r o => [.box b3 193 (List.replicate (20 - o.length) (Value.int .u8 0) ++ byteV o)]) (fun r o => r ≤ 9223372036854775808 ∧ digs n.natAbs = digs r ++ o) (fun r o => r) n.natAbs [] ?_ ?_ ?_ ?_
      · exact ⟨by omega, by rw [List.append_nil]⟩
      · first
          | exact ⟨rfl, rfl, rfl, congrArg (fun x => some (Value.int .u64 x)) (u64_neg c12 h0), trivial⟩
          | exact ⟨rfl, rfl, rfl, congrArg (fun x => some (Value.int .u64 x)) (u64_pos c12 h1), trivial⟩
      · exact Ext.eq rfl
      · intro r o hinv0
        have hol : o.length + (digs r).length ≤ 19 := by
          have h := digs_19 (n := n.natAbs) (by omega)
          rw [hinv0.2, List.length_append] at h
          omega
        have hdn := digs_ne (n := r)
        have hzl : (List.replicate (20 - o.length) (Value.int .u8 0) ++ byteV o).length = 20 := by rw [List.length_append, List.length_replicate, length_bytes]; omega
        refine Run.seq ?_
        refine Run.seq ?_
        refine Run.region ?_
        refine Ops.pure rfl (Pure.move rfl) ?_
        refine Ops.pure rfl (Pure.gtr rfl rfl) ?_
        refine Ops.nil ?_
        refine Run.cond rfl (fun c16 => ?_) (fun c16 => ?_)
        · skip
          replace c16 := dT c16
          refine Run.skip ?_
          refine Run.block ?_
          refine Run.seq ?_
          refine Run.region ?_
          refine Ops.pure rfl (Pure.move rfl) ?_
          refine Ops.pure rfl (Pure.sub rfl rfl (by omega) (by omega)) ?_
          refine Ops.pure rfl (Pure.assign rfl) ?_
          refine Ops.nil ?_
          refine Run.seq ?_
          refine Run.setv 4 rfl (congrArg (Value.int .i64) (show ((20 - o.length : Nat) : Int) - 1 = ((20 - (o.length + 1) : Nat) : Int) by omega)) ?_
          refine Run.region ?_
          refine Ops.pure rfl (Pure.move rfl) ?_
          refine Ops.pure rfl (Pure.move rfl) ?_
          refine Ops.pure rfl (Pure.remN (n := 10) rfl rfl (by omega)) ?_
          refine Ops.pure rfl (Pure.addW rfl rfl) ?_
          refine Ops.pure rfl (Pure.conv (by rw [und172]; rfl) und5 rfl) ?_
          refine Ops.pure rfl (Pure.idxArrN und193 size5 rfl rfl (by first | assumption | omega | (simp; omega))) ?_
          refine Ops.store (Stores.boxJ 0 rfl rfl rfl size5 rfl (by rw [hzl]; omega)) ?_
          refine Ops.nil ?_
          refine Run.region ?_
          refine Ops.pure rfl (Pure.move rfl) ?_
          refine Ops.pure rfl (Pure.quoW rfl rfl (by first | decide | omega)) ?_
          refine Ops.pure rfl (Pure.assign rfl) ?_
          refine Ops.nil ?_
          refine Run.blk ?_
          refine Run.asrt ?_
          refine ⟨r / 10, ((48 + r % 10 : Nat) : Int) :: o, ⟨⟨by omega, ?_⟩, by omega⟩, ⟨rfl, rfl, rfl, congrArg (fun x => some (Value.int .u64 x)) (u64_div hinv0.1), trivial⟩, Ext.eq ?_⟩
          · rw [hinv0.2, digs_pos (n := r) (by omega), List.append_assoc]; rfl
          · rw [← u8_digit, List.length_cons, ← box_step (m := 20 - (o.length + 1)), show 20 - (o.length + 1) + 1 = 20 - o.length by omega, Nat.zero_add]; rfl
        · skip
          replace c16 := dF c16
          refine Run.exit rfl ?_
          refine Run.seq ?_
          refine Run.seq ?_
          have hr0 : r = 0 := by omega
          subst hr0
          have hdo : o = digs n.natAbs := by rw [hinv0.2, digs_zero]; rfl
          rw [digs_zero] at hol
          have hol2 : o.length ≤ 19 := by simpa using hol
          refine Run.region ?_
          refine Ops.pure rfl (Pure.move rfl) ?_
          refine Ops.pure rfl (Pure.lss rfl rfl) ?_
          refine Ops.nil ?_
          refine Run.cond rfl (fun c28 => ?_) (fun c28 => ?_)
          · skip
            replace c28 := dT c28
            refine Run.seq ?_
            refine Run.region ?_
            refine Ops.pure rfl (Pure.move rfl) ?_
            refine Ops.pure rfl (Pure.sub rfl rfl (by omega) (by omega)) ?_
            refine Ops.pure rfl (Pure.assign rfl) ?_
            refine Ops.nil ?_
            refine Run.setv 4 rfl (congrArg (Value.int .i64) (show ((20 - o.length : Nat) : Int) - 1 = ((20 - (o.length + 1) : Nat) : Int) by omega)) ?_
            refine Run.region ?_
            refine Ops.pure rfl (Pure.move rfl) ?_
            refine Ops.pure rfl (Pure.idxArrN und193 size5 rfl rfl (by first | assumption | omega | (simp; omega))) ?_
            refine Ops.store (Stores.boxJ 0 rfl rfl rfl size5 rfl (by rw [hzl]; omega)) ?_
            refine Ops.nil ?_
            refine Run.seq ?_
            refine Run.region ?_
            refine Ops.pure rfl (Pure.move rfl) ?_
            refine Ops.pure rfl (Pure.sliceArr und193 size5 rfl rfl (by omega) (by omega)) ?_
            first
              | refine Ops.pure rfl (Pure.toStr sl22 und5 und9 rfl (RdL.boxTail (o := o) 0 rfl (by simp) (by simp; omega))) ?_
              | refine Ops.pure rfl (Pure.toStr sl22 und5 und9 rfl (RdL.boxTail (o := 45 :: o) (zs := List.replicate (20 - (o.length + 1)) (Value.int .u8 0)) 0 (by rw [← box_step, show 20 - (o.length + 1) + 1 = 20 - o.length by omega, Nat.zero_add]; rfl) (by simp) (by simp; omega))) ?_
            refine Ops.pure rfl (Pure.assign rfl) ?_
            refine Ops.nil ?_
            refine Run.ret1 rfl rfl ?_
            first
              | (exfalso; omega)
              | (rw [decB_neg (by assumption), ← hdo])
              | (rw [decB_pos (by omega), ← hdo])
          · skip
            replace c28 := dF c28
            refine Run.skip ?_
            refine Run.seq ?_
            refine Run.region ?_
            refine Ops.pure rfl (Pure.move rfl) ?_
            refine Ops.pure rfl (Pure.sliceArr und193 size5 rfl rfl (by omega) (by omega)) ?_
            first
              | refine Ops.pure rfl (Pure.toStr sl22 und5 und9 rfl (RdL.boxTail (o := o) 0 rfl (by simp) (by simp; omega))) ?_
              | refine Ops.pure rfl (Pure.toStr sl22 und5 und9 rfl (RdL.boxTail (o := 45 :: o) (zs := List.replicate (20 - (o.length + 1)) (Value.int .u8 0)) 0 (by rw [← box_step, show 20 - (o.length + 1) + 1 = 20 - o.length by omega, Nat.zero_add]; rfl) (by simp) (by simp; omega))) ?_
            refine Ops.pure rfl (Pure.assign rfl) ?_
            refine Ops.nil ?_
            refine Run.ret1 rfl rfl ?_
            first
              | (exfalso; omega)
              | (rw [decB_neg (by assumption), ← hdo])
              | (rw [decB_pos (by omega), ← hdo])
    · skip
      replace c12 := dF c12
      refine Run.skip ?_
      refine Run.seq ?_
      refine Run.block ?_
      refine Run.loop2 (X := Nat) (Y := List Int) (fun r o => [(0, .int .i64 n), (3, .pointer (some ⟨b3, 0, none⟩)), (4, .int .i64 ((20 - o.length : Nat) : Int)), (5, .int .u64 (r : Int))]) (fun r o => [.box b3 193 (List.replicate (20 - o.length) (Value.int .u8 0) ++ byteV o)]) (fun r o => r ≤ 9223372036854775808 ∧ digs n.natAbs = digs r ++ o) (fun r o => r) n.natAbs [] ?_ ?_ ?_ ?_
      · exact ⟨by omega, by rw [List.append_nil]⟩
      · first
          | exact ⟨rfl, rfl, rfl, congrArg (fun x => some (Value.int .u64 x)) (u64_neg c12 h0), trivial⟩
          | exact ⟨rfl, rfl, rfl, congrArg (fun x => some (Value.int .u64 x)) (u64_pos c12 h1), trivial⟩
      · exact Ext.eq rfl
      · intro r o hinv0
        have hol : o.length + (digs r).length ≤ 19 := by
          have h := digs_19 (n := n.natAbs) (by omega)
          rw [hinv0.2, List.length_append] at h
          omega
        have hdn := digs_ne (n := r)
        have hzl : (List.replicate (20 - o.length) (Value.int .u8 0) ++ byteV o).length = 20 := by rw [List.length_append, List.length_replicate, length_bytes]; omega
        refine Run.seq ?_
        refine Run.seq ?_
        refine Run.region ?_
        refine Ops.pure rfl (Pure.move rfl) ?_
        refine Ops.pure rfl (Pure.gtr rfl rfl) ?_
        refine Ops.nil ?_
        refine Run.cond rfl (fun c16 => ?_) (fun c16 => ?_)
        · skip
          replace c16 := dT c16
          refine Run.skip ?_
          refine Run.block ?_
          refine Run.seq ?_
          refine Run.region ?_
          refine Ops.pure rfl (Pure.move rfl) ?_
          refine Ops.pure rfl (Pure.sub rfl rfl (by omega) (by omega)) ?_
          refine Ops.pure rfl (Pure.assign rfl) ?_
          refine Ops.nil ?_
          refine Run.seq ?_
          refine Run.setv 4 rfl (congrArg (Value.int .i64) (show ((20 - o.length : Nat) : Int) - 1 = ((20 - (o.length + 1) : Nat) : Int) by omega)) ?_
          refine Run.region ?_
          refine Ops.pure rfl (Pure.move rfl) ?_
          refine Ops.pure rfl (Pure.move rfl) ?_
          refine Ops.pure rfl (Pure.remN (n := 10) rfl rfl (by omega)) ?_
          refine Ops.pure rfl (Pure.addW rfl rfl) ?_
          refine Ops.pure rfl (Pure.conv (by rw [und172]; rfl) und5 rfl) ?_
          refine Ops.pure rfl (Pure.idxArrN und193 size5 rfl rfl (by first | assumption | omega | (simp; omega))) ?_
          refine Ops.store (Stores.boxJ 0 rfl rfl rfl size5 rfl (by rw [hzl]; omega)) ?_
          refine Ops.nil ?_
          refine Run.region ?_
          refine Ops.pure rfl (Pure.move rfl) ?_
          refine Ops.pure rfl (Pure.quoW rfl rfl (by first | decide | omega)) ?_
          refine Ops.pure rfl (Pure.assign rfl) ?_
          refine Ops.nil ?_
          refine Run.blk ?_
          refine Run.asrt ?_
          refine ⟨r / 10, ((48 + r % 10 : Nat) : Int) :: o, ⟨⟨by omega, ?_⟩, by omega⟩, ⟨rfl, rfl, rfl, congrArg (fun x => some (Value.int .u64 x)) (u64_div hinv0.1), trivial⟩, Ext.eq ?_⟩
          · rw [hinv0.2, digs_pos (n := r) (by omega), List.append_assoc]; rfl
          · rw [← u8_digit, List.length_cons, ← box_step (m := 20 - (o.length + 1)), show 20 - (o.length + 1) + 1 = 20 - o.length by omega, Nat.zero_add]; rfl
        · skip
          replace c16 := dF c16
          refine Run.exit rfl ?_
          refine Run.seq ?_
          refine Run.seq ?_
          have hr0 : r = 0 := by omega
          subst hr0
          have hdo : o = digs n.natAbs := by rw [hinv0.2, digs_zero]; rfl
          rw [digs_zero] at hol
          have hol2 : o.length ≤ 19 := by simpa using hol
          refine Run.region ?_
          refine Ops.pure rfl (Pure.move rfl) ?_
          refine Ops.pure rfl (Pure.lss rfl rfl) ?_
          refine Ops.nil ?_
          refine Run.cond rfl (fun c28 => ?_) (fun c28 => ?_)
          · skip
            replace c28 := dT c28
            refine Run.seq ?_
            refine Run.region ?_
            refine Ops.pure rfl (Pure.move rfl) ?_
            refine Ops.pure rfl (Pure.sub rfl rfl (by omega) (by omega)) ?_
            refine Ops.pure rfl (Pure.assign rfl) ?_
            refine Ops.nil ?_
            refine Run.setv 4 rfl (congrArg (Value.int .i64) (show ((20 - o.length : Nat) : Int) - 1 = ((20 - (o.length + 1) : Nat) : Int) by omega)) ?_
            refine Run.region ?_
            refine Ops.pure rfl (Pure.move rfl) ?_
            refine Ops.pure rfl (Pure.idxArrN und193 size5 rfl rfl (by first | assumption | omega | (simp; omega))) ?_
            refine Ops.store (Stores.boxJ 0 rfl rfl rfl size5 rfl (by rw [hzl]; omega)) ?_
            refine Ops.nil ?_
            refine Run.seq ?_
            refine Run.region ?_
            refine Ops.pure rfl (Pure.move rfl) ?_
            refine Ops.pure rfl (Pure.sliceArr und193 size5 rfl rfl (by omega) (by omega)) ?_
            first
              | refine Ops.pure rfl (Pure.toStr sl22 und5 und9 rfl (RdL.boxTail (o := o) 0 rfl (by simp) (by simp; omega))) ?_
              | refine Ops.pure rfl (Pure.toStr sl22 und5 und9 rfl (RdL.boxTail (o := 45 :: o) (zs := List.replicate (20 - (o.length + 1)) (Value.int .u8 0)) 0 (by rw [← box_step, show 20 - (o.length + 1) + 1 = 20 - o.length by omega, Nat.zero_add]; rfl) (by simp) (by simp; omega))) ?_
            refine Ops.pure rfl (Pure.assign rfl) ?_
            refine Ops.nil ?_
            refine Run.ret1 rfl rfl ?_
            first
              | (exfalso; omega)
              | (rw [decB_neg (by assumption), ← hdo])
              | (rw [decB_pos (by omega), ← hdo])
          · skip
            replace c28 := dF c28
            refine Run.skip ?_
            refine Run.seq ?_
            refine Run.region ?_
            refine Ops.pure rfl (Pure.move rfl) ?_
            refine Ops.pure rfl (Pure.sliceArr und193 size5 rfl rfl (by omega) (by omega)) ?_
            first
              | refine Ops.pure rfl (Pure.toStr sl22 und5 und9 rfl (RdL.boxTail (o := o) 0 rfl (by simp) (by simp; omega))) ?_
              | refine Ops.pure rfl (Pure.toStr sl22 und5 und9 rfl (RdL.boxTail (o := 45 :: o) (zs := List.replicate (20 - (o.length + 1)) (Value.int .u8 0)) 0 (by rw [← box_step, show 20 - (o.length + 1) + 1 = 20 - o.length by omega, Nat.zero_add]; rfl) (by simp) (by simp; omega))) ?_
            refine Ops.pure rfl (Pure.assign rfl) ?_
            refine Ops.nil ?_
            refine Run.ret1 rfl rfl ?_
            first
              | (exfalso; omega)
              | (rw [decB_neg (by assumption), ← hdo])
              | (rw [decB_pos (by omega), ← hdo])

end Go.Proofs.Ytmfinopdokkjcaa
