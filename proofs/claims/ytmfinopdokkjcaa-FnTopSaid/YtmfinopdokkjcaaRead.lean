/- Contracts of functions, printed by program from annotations. -/
import Derived.Test.YtmfinopdokkjcaaText
namespace Go.Proofs.Ytmfinopdokkjcaa
open Go Go.AW Go.RowKit
set_option linter.unusedVariables false
set_option linter.unusedSimpArgs false

/-- a byte of a text -/
def bAt (s : ByteArray) (i : Nat) : Int := ((s.data.toList.getD i 0).toNat : Int)
theorem bAt_bd (s : ByteArray) (i : Nat) : 0 ≤ bAt s i ∧ bAt s i ≤ 255 := by
  unfold bAt
  have := (s.data.toList.getD i 0).toNat_lt
  omega
theorem eqS_iff (a b : ByteArray) : (a.toList == b.toList) = decide (a = b) := by
  rw [ByteArray.toList_eq, ByteArray.toList_eq]
  by_cases h : a = b
  · subst h
    rw [decide_eq_true rfl]
    exact beq_iff_eq.2 rfl
  · rw [decide_eq_false h]
    refine beq_eq_false_iff_ne.2 fun e => h ?_
    cases a with
    | mk x =>
      cases b with
      | mk y =>
        congr 1
        exact Array.ext' e
theorem empty_iff (a : ByteArray) : (a.toList == (⟨#[]⟩ : ByteArray).toList) = decide ((a.size : Int) = 0) := by
  rw [eqS_iff]
  by_cases h : a.size = 0
  · rw [decide_eq_true (by omega : (a.size : Int) = 0)]
    refine decide_eq_true ?_
    cases a with
    | mk d =>
      congr 1
      exact Array.eq_empty_of_size_eq_zero h
  · rw [decide_eq_false (by omega : ¬ (a.size : Int) = 0)]
    refine decide_eq_false fun e => h ?_
    rw [e]
    rfl
theorem strs_append (a b : List ByteArray) : strs (a ++ b) = strs a ++ strs b := List.map_append
/-- what lies behind the last byte c ahead of place i, and the parts ahead of it -/
def spl (s : ByteArray) (c : Int) : Nat → Nat × List ByteArray
  | 0 => (0, [])
  | i + 1 => if bAt s i = c then (i + 1, (spl s c i).2 ++ [s.extract (spl s c i).1 i]) else spl s c i
theorem spl_yes {s : ByteArray} {c : Int} {i : Nat} (h : bAt s i = c) : spl s c (i + 1) = (i + 1, (spl s c i).2 ++ [s.extract (spl s c i).1 i]) := by
  show (if _ then _ else _) = _
  rw [if_pos h]
theorem spl_no {s : ByteArray} {c : Int} {i : Nat} (h : ¬ bAt s i = c) : spl s c (i + 1) = spl s c i := by
  show (if _ then _ else _) = _
  rw [if_neg h]
theorem spl_bd (s : ByteArray) (c : Int) : ∀ i, (spl s c i).1 ≤ i ∧ (spl s c i).2.length ≤ i ∧ ∀ p ∈ (spl s c i).2, p.size ≤ s.size
  | 0 => ⟨Nat.le_refl _, Nat.le_refl _, fun p hp => by simp [spl] at hp⟩
  | i + 1 => by
    obtain ⟨h1, h2, h3⟩ := spl_bd s c i
    by_cases h : bAt s i = c
    · rw [spl_yes h]
      refine ⟨Nat.le_refl _, by simp; omega, fun p hp => ?_⟩
      rcases List.mem_append.1 hp with hp | hp
      · exact h3 p hp
      · rw [List.mem_singleton.1 hp, ByteArray.size_extract]; omega
    · rw [spl_no h]; exact ⟨by omega, by omega, h3⟩
/-- the parts of a text between the bytes c -/
def splitB (s : ByteArray) (c : Int) : List ByteArray := (spl s c s.size).2 ++ [s.extract (spl s c s.size).1 s.size]
theorem splitB_len (s : ByteArray) (c : Int) : 1 ≤ (splitB s c).length ∧ (splitB s c).length ≤ s.size + 1 := by
  have := (spl_bd s c s.size).2.1
  unfold splitB
  rw [List.length_append, List.length_singleton]
  omega
theorem splitB_mem {s : ByteArray} {c : Int} {p : ByteArray} (h : p ∈ splitB s c) : p.size ≤ s.size := by
  unfold splitB at h
  rcases List.mem_append.1 h with h | h
  · exact (spl_bd s c s.size).2.2 p h
  · rw [List.mem_singleton.1 h, ByteArray.size_extract]; omega
theorem splitB_at {s : ByteArray} {c : Int} {k : Nat} (h : k < (splitB s c).length) : ((splitB s c).getD k ByteArray.empty).size ≤ s.size := splitB_mem (c := c) (by simp [List.getD, List.getElem?_eq_getElem h])
/-- the first place that passes a test, from a place on -/
def firstF (P : Nat → Bool) : Nat → Nat → Option Nat
  | 0, _ => none
  | n + 1, i => if P i then some i else firstF P n (i + 1)
theorem firstF_some {P : Nat → Bool} : ∀ {n i k : Nat}, i ≤ k → k < i + n → P k = true → (∀ j, i ≤ j → j < k → P j = false) → firstF P n i = some k
  | 0, i, k, h1, h2, _, _ => by omega
  | n + 1, i, k, h1, h2, h3, h4 => by
    show (if P i then some i else firstF P n (i + 1)) = some k
    rcases Nat.eq_or_lt_of_le h1 with rfl | h5
    · rw [if_pos h3]
    · rw [if_neg (by rw [h4 i (Nat.le_refl _) h5]; decide)]
      exact firstF_some (by omega) (by omega) h3 (fun j h6 h7 => h4 j (by omega) h7)
theorem firstF_none {P : Nat → Bool} : ∀ {n i : Nat}, (∀ j, i ≤ j → j < i + n → P j = false) → firstF P n i = none
  | 0, _, _ => rfl
  | n + 1, i, h => by
    show (if P i then some i else firstF P n (i + 1)) = none
    rw [if_neg (by rw [h i (Nat.le_refl _) (by omega)]; decide)]
    exact firstF_none (fun j h1 h2 => h j (by omega) (by omega))
theorem firstF_spec {P : Nat → Bool} : ∀ {n i k : Nat}, firstF P n i = some k → i ≤ k ∧ k < i + n ∧ P k = true ∧ ∀ j, i ≤ j → j < k → P j = false
  | 0, i, k, h => by cases h
  | n + 1, i, k, h => by
    have h' : (if P i then some i else firstF P n (i + 1)) = some k := h
    by_cases hp : P i = true
    · rw [if_pos hp] at h'
      cases h'
      exact ⟨Nat.le_refl _, by omega, hp, fun j h1 h2 => by omega⟩
    · rw [if_neg hp] at h'
      obtain ⟨h1, h2, h3, h4⟩ := firstF_spec h'
      refine ⟨by omega, by omega, h3, fun j h5 h6 => ?_⟩
      rcases Nat.eq_or_lt_of_le h5 with rfl | h7
      · simpa using hp
      · exact h4 j h7 h6
/-- the place of the first byte c, or -1 -/
def plcB (s : ByteArray) (c : Int) : Int := match firstF (fun i => decide (bAt s i = c)) s.size 0 with
  | some i => (i : Int)
  | none => -1
theorem plcB_at {s : ByteArray} {c : Int} {i : Nat} (h1 : i < s.size) (h2 : bAt s i = c) (h3 : ∀ j, j < i → ¬ bAt s j = c) : plcB s c = i := by
  unfold plcB
  rw [firstF_some (k := i) (Nat.zero_le _) (by omega) (decide_eq_true h2) (fun j _ hj => decide_eq_false (h3 j hj))]
theorem plcB_none {s : ByteArray} {c : Int} (h3 : ∀ j, j < s.size → ¬ bAt s j = c) : plcB s c = -1 := by
  unfold plcB
  rw [firstF_none (fun j _ hj => decide_eq_false (h3 j (by omega)))]
theorem plcB_bd (s : ByteArray) (c : Int) : -1 ≤ plcB s c ∧ plcB s c < s.size ∧ (0 ≤ plcB s c → bAt s (plcB s c).toNat = c ∧ ∀ j, j < (plcB s c).toNat → ¬ bAt s j = c) := by
  unfold plcB
  cases h : firstF (fun i => decide (bAt s i = c)) s.size 0 with
  | none => exact ⟨by show (-1 : Int) ≤ -1; omega, by show (-1 : Int) < s.size; omega, fun hh => by exfalso; revert hh; show (0 : Int) ≤ -1 → False; omega⟩
  | some k =>
    obtain ⟨h1, h2, h3, h4⟩ := firstF_spec h
    refine ⟨by show (-1 : Int) ≤ k; omega, by show (k : Int) < s.size; omega, fun _ => ⟨of_decide_eq_true h3, fun j hj => of_decide_eq_false (h4 j (Nat.zero_le _) hj)⟩⟩
def p10 (k : Nat) : Nat := 10 ^ k
theorem p10_succ (k : Nat) : p10 (k + 1) = 10 * p10 k := by unfold p10; rw [Nat.pow_succ]; omega
theorem p10_mono {i k : Nat} (h : i ≤ k) : p10 i ≤ p10 k := Nat.pow_le_pow_right (by omega) h
theorem p10_18 : p10 18 = 1000000000000000000 := rfl
theorem p10_17 : p10 17 = 100000000000000000 := rfl
/-- the number of the first digits -/
def numB (t : ByteArray) : Nat → Int
  | 0 => 0
  | i + 1 => 10 * numB t i + (bAt t i - 48)
def digB (t : ByteArray) (i : Nat) : Prop := 48 ≤ bAt t i ∧ bAt t i ≤ 57
instance (t : ByteArray) (i : Nat) : Decidable (digB t i) := by unfold digB; infer_instance
theorem numB_bd {t : ByteArray} : ∀ k, (∀ j, j < k → digB t j) → 0 ≤ numB t k ∧ numB t k < p10 k
  | 0, _ => ⟨Int.le_refl _, by show (0 : Int) < ((p10 0 : Nat) : Int); decide⟩
  | k + 1, h => by
    have h1 := numB_bd k (fun j hj => h j (by omega))
    have h2 := h k (by omega)
    have h3 := p10_succ k
    unfold digB at h2
    show 0 ≤ 10 * numB t k + (bAt t k - 48) ∧ 10 * numB t k + (bAt t k - 48) < p10 (k + 1)
    omega
/-- the digits of a number's text -/
def digT (s : ByteArray) : ByteArray := if 0 < (s.size : Int) ∧ bAt s 0 = 45 then s.extract 1 s.size else s
def sgnN (s : ByteArray) : Int := if ((digT s).size : Int) < s.size then -(numB (digT s) (digT s).size) else numB (digT s) (digT s).size
def rdOk (s : ByteArray) : Prop := (1 ≤ (digT s).size ∧ (digT s).size ≤ 18) ∧ (∀ i, i < (digT s).size → digB (digT s) i) ∧ decB (sgnN s) = s
instance (s : ByteArray) : Decidable (rdOk s) := by unfold rdOk; infer_instance
/-- a number read from its text, and whether there is one -/
def rdN (s : ByteArray) : Int := if rdOk s then sgnN s else 0
def rdB (s : ByteArray) : Bool := decide (rdOk s)
theorem rd_ok {s : ByteArray} (h : rdOk s) : rdN s = sgnN s ∧ rdB s = true := by unfold rdN rdB; rw [if_pos h]; exact ⟨rfl, decide_eq_true h⟩
theorem rd_no {s : ByteArray} (h : ¬ rdOk s) : rdN s = 0 ∧ rdB s = false := by unfold rdN rdB; rw [if_neg h]; exact ⟨rfl, decide_eq_false h⟩
theorem digT_yes {s : ByteArray} (h : 0 < (s.size : Int) ∧ bAt s 0 = 45) : digT s = s.extract 1 s.size := by unfold digT; rw [if_pos h]
theorem digT_no {s : ByteArray} (h : ¬ (0 < (s.size : Int) ∧ bAt s 0 = 45)) : digT s = s := by unfold digT; rw [if_neg h]
theorem digT_size (s : ByteArray) : (digT s).size ≤ s.size := by
  unfold digT
  split
  · rw [ByteArray.size_extract]; omega
  · exact Nat.le_refl _
theorem rd_true {s : ByteArray} (h : rdB s = true) : rdOk s := of_decide_eq_true h
attribute [irreducible] rdB rdN splitB plcB

set_option maxRecDepth 4000 in
/-- impl.splitAt -/
theorem f_i_splitAt (w : World) (s : ByteArray) (c : Int) (hs : s.size ≤ 1048576) : Ret Try.prog 102 [.string s, .int .u8 c] w (fun u L => L = [.row 9 1 u (splitB s c).length (strs (splitB s c))]) := by
  refine Ret.enter Try.func102 rfl Try.ntmps102 rfl ?_
  refine Run.seq ?_
  refine Run.region ?_
  refine Ops.pure rfl (Pure.assign rfl) ?_
  refine Ops.nil ?_
  refine Run.seq ?_
  refine Run.region ?_
  refine Ops.go rfl (Loud.lit sl58 rfl rfl rfl (by simp [Value.oneCell'])) ?_
  rintro v8 _ rfl
  refine Ops.pure rfl (Pure.assign rfl) ?_
  refine Ops.nil ?_
  refine Run.seq ?_
  refine Run.region ?_
  refine Ops.pure rfl (Pure.assign rfl) ?_
  refine Ops.nil ?_
  refine Run.seq ?_
  refine Run.seq ?_
  refine Run.region ?_
  refine Ops.pure rfl (Pure.move rfl) ?_
  refine Ops.pure rfl (Pure.lenS und9 rfl) ?_
  refine Ops.pure rfl (Pure.move rfl) ?_
  refine Ops.nil ?_
  refine Run.block ?_
  refine Run.loop2 (X := Nat) (Y := Value) (fun i vo => [(0, .string s), (1, .int .u8 c), (5, vo), (6, .int .i64 ((spl s c i).1 : Int)), (10, .int .i64 s.size), (11, .int .i64 i)]) (fun i vo => [.row 9 1 vo (spl s c i).2.length (strs (spl s c i).2)]) (fun i vo => i ≤ s.size) (fun i vo => s.size - i) 0 v8 ?_ ?_ ?_ ?_
  · exact Nat.zero_le _
  · exact ⟨rfl, rfl, rfl, rfl, rfl, rfl, trivial⟩
  · exact Ext.eq rfl
  · intro i vo hinv0
    have hsb := spl_bd s c i
    refine Run.seq ?_
    refine Run.region ?_
    refine Ops.pure rfl (Pure.lss rfl rfl) ?_
    refine Ops.nil ?_
    refine Run.seq ?_
    refine Run.cond rfl (fun c12 => ?_) (fun c12 => ?_)
    · skip
      replace c12 := dT c12
      refine Run.skip ?_
      refine Run.seq ?_
      refine Run.block ?_
      refine Run.seq ?_
      refine Run.region ?_
      refine Ops.pure rfl (Pure.move rfl) ?_
      refine Ops.pure rfl (Pure.assign rfl) ?_
      refine Ops.nil ?_
      refine Run.seq ?_
      refine Run.region ?_
      refine Ops.pure rfl (Pure.move rfl) ?_
      refine Ops.pure rfl (Pure.move rfl) ?_
      refine Ops.pure rfl (Pure.idxSN und9 rfl rfl (by first | assumption | omega | (simp; omega))) ?_
      refine Ops.pure rfl (Pure.move rfl) ?_
      refine Ops.pure rfl (Pure.eql rfl rfl) ?_
      refine Ops.nil ?_
      refine Run.cond rfl (fun c18 => ?_) (fun c18 => ?_)
      · skip
        replace c18 := dT c18
        refine Run.seq ?_
        refine Run.region ?_
        refine Ops.pure rfl (Pure.move rfl) ?_
        refine Ops.pure rfl (Pure.move rfl) ?_
        refine Ops.pure rfl (Pure.move rfl) ?_
        refine Ops.pure rfl (Pure.move rfl) ?_
        refine Ops.pure rfl (Pure.strLH und9 rfl rfl rfl (by omega) (by omega) (by omega)) ?_
        refine Ops.go rfl (Loud.lit sl58 rfl rfl rfl (by simp [Value.oneCell'])) ?_
        rintro v24 _ rfl
        refine Ops.go rfl (Loud.append 1 rfl sl58 rfl rfl (RdL.own 0 rfl) (by simp [Value.oneCell']) (by omega) (by omega)) ?_
        rintro v25 _ rfl
        refine Ops.pure rfl (Pure.assign rfl) ?_
        refine Ops.nil ?_
        refine Run.region ?_
        refine Ops.pure rfl (Pure.move rfl) ?_
        refine Ops.pure rfl (Pure.add rfl rfl (by omega) (by omega)) ?_
        refine Ops.pure rfl (Pure.assign rfl) ?_
        refine Ops.nil ?_
        refine Run.blk ?_
        refine Run.region ?_
        refine Ops.pure rfl (Pure.add rfl rfl (by omega) (by omega)) ?_
        refine Ops.pure rfl (Pure.move rfl) ?_
        refine Ops.nil ?_
        refine Run.asrt ?_
        first
          | (refine ⟨i + 1, v25, ⟨by omega, by omega⟩, ⟨rfl, rfl, rfl, by rw [spl_yes (show bAt s i = c from c18)]; rfl, rfl, rfl, trivial⟩, Ext.trans (Ext.eq ?_) (Ext.take 1 rfl (Ext.nil _))⟩
             rw [spl_yes (show bAt s i = c from c18), strs, List.map_append, List.length_append]
             rfl)
          | (refine ⟨i + 1, vo, ⟨by omega, by omega⟩, ⟨rfl, rfl, rfl, by rw [spl_no (show ¬ bAt s i = c from c18)]; rfl, rfl, rfl, trivial⟩, Ext.eq ?_⟩
             rw [spl_no (show ¬ bAt s i = c from c18)])
      · skip
        replace c18 := dF c18
        refine Run.skip ?_
        refine Run.blk ?_
        refine Run.region ?_
        refine Ops.pure rfl (Pure.add rfl rfl (by omega) (by omega)) ?_
        refine Ops.pure rfl (Pure.move rfl) ?_
        refine Ops.nil ?_
        refine Run.asrt ?_
        first
          | (refine ⟨i + 1, v25, ⟨by omega, by omega⟩, ⟨rfl, rfl, rfl, by rw [spl_yes (show bAt s i = c from c18)]; rfl, rfl, rfl, trivial⟩, Ext.trans (Ext.eq ?_) (Ext.take 1 rfl (Ext.nil _))⟩
             rw [spl_yes (show bAt s i = c from c18), strs, List.map_append, List.length_append]
             rfl)
          | (refine ⟨i + 1, vo, ⟨by omega, by omega⟩, ⟨rfl, rfl, rfl, by rw [spl_no (show ¬ bAt s i = c from c18)]; rfl, rfl, rfl, trivial⟩, Ext.eq ?_⟩
             rw [spl_no (show ¬ bAt s i = c from c18)])
    · skip
      replace c12 := dF c12
      refine Run.exit rfl ?_
      refine Run.seq ?_
      refine Run.region ?_
      refine Ops.pure rfl (Pure.move rfl) ?_
      refine Ops.pure rfl (Pure.move rfl) ?_
      refine Ops.pure rfl (Pure.move rfl) ?_
      refine Ops.pure rfl (Pure.strL und9 rfl rfl (by omega) (by omega)) ?_
      refine Ops.go rfl (Loud.lit sl58 rfl rfl rfl (by simp [Value.oneCell'])) ?_
      rintro v33 _ rfl
      refine Ops.go rfl (Loud.append 1 rfl sl58 rfl rfl (RdL.own 0 rfl) (by simp [Value.oneCell']) (by omega) (by omega)) ?_
      rintro v34 _ rfl
      refine Ops.pure rfl (Pure.assign rfl) ?_
      refine Ops.nil ?_
      refine Run.ext_ (Ext.take 1 rfl (Ext.nil _)) ?_
      refine Run.ret1 rfl rfl ?_
      have e : i = s.size := by omega
      subst e
      unfold splitB
      rw [List.length_append, strs_append]
      try rfl

set_option maxRecDepth 4000 in
/-- impl.ReadDecimal -/
theorem f_i_ReadDecimal (w : World) (s : ByteArray) (hs : s.size ≤ 1048576) : RetV Try.prog 103 [.string s] w (.tuple #[.int .i64 (rdN s), .bool (rdB s)]) := by
  refine Ret.enter Try.func103 rfl Try.ntmps103 rfl ?_
  refine Run.seq ?_
  refine Run.region ?_
  refine Ops.pure rfl (Pure.assign rfl) ?_
  refine Ops.pure rfl (Pure.assign rfl) ?_
  refine Ops.nil ?_
  refine Run.seq ?_
  refine Run.region ?_
  refine Ops.pure rfl (Pure.move rfl) ?_
  refine Ops.pure rfl (Pure.assign rfl) ?_
  refine Ops.nil ?_
  refine Run.seq ?_
  refine Run.seq ?_
  refine Run.region ?_
  refine Ops.pure rfl (Pure.move rfl) ?_
  refine Ops.pure rfl (Pure.lenS und9 rfl) ?_
  refine Ops.pure rfl (Pure.gtr rfl rfl) ?_
  refine Ops.pure rfl (Pure.move rfl) ?_
  refine Ops.guard rfl rfl rfl rfl (fun c11 => ?_) (fun c11 => ?_)
  · skip
    have c11' := dT c11
    refine Ops.pure rfl (Pure.move rfl) ?_
    refine Ops.guardY rfl rfl rfl c11 ?_
    refine Ops.pure rfl (Pure.idxSN und9 rfl rfl (by first | assumption | omega | (simp; omega))) ?_
    refine Ops.guardY rfl rfl rfl c11 ?_
    refine Ops.pure rfl (Pure.eql rfl rfl) ?_
    refine Ops.pure rfl (Pure.pickT rfl c11 rfl) ?_
    refine Ops.nil ?_
    refine Run.cond rfl (fun c15 => ?_) (fun c15 => ?_)
    · skip
      replace c15 := dT c15
      refine Run.region ?_
      refine Ops.pure rfl (Pure.move rfl) ?_
      refine Ops.pure rfl (Pure.strL und9 rfl rfl (by omega) (by omega)) ?_
      refine Ops.pure rfl (Pure.assign rfl) ?_
      refine Ops.nil ?_
      refine Run.seq ?_
      refine Run.seq ?_
      first
        | refine Run.setv 4 rfl (congrArg Value.string (digT_yes ⟨by omega, c15⟩).symm) ?_
        | refine Run.setv 4 rfl (congrArg Value.string (digT_no (fun h => c15 h.2)).symm) ?_
        | refine Run.setv 4 rfl (congrArg Value.string (digT_no (fun h => by omega)).symm) ?_
      have hds := digT_size s
      refine Run.region ?_
      refine Ops.pure rfl (Pure.move rfl) ?_
      refine Ops.pure rfl (Pure.lenS und9 rfl) ?_
      refine Ops.pure rfl (Pure.lss rfl rfl) ?_
      refine Ops.pure rfl (Pure.move rfl) ?_
      refine Ops.guard rfl rfl rfl rfl (fun c21 => ?_) (fun c21 => ?_)
      · skip
        have c21' := dF c21
        refine Ops.pure rfl (Pure.move rfl) ?_
        refine Ops.guardY rfl rfl rfl c21 ?_
        refine Ops.pure rfl (Pure.lenS und9 rfl) ?_
        refine Ops.guardY rfl rfl rfl c21 ?_
        refine Ops.pure rfl (Pure.gtr rfl rfl) ?_
        refine Ops.pure rfl (Pure.pickF rfl c21 rfl) ?_
        refine Ops.nil ?_
        refine Run.cond rfl (fun c25 => ?_) (fun c25 => ?_)
        · skip
          replace c25 := dT c25
          refine Run.seq ?_
          refine Run.region ?_
          refine Ops.pure rfl (Pure.assign rfl) ?_
          refine Ops.pure rfl (Pure.assign rfl) ?_
          refine Ops.nil ?_
          refine Run.ret2 rfl rfl rfl ?_
          have hno : ¬ rdOk s := fun h => by have := h.1; omega
          rw [(rd_no hno).1, (rd_no hno).2]
        · skip
          replace c25 := dF c25
          refine Run.skip ?_
          refine Run.seq ?_
          refine Run.region ?_
          refine Ops.pure rfl (Pure.assign rfl) ?_
          refine Ops.nil ?_
          refine Run.seq ?_
          refine Run.seq ?_
          refine Run.region ?_
          refine Ops.pure rfl (Pure.move rfl) ?_
          refine Ops.pure rfl (Pure.lenS und9 rfl) ?_
          refine Ops.pure rfl (Pure.move rfl) ?_
          refine Ops.nil ?_
          refine Run.block ?_
          refine Run.loop (X := Nat) (fun k => [(0, .string s), (4, .string (digT s)), (5, .int .i64 (numB (digT s) k)), (27, .int .i64 (digT s).size), (28, .int .i64 k)]) (fun k => []) (fun k => k ≤ (digT s).size ∧ ∀ j, j < k → digB (digT s) j) (fun k => (digT s).size - k) 0 ?_ ?_ ?_ ?_
          · exact ⟨Nat.zero_le _, by omega⟩
          · exact ⟨rfl, rfl, rfl, rfl, rfl, trivial⟩
          · exact Ext.nil _
          · intro k hinv0
            have hnb := numB_bd k hinv0.2
            have hpm := p10_mono (show k ≤ 18 by omega)
            rw [p10_18] at hpm
            have hbb := bAt_bd (digT s) k
            have hbd : bAt (digT s) k = (((digT s).data.toList.getD k 0).toNat : Int) := rfl
            refine Run.seq ?_
            refine Run.region ?_
            refine Ops.pure rfl (Pure.lss rfl rfl) ?_
            refine Ops.nil ?_
            refine Run.seq ?_
            refine Run.cond rfl (fun c29 => ?_) (fun c29 => ?_)
            · skip
              replace c29 := dT c29
              refine Run.skip ?_
              refine Run.seq ?_
              refine Run.block ?_
              refine Run.seq ?_
              refine Run.region ?_
              refine Ops.pure rfl (Pure.move rfl) ?_
              refine Ops.pure rfl (Pure.assign rfl) ?_
              refine Ops.nil ?_
              refine Run.seq ?_
              refine Run.seq ?_
              refine Run.region ?_
              refine Ops.pure rfl (Pure.move rfl) ?_
              refine Ops.pure rfl (Pure.move rfl) ?_
              refine Ops.pure rfl (Pure.idxSN und9 rfl rfl (by first | assumption | omega | (simp; omega))) ?_
              refine Ops.pure rfl (Pure.lss rfl rfl) ?_
              refine Ops.pure rfl (Pure.move rfl) ?_
              refine Ops.guard rfl rfl rfl rfl (fun c35 => ?_) (fun c35 => ?_)
              · skip
                have c35' := dF c35
                refine Ops.pure rfl (Pure.move rfl) ?_
                refine Ops.guardY rfl rfl rfl c35 ?_
                refine Ops.pure rfl (Pure.move rfl) ?_
                refine Ops.guardY rfl rfl rfl c35 ?_
                refine Ops.pure rfl (Pure.idxSN und9 rfl rfl (by first | assumption | omega | (simp; omega))) ?_
                refine Ops.guardY rfl rfl rfl c35 ?_
                refine Ops.pure rfl (Pure.gtr rfl rfl) ?_
                refine Ops.pure rfl (Pure.pickF rfl c35 rfl) ?_
                refine Ops.nil ?_
                refine Run.cond rfl (fun c40 => ?_) (fun c40 => ?_)
                · skip
                  replace c40 := dT c40
                  refine Run.seq ?_
                  refine Run.region ?_
                  refine Ops.pure rfl (Pure.assign rfl) ?_
                  refine Ops.pure rfl (Pure.assign rfl) ?_
                  refine Ops.nil ?_
                  refine Run.ret2 rfl rfl rfl ?_
                  have hno : ¬ rdOk s := fun h => by
                    have := h.2.1 k (by omega)
                    unfold digB at this
                    omega
                  rw [(rd_no hno).1, (rd_no hno).2]
                · skip
                  replace c40 := dF c40
                  refine Run.skip ?_
                  have hpm2 := p10_mono (show k ≤ 17 by omega)
                  rw [p10_17] at hpm2
                  refine Run.region ?_
                  refine Ops.pure rfl (Pure.move rfl) ?_
                  refine Ops.pure rfl (Pure.mul rfl rfl (by omega) (by omega)) ?_
                  refine Ops.pure rfl (Pure.move rfl) ?_
                  refine Ops.pure rfl (Pure.move rfl) ?_
                  refine Ops.pure rfl (Pure.idxSN und9 rfl rfl (by first | assumption | omega | (simp; omega))) ?_
                  refine Ops.pure rfl (Pure.subW rfl rfl) ?_
                  refine Ops.setv 46 rfl (congrArg (Value.int .u8) (wrap8 (by omega) (by omega))) ?_
                  refine Ops.pure rfl (Pure.conv64 (by rw [und5]; rfl) und2 rfl (by omega) (by omega)) ?_
                  refine Ops.pure rfl (Pure.add rfl rfl (by omega) (by omega)) ?_
                  refine Ops.pure rfl (Pure.assign rfl) ?_
                  refine Ops.nil ?_
                  refine Run.blk ?_
                  refine Run.region ?_
                  refine Ops.pure rfl (Pure.add rfl rfl (by omega) (by omega)) ?_
                  refine Ops.pure rfl (Pure.move rfl) ?_
                  refine Ops.nil ?_
                  refine Run.asrt ?_
                  exact ⟨k + 1, ⟨⟨by omega, fun j hj => step_lt (p := fun j => digB (digT s) j) hj hinv0.2 (by unfold digB; omega)⟩, by omega⟩, ⟨rfl, rfl, rfl, rfl, rfl, trivial⟩, Ext.nil _⟩
              · skip
                replace c35 := Bool.eq_true_of_ne c35
                have c35' := dT c35
                refine Ops.guardN rfl rfl rfl rfl (by rw [c35]; decide) ?_
                refine Ops.guardN rfl rfl rfl rfl (by rw [c35]; decide) ?_
                refine Ops.guardN rfl rfl rfl rfl (by rw [c35]; decide) ?_
                refine Ops.pure rfl (Pure.pickT rfl c35 rfl) ?_
                refine Ops.nil ?_
                refine Run.condE rfl rfl ?_
                refine Run.seq ?_
                refine Run.region ?_
                refine Ops.pure rfl (Pure.assign rfl) ?_
                refine Ops.pure rfl (Pure.assign rfl) ?_
                refine Ops.nil ?_
                refine Run.ret2 rfl rfl rfl ?_
                have hno : ¬ rdOk s := fun h => by
                  have := h.2.1 k (by omega)
                  unfold digB at this
                  omega
                rw [(rd_no hno).1, (rd_no hno).2]
            · skip
              replace c29 := dF c29
              refine Run.exit rfl ?_
              refine Run.seq ?_
              refine Run.seq ?_
              have hall : ∀ i, i < (digT s).size → digB (digT s) i := fun i hi => hinv0.2 i (by omega)
              have e : k = (digT s).size := by omega
              subst e
              refine Run.region ?_
              refine Ops.pure rfl (Pure.move rfl) ?_
              refine Ops.pure rfl (Pure.lenS und9 rfl) ?_
              refine Ops.pure rfl (Pure.move rfl) ?_
              refine Ops.pure rfl (Pure.lenS und9 rfl) ?_
              refine Ops.pure rfl (Pure.lss rfl rfl) ?_
              refine Ops.nil ?_
              refine Run.cond rfl (fun c54 => ?_) (fun c54 => ?_)
              · skip
                replace c54 := dT c54
                refine Run.region ?_
                refine Ops.pure rfl (Pure.move rfl) ?_
                refine Ops.pure rfl (Pure.neg rfl (by omega) (by omega)) ?_
                refine Ops.pure rfl (Pure.assign rfl) ?_
                refine Ops.nil ?_
                refine Run.seq ?_
                refine Run.seq ?_
                first
                  | have hsg : sgnN s = -(numB (digT s) (digT s).size) := if_pos c54
                  | have hsg : sgnN s = numB (digT s) (digT s).size := if_neg c54
                refine Run.region ?_
                refine Ops.pure rfl (Pure.move rfl) ?_
                refine Ops.q rfl (QOp.call fn130 rfl (fun w hw => f_i_Decimal w _ (by omega) (by omega))) ?_
                refine Ops.pure rfl (Pure.move rfl) ?_
                refine Ops.pure rfl (Pure.neqS rfl rfl) ?_
                refine Ops.nil ?_
                refine Run.setv 60 rfl (congrArg (fun x => Value.bool (!x)) (eqS_iff _ _)) ?_
                refine Run.cond rfl (fun c60 => ?_) (fun c60 => ?_)
                · skip
                  replace c60 := nT c60
                  refine Run.seq ?_
                  refine Run.region ?_
                  refine Ops.pure rfl (Pure.assign rfl) ?_
                  refine Ops.pure rfl (Pure.assign rfl) ?_
                  refine Ops.nil ?_
                  refine Run.ret2 rfl rfl rfl ?_
                  have hno : ¬ rdOk s := fun h => by
                    have h2 := h.2.2
                    rw [hsg] at h2
                    exact c60 h2
                  rw [(rd_no hno).1, (rd_no hno).2]
                · skip
                  replace c60 := nF c60
                  refine Run.skip ?_
                  refine Run.seq ?_
                  refine Run.region ?_
                  refine Ops.pure rfl (Pure.move rfl) ?_
                  refine Ops.pure rfl (Pure.assign rfl) ?_
                  refine Ops.pure rfl (Pure.assign rfl) ?_
                  refine Ops.nil ?_
                  refine Run.ret2 rfl rfl rfl ?_
                  have hok : rdOk s := ⟨⟨by omega, by omega⟩, hall, by rw [hsg]; exact c60⟩
                  rw [(rd_ok hok).1, (rd_ok hok).2, hsg]
              · skip
                replace c54 := dF c54
                refine Run.skip ?_
                refine Run.seq ?_
                refine Run.seq ?_
                first
                  | have hsg : sgnN s = -(numB (digT s) (digT s).size) := if_pos c54
                  | have hsg : sgnN s = numB (digT s) (digT s).size := if_neg c54
                refine Run.region ?_
                refine Ops.pure rfl (Pure.move rfl) ?_
                refine Ops.q rfl (QOp.call fn130 rfl (fun w hw => f_i_Decimal w _ (by omega) (by omega))) ?_
                refine Ops.pure rfl (Pure.move rfl) ?_
                refine Ops.pure rfl (Pure.neqS rfl rfl) ?_
                refine Ops.nil ?_
                refine Run.setv 60 rfl (congrArg (fun x => Value.bool (!x)) (eqS_iff _ _)) ?_
                refine Run.cond rfl (fun c60 => ?_) (fun c60 => ?_)
                · skip
                  replace c60 := nT c60
                  refine Run.seq ?_
                  refine Run.region ?_
                  refine Ops.pure rfl (Pure.assign rfl) ?_
                  refine Ops.pure rfl (Pure.assign rfl) ?_
                  refine Ops.nil ?_
                  refine Run.ret2 rfl rfl rfl ?_
                  have hno : ¬ rdOk s := fun h => by
                    have h2 := h.2.2
                    rw [hsg] at h2
                    exact c60 h2
                  rw [(rd_no hno).1, (rd_no hno).2]
                · skip
                  replace c60 := nF c60
                  refine Run.skip ?_
                  refine Run.seq ?_
                  refine Run.region ?_
                  refine Ops.pure rfl (Pure.move rfl) ?_
                  refine Ops.pure rfl (Pure.assign rfl) ?_
                  refine Ops.pure rfl (Pure.assign rfl) ?_
                  refine Ops.nil ?_
                  refine Run.ret2 rfl rfl rfl ?_
                  have hok : rdOk s := ⟨⟨by omega, by omega⟩, hall, by rw [hsg]; exact c60⟩
                  rw [(rd_ok hok).1, (rd_ok hok).2, hsg]
      · skip
        replace c21 := Bool.eq_true_of_ne c21
        have c21' := dT c21
        refine Ops.guardN rfl rfl rfl rfl (by rw [c21]; decide) ?_
        refine Ops.guardN rfl rfl rfl rfl (by rw [c21]; decide) ?_
        refine Ops.pure rfl (Pure.pickT rfl c21 rfl) ?_
        refine Ops.nil ?_
        refine Run.condE rfl rfl ?_
        refine Run.seq ?_
        refine Run.region ?_
        refine Ops.pure rfl (Pure.assign rfl) ?_
        refine Ops.pure rfl (Pure.assign rfl) ?_
        refine Ops.nil ?_
        refine Run.ret2 rfl rfl rfl ?_
        have hno : ¬ rdOk s := fun h => by have := h.1; omega
        rw [(rd_no hno).1, (rd_no hno).2]
    · skip
      replace c15 := dF c15
      refine Run.skip ?_
      refine Run.seq ?_
      refine Run.seq ?_
      first
        | refine Run.setv 4 rfl (congrArg Value.string (digT_yes ⟨by omega, c15⟩).symm) ?_
        | refine Run.setv 4 rfl (congrArg Value.string (digT_no (fun h => c15 h.2)).symm) ?_
        | refine Run.setv 4 rfl (congrArg Value.string (digT_no (fun h => by omega)).symm) ?_
      have hds := digT_size s
      refine Run.region ?_
      refine Ops.pure rfl (Pure.move rfl) ?_
      refine Ops.pure rfl (Pure.lenS und9 rfl) ?_
      refine Ops.pure rfl (Pure.lss rfl rfl) ?_
      refine Ops.pure rfl (Pure.move rfl) ?_
      refine Ops.guard rfl rfl rfl rfl (fun c21 => ?_) (fun c21 => ?_)
      · skip
        have c21' := dF c21
        refine Ops.pure rfl (Pure.move rfl) ?_
        refine Ops.guardY rfl rfl rfl c21 ?_
        refine Ops.pure rfl (Pure.lenS und9 rfl) ?_
        refine Ops.guardY rfl rfl rfl c21 ?_
        refine Ops.pure rfl (Pure.gtr rfl rfl) ?_
        refine Ops.pure rfl (Pure.pickF rfl c21 rfl) ?_
        refine Ops.nil ?_
        refine Run.cond rfl (fun c25 => ?_) (fun c25 => ?_)
        · skip
          replace c25 := dT c25
          refine Run.seq ?_
          refine Run.region ?_
          refine Ops.pure rfl (Pure.assign rfl) ?_
          refine Ops.pure rfl (Pure.assign rfl) ?_
          refine Ops.nil ?_
          refine Run.ret2 rfl rfl rfl ?_
          have hno : ¬ rdOk s := fun h => by have := h.1; omega
          rw [(rd_no hno).1, (rd_no hno).2]
        · skip
          replace c25 := dF c25
          refine Run.skip ?_
          refine Run.seq ?_
          refine Run.region ?_
          refine Ops.pure rfl (Pure.assign rfl) ?_
          refine Ops.nil ?_
          refine Run.seq ?_
          refine Run.seq ?_
          refine Run.region ?_
          refine Ops.pure rfl (Pure.move rfl) ?_
          refine Ops.pure rfl (Pure.lenS und9 rfl) ?_
          refine Ops.pure rfl (Pure.move rfl) ?_
          refine Ops.nil ?_
          refine Run.block ?_
          refine Run.loop (X := Nat) (fun k => [(0, .string s), (4, .string (digT s)), (5, .int .i64 (numB (digT s) k)), (27, .int .i64 (digT s).size), (28, .int .i64 k)]) (fun k => []) (fun k => k ≤ (digT s).size ∧ ∀ j, j < k → digB (digT s) j) (fun k => (digT s).size - k) 0 ?_ ?_ ?_ ?_
          · exact ⟨Nat.zero_le _, by omega⟩
          · exact ⟨rfl, rfl, rfl, rfl, rfl, trivial⟩
          · exact Ext.nil _
          · intro k hinv0
            have hnb := numB_bd k hinv0.2
            have hpm := p10_mono (show k ≤ 18 by omega)
            rw [p10_18] at hpm
            have hbb := bAt_bd (digT s) k
            have hbd : bAt (digT s) k = (((digT s).data.toList.getD k 0).toNat : Int) := rfl
            refine Run.seq ?_
            refine Run.region ?_
            refine Ops.pure rfl (Pure.lss rfl rfl) ?_
            refine Ops.nil ?_
            refine Run.seq ?_
            refine Run.cond rfl (fun c29 => ?_) (fun c29 => ?_)
            · skip
              replace c29 := dT c29
              refine Run.skip ?_
              refine Run.seq ?_
              refine Run.block ?_
              refine Run.seq ?_
              refine Run.region ?_
              refine Ops.pure rfl (Pure.move rfl) ?_
              refine Ops.pure rfl (Pure.assign rfl) ?_
              refine Ops.nil ?_
              refine Run.seq ?_
              refine Run.seq ?_
              refine Run.region ?_
              refine Ops.pure rfl (Pure.move rfl) ?_
              refine Ops.pure rfl (Pure.move rfl) ?_
              refine Ops.pure rfl (Pure.idxSN und9 rfl rfl (by first | assumption | omega | (simp; omega))) ?_
              refine Ops.pure rfl (Pure.lss rfl rfl) ?_
              refine Ops.pure rfl (Pure.move rfl) ?_
              refine Ops.guard rfl rfl rfl rfl (fun c35 => ?_) (fun c35 => ?_)
              · skip
                have c35' := dF c35
                refine Ops.pure rfl (Pure.move rfl) ?_
                refine Ops.guardY rfl rfl rfl c35 ?_
                refine Ops.pure rfl (Pure.move rfl) ?_
                refine Ops.guardY rfl rfl rfl c35 ?_
                refine Ops.pure rfl (Pure.idxSN und9 rfl rfl (by first | assumption | omega | (simp; omega))) ?_
                refine Ops.guardY rfl rfl rfl c35 ?_
                refine Ops.pure rfl (Pure.gtr rfl rfl) ?_
                refine Ops.pure rfl (Pure.pickF rfl c35 rfl) ?_
                refine Ops.nil ?_
                refine Run.cond rfl (fun c40 => ?_) (fun c40 => ?_)
                · skip
                  replace c40 := dT c40
                  refine Run.seq ?_
                  refine Run.region ?_
                  refine Ops.pure rfl (Pure.assign rfl) ?_
                  refine Ops.pure rfl (Pure.assign rfl) ?_
                  refine Ops.nil ?_
                  refine Run.ret2 rfl rfl rfl ?_
                  have hno : ¬ rdOk s := fun h => by
                    have := h.2.1 k (by omega)
                    unfold digB at this
                    omega
                  rw [(rd_no hno).1, (rd_no hno).2]
                · skip
                  replace c40 := dF c40
                  refine Run.skip ?_
                  have hpm2 := p10_mono (show k ≤ 17 by omega)
                  rw [p10_17] at hpm2
                  refine Run.region ?_
                  refine Ops.pure rfl (Pure.move rfl) ?_
                  refine Ops.pure rfl (Pure.mul rfl rfl (by omega) (by omega)) ?_
                  refine Ops.pure rfl (Pure.move rfl) ?_
                  refine Ops.pure rfl (Pure.move rfl) ?_
                  refine Ops.pure rfl (Pure.idxSN und9 rfl rfl (by first | assumption | omega | (simp; omega))) ?_
                  refine Ops.pure rfl (Pure.subW rfl rfl) ?_
                  refine Ops.setv 46 rfl (congrArg (Value.int .u8) (wrap8 (by omega) (by omega))) ?_
                  refine Ops.pure rfl (Pure.conv64 (by rw [und5]; rfl) und2 rfl (by omega) (by omega)) ?_
                  refine Ops.pure rfl (Pure.add rfl rfl (by omega) (by omega)) ?_
                  refine Ops.pure rfl (Pure.assign rfl) ?_
                  refine Ops.nil ?_
                  refine Run.blk ?_
                  refine Run.region ?_
                  refine Ops.pure rfl (Pure.add rfl rfl (by omega) (by omega)) ?_
                  refine Ops.pure rfl (Pure.move rfl) ?_
                  refine Ops.nil ?_
                  refine Run.asrt ?_
                  exact ⟨k + 1, ⟨⟨by omega, fun j hj => step_lt (p := fun j => digB (digT s) j) hj hinv0.2 (by unfold digB; omega)⟩, by omega⟩, ⟨rfl, rfl, rfl, rfl, rfl, trivial⟩, Ext.nil _⟩
              · skip
                replace c35 := Bool.eq_true_of_ne c35
                have c35' := dT c35
                refine Ops.guardN rfl rfl rfl rfl (by rw [c35]; decide) ?_
                refine Ops.guardN rfl rfl rfl rfl (by rw [c35]; decide) ?_
                refine Ops.guardN rfl rfl rfl rfl (by rw [c35]; decide) ?_
                refine Ops.pure rfl (Pure.pickT rfl c35 rfl) ?_
                refine Ops.nil ?_
                refine Run.condE rfl rfl ?_
                refine Run.seq ?_
                refine Run.region ?_
                refine Ops.pure rfl (Pure.assign rfl) ?_
                refine Ops.pure rfl (Pure.assign rfl) ?_
                refine Ops.nil ?_
                refine Run.ret2 rfl rfl rfl ?_
                have hno : ¬ rdOk s := fun h => by
                  have := h.2.1 k (by omega)
                  unfold digB at this
                  omega
                rw [(rd_no hno).1, (rd_no hno).2]
            · skip
              replace c29 := dF c29
              refine Run.exit rfl ?_
              refine Run.seq ?_
              refine Run.seq ?_
              have hall : ∀ i, i < (digT s).size → digB (digT s) i := fun i hi => hinv0.2 i (by omega)
              have e : k = (digT s).size := by omega
              subst e
              refine Run.region ?_
              refine Ops.pure rfl (Pure.move rfl) ?_
              refine Ops.pure rfl (Pure.lenS und9 rfl) ?_
              refine Ops.pure rfl (Pure.move rfl) ?_
              refine Ops.pure rfl (Pure.lenS und9 rfl) ?_
              refine Ops.pure rfl (Pure.lss rfl rfl) ?_
              refine Ops.nil ?_
              refine Run.cond rfl (fun c54 => ?_) (fun c54 => ?_)
              · skip
                replace c54 := dT c54
                refine Run.region ?_
                refine Ops.pure rfl (Pure.move rfl) ?_
                refine Ops.pure rfl (Pure.neg rfl (by omega) (by omega)) ?_
                refine Ops.pure rfl (Pure.assign rfl) ?_
                refine Ops.nil ?_
                refine Run.seq ?_
                refine Run.seq ?_
                first
                  | have hsg : sgnN s = -(numB (digT s) (digT s).size) := if_pos c54
                  | have hsg : sgnN s = numB (digT s) (digT s).size := if_neg c54
                refine Run.region ?_
                refine Ops.pure rfl (Pure.move rfl) ?_
                refine Ops.q rfl (QOp.call fn130 rfl (fun w hw => f_i_Decimal w _ (by omega) (by omega))) ?_
                refine Ops.pure rfl (Pure.move rfl) ?_
                refine Ops.pure rfl (Pure.neqS rfl rfl) ?_
                refine Ops.nil ?_
                refine Run.setv 60 rfl (congrArg (fun x => Value.bool (!x)) (eqS_iff _ _)) ?_
                refine Run.cond rfl (fun c60 => ?_) (fun c60 => ?_)
                · skip
                  replace c60 := nT c60
                  refine Run.seq ?_
                  refine Run.region ?_
                  refine Ops.pure rfl (Pure.assign rfl) ?_
                  refine Ops.pure rfl (Pure.assign rfl) ?_
                  refine Ops.nil ?_
                  refine Run.ret2 rfl rfl rfl ?_
                  have hno : ¬ rdOk s := fun h => by
                    have h2 := h.2.2
                    rw [hsg] at h2
                    exact c60 h2
                  rw [(rd_no hno).1, (rd_no hno).2]
                · skip
                  replace c60 := nF c60
                  refine Run.skip ?_
                  refine Run.seq ?_
                  refine Run.region ?_
                  refine Ops.pure rfl (Pure.move rfl) ?_
                  refine Ops.pure rfl (Pure.assign rfl) ?_
                  refine Ops.pure rfl (Pure.assign rfl) ?_
                  refine Ops.nil ?_
                  refine Run.ret2 rfl rfl rfl ?_
                  have hok : rdOk s := ⟨⟨by omega, by omega⟩, hall, by rw [hsg]; exact c60⟩
                  rw [(rd_ok hok).1, (rd_ok hok).2, hsg]
              · skip
                replace c54 := dF c54
                refine Run.skip ?_
                refine Run.seq ?_
                refine Run.seq ?_
                first
                  | have hsg : sgnN s = -(numB (digT s) (digT s).size) := if_pos c54
                  | have hsg : sgnN s = numB (digT s) (digT s).size := if_neg c54
                refine Run.region ?_
                refine Ops.pure rfl (Pure.move rfl) ?_
                refine Ops.q rfl (QOp.call fn130 rfl (fun w hw => f_i_Decimal w _ (by omega) (by omega))) ?_
                refine Ops.pure rfl (Pure.move rfl) ?_
                refine Ops.pure rfl (Pure.neqS rfl rfl) ?_
                refine Ops.nil ?_
                refine Run.setv 60 rfl (congrArg (fun x => Value.bool (!x)) (eqS_iff _ _)) ?_
                refine Run.cond rfl (fun c60 => ?_) (fun c60 => ?_)
                · skip
                  replace c60 := nT c60
                  refine Run.seq ?_
                  refine Run.region ?_
                  refine Ops.pure rfl (Pure.assign rfl) ?_
                  refine Ops.pure rfl (Pure.assign rfl) ?_
                  refine Ops.nil ?_
                  refine Run.ret2 rfl rfl rfl ?_
                  have hno : ¬ rdOk s := fun h => by
                    have h2 := h.2.2
                    rw [hsg] at h2
                    exact c60 h2
                  rw [(rd_no hno).1, (rd_no hno).2]
                · skip
                  replace c60 := nF c60
                  refine Run.skip ?_
                  refine Run.seq ?_
                  refine Run.region ?_
                  refine Ops.pure rfl (Pure.move rfl) ?_
                  refine Ops.pure rfl (Pure.assign rfl) ?_
                  refine Ops.pure rfl (Pure.assign rfl) ?_
                  refine Ops.nil ?_
                  refine Run.ret2 rfl rfl rfl ?_
                  have hok : rdOk s := ⟨⟨by omega, by omega⟩, hall, by rw [hsg]; exact c60⟩
                  rw [(rd_ok hok).1, (rd_ok hok).2, hsg]
      · skip
        replace c21 := Bool.eq_true_of_ne c21
        have c21' := dT c21
        refine Ops.guardN rfl rfl rfl rfl (by rw [c21]; decide) ?_
        refine Ops.guardN rfl rfl rfl rfl (by rw [c21]; decide) ?_
        refine Ops.pure rfl (Pure.pickT rfl c21 rfl) ?_
        refine Ops.nil ?_
        refine Run.condE rfl rfl ?_
        refine Run.seq ?_
        refine Run.region ?_
        refine Ops.pure rfl (Pure.assign rfl) ?_
        refine Ops.pure rfl (Pure.assign rfl) ?_
        refine Ops.nil ?_
        refine Run.ret2 rfl rfl rfl ?_
        have hno : ¬ rdOk s := fun h => by have := h.1; omega
        rw [(rd_no hno).1, (rd_no hno).2]
  · skip
    replace c11 := Bool.eq_false_of_ne c11
    have c11' := dF c11
    refine Ops.guardN rfl rfl rfl rfl (by rw [c11]; decide) ?_
    refine Ops.guardN rfl rfl rfl rfl (by rw [c11]; decide) ?_
    refine Ops.pure rfl (Pure.pickF rfl c11 rfl) ?_
    refine Ops.nil ?_
    refine Run.condEF rfl rfl ?_
    refine Run.skip ?_
    refine Run.seq ?_
    refine Run.seq ?_
    first
      | refine Run.setv 4 rfl (congrArg Value.string (digT_yes ⟨by omega, c15⟩).symm) ?_
      | refine Run.setv 4 rfl (congrArg Value.string (digT_no (fun h => c15 h.2)).symm) ?_
      | refine Run.setv 4 rfl (congrArg Value.string (digT_no (fun h => by omega)).symm) ?_
    have hds := digT_size s
    refine Run.region ?_
    refine Ops.pure rfl (Pure.move rfl) ?_
    refine Ops.pure rfl (Pure.lenS und9 rfl) ?_
    refine Ops.pure rfl (Pure.lss rfl rfl) ?_
    refine Ops.pure rfl (Pure.move rfl) ?_
    refine Ops.guard rfl rfl rfl rfl (fun c21 => ?_) (fun c21 => ?_)
    · skip
      have c21' := dF c21
      refine Ops.pure rfl (Pure.move rfl) ?_
      refine Ops.guardY rfl rfl rfl c21 ?_
      refine Ops.pure rfl (Pure.lenS und9 rfl) ?_
      refine Ops.guardY rfl rfl rfl c21 ?_
      refine Ops.pure rfl (Pure.gtr rfl rfl) ?_
      refine Ops.pure rfl (Pure.pickF rfl c21 rfl) ?_
      refine Ops.nil ?_
      refine Run.cond rfl (fun c25 => ?_) (fun c25 => ?_)
      · skip
        replace c25 := dT c25
        refine Run.seq ?_
        refine Run.region ?_
        refine Ops.pure rfl (Pure.assign rfl) ?_
        refine Ops.pure rfl (Pure.assign rfl) ?_
        refine Ops.nil ?_
        refine Run.ret2 rfl rfl rfl ?_
        have hno : ¬ rdOk s := fun h => by have := h.1; omega
        rw [(rd_no hno).1, (rd_no hno).2]
      · skip
        replace c25 := dF c25
        refine Run.skip ?_
        refine Run.seq ?_
        refine Run.region ?_
        refine Ops.pure rfl (Pure.assign rfl) ?_
        refine Ops.nil ?_
        refine Run.seq ?_
        refine Run.seq ?_
        refine Run.region ?_
        refine Ops.pure rfl (Pure.move rfl) ?_
        refine Ops.pure rfl (Pure.lenS und9 rfl) ?_
        refine Ops.pure rfl (Pure.move rfl) ?_
        refine Ops.nil ?_
        refine Run.block ?_
        refine Run.loop (X := Nat) (fun k => [(0, .string s), (4, .string (digT s)), (5, .int .i64 (numB (digT s) k)), (27, .int .i64 (digT s).size), (28, .int .i64 k)]) (fun k => []) (fun k => k ≤ (digT s).size ∧ ∀ j, j < k → digB (digT s) j) (fun k => (digT s).size - k) 0 ?_ ?_ ?_ ?_
        · exact ⟨Nat.zero_le _, by omega⟩
        · exact ⟨rfl, rfl, rfl, rfl, rfl, trivial⟩
        · exact Ext.nil _
        · intro k hinv0
          have hnb := numB_bd k hinv0.2
          have hpm := p10_mono (show k ≤ 18 by omega)
          rw [p10_18] at hpm
          have hbb := bAt_bd (digT s) k
          have hbd : bAt (digT s) k = (((digT s).data.toList.getD k 0).toNat : Int) := rfl
          refine Run.seq ?_
          refine Run.region ?_
          refine Ops.pure rfl (Pure.lss rfl rfl) ?_
          refine Ops.nil ?_
          refine Run.seq ?_
          refine Run.cond rfl (fun c29 => ?_) (fun c29 => ?_)
          · skip
            replace c29 := dT c29
            refine Run.skip ?_
            refine Run.seq ?_
            refine Run.block ?_
            refine Run.seq ?_
            refine Run.region ?_
            refine Ops.pure rfl (Pure.move rfl) ?_
            refine Ops.pure rfl (Pure.assign rfl) ?_
            refine Ops.nil ?_
            refine Run.seq ?_
            refine Run.seq ?_
            refine Run.region ?_
            refine Ops.pure rfl (Pure.move rfl) ?_
            refine Ops.pure rfl (Pure.move rfl) ?_
            refine Ops.pure rfl (Pure.idxSN und9 rfl rfl (by first | assumption | omega | (simp; omega))) ?_
            refine Ops.pure rfl (Pure.lss rfl rfl) ?_
            refine Ops.pure rfl (Pure.move rfl) ?_
            refine Ops.guard rfl rfl rfl rfl (fun c35 => ?_) (fun c35 => ?_)
            · skip
              have c35' := dF c35
              refine Ops.pure rfl (Pure.move rfl) ?_
              refine Ops.guardY rfl rfl rfl c35 ?_
              refine Ops.pure rfl (Pure.move rfl) ?_
              refine Ops.guardY rfl rfl rfl c35 ?_
              refine Ops.pure rfl (Pure.idxSN und9 rfl rfl (by first | assumption | omega | (simp; omega))) ?_
              refine Ops.guardY rfl rfl rfl c35 ?_
              refine Ops.pure rfl (Pure.gtr rfl rfl) ?_
              refine Ops.pure rfl (Pure.pickF rfl c35 rfl) ?_
              refine Ops.nil ?_
              refine Run.cond rfl (fun c40 => ?_) (fun c40 => ?_)
              · skip
                replace c40 := dT c40
                refine Run.seq ?_
                refine Run.region ?_
                refine Ops.pure rfl (Pure.assign rfl) ?_
                refine Ops.pure rfl (Pure.assign rfl) ?_
                refine Ops.nil ?_
                refine Run.ret2 rfl rfl rfl ?_
                have hno : ¬ rdOk s := fun h => by
                  have := h.2.1 k (by omega)
                  unfold digB at this
                  omega
                rw [(rd_no hno).1, (rd_no hno).2]
              · skip
                replace c40 := dF c40
                refine Run.skip ?_
                have hpm2 := p10_mono (show k ≤ 17 by omega)
                rw [p10_17] at hpm2
                refine Run.region ?_
                refine Ops.pure rfl (Pure.move rfl) ?_
                refine Ops.pure rfl (Pure.mul rfl rfl (by omega) (by omega)) ?_
                refine Ops.pure rfl (Pure.move rfl) ?_
                refine Ops.pure rfl (Pure.move rfl) ?_
                refine Ops.pure rfl (Pure.idxSN und9 rfl rfl (by first | assumption | omega | (simp; omega))) ?_
                refine Ops.pure rfl (Pure.subW rfl rfl) ?_
                refine Ops.setv 46 rfl (congrArg (Value.int .u8) (wrap8 (by omega) (by omega))) ?_
                refine Ops.pure rfl (Pure.conv64 (by rw [und5]; rfl) und2 rfl (by omega) (by omega)) ?_
                refine Ops.pure rfl (Pure.add rfl rfl (by omega) (by omega)) ?_
                refine Ops.pure rfl (Pure.assign rfl) ?_
                refine Ops.nil ?_
                refine Run.blk ?_
                refine Run.region ?_
                refine Ops.pure rfl (Pure.add rfl rfl (by omega) (by omega)) ?_
                refine Ops.pure rfl (Pure.move rfl) ?_
                refine Ops.nil ?_
                refine Run.asrt ?_
                exact ⟨k + 1, ⟨⟨by omega, fun j hj => step_lt (p := fun j => digB (digT s) j) hj hinv0.2 (by unfold digB; omega)⟩, by omega⟩, ⟨rfl, rfl, rfl, rfl, rfl, trivial⟩, Ext.nil _⟩
            · skip
              replace c35 := Bool.eq_true_of_ne c35
              have c35' := dT c35
              refine Ops.guardN rfl rfl rfl rfl (by rw [c35]; decide) ?_
              refine Ops.guardN rfl rfl rfl rfl (by rw [c35]; decide) ?_
              refine Ops.guardN rfl rfl rfl rfl (by rw [c35]; decide) ?_
              refine Ops.pure rfl (Pure.pickT rfl c35 rfl) ?_
              refine Ops.nil ?_
              refine Run.condE rfl rfl ?_
              refine Run.seq ?_
              refine Run.region ?_
              refine Ops.pure rfl (Pure.assign rfl) ?_
              refine Ops.pure rfl (Pure.assign rfl) ?_
              refine Ops.nil ?_
              refine Run.ret2 rfl rfl rfl ?_
              have hno : ¬ rdOk s := fun h => by
                have := h.2.1 k (by omega)
                unfold digB at this
                omega
              rw [(rd_no hno).1, (rd_no hno).2]
          · skip
            replace c29 := dF c29
            refine Run.exit rfl ?_
            refine Run.seq ?_
            refine Run.seq ?_
            have hall : ∀ i, i < (digT s).size → digB (digT s) i := fun i hi => hinv0.2 i (by omega)
            have e : k = (digT s).size := by omega
            subst e
            refine Run.region ?_
            refine Ops.pure rfl (Pure.move rfl) ?_
            refine Ops.pure rfl (Pure.lenS und9 rfl) ?_
            refine Ops.pure rfl (Pure.move rfl) ?_
            refine Ops.pure rfl (Pure.lenS und9 rfl) ?_
            refine Ops.pure rfl (Pure.lss rfl rfl) ?_
            refine Ops.nil ?_
            refine Run.cond rfl (fun c54 => ?_) (fun c54 => ?_)
            · skip
              replace c54 := dT c54
              refine Run.region ?_
              refine Ops.pure rfl (Pure.move rfl) ?_
              refine Ops.pure rfl (Pure.neg rfl (by omega) (by omega)) ?_
              refine Ops.pure rfl (Pure.assign rfl) ?_
              refine Ops.nil ?_
              refine Run.seq ?_
              refine Run.seq ?_
              first
                | have hsg : sgnN s = -(numB (digT s) (digT s).size) := if_pos c54
                | have hsg : sgnN s = numB (digT s) (digT s).size := if_neg c54
              refine Run.region ?_
              refine Ops.pure rfl (Pure.move rfl) ?_
              refine Ops.q rfl (QOp.call fn130 rfl (fun w hw => f_i_Decimal w _ (by omega) (by omega))) ?_
              refine Ops.pure rfl (Pure.move rfl) ?_
              refine Ops.pure rfl (Pure.neqS rfl rfl) ?_
              refine Ops.nil ?_
              refine Run.setv 60 rfl (congrArg (fun x => Value.bool (!x)) (eqS_iff _ _)) ?_
              refine Run.cond rfl (fun c60 => ?_) (fun c60 => ?_)
              · skip
                replace c60 := nT c60
                refine Run.seq ?_
                refine Run.region ?_
                refine Ops.pure rfl (Pure.assign rfl) ?_
                refine Ops.pure rfl (Pure.assign rfl) ?_
                refine Ops.nil ?_
                refine Run.ret2 rfl rfl rfl ?_
                have hno : ¬ rdOk s := fun h => by
                  have h2 := h.2.2
                  rw [hsg] at h2
                  exact c60 h2
                rw [(rd_no hno).1, (rd_no hno).2]
              · skip
                replace c60 := nF c60
                refine Run.skip ?_
                refine Run.seq ?_
                refine Run.region ?_
                refine Ops.pure rfl (Pure.move rfl) ?_
                refine Ops.pure rfl (Pure.assign rfl) ?_
                refine Ops.pure rfl (Pure.assign rfl) ?_
                refine Ops.nil ?_
                refine Run.ret2 rfl rfl rfl ?_
                have hok : rdOk s := ⟨⟨by omega, by omega⟩, hall, by rw [hsg]; exact c60⟩
                rw [(rd_ok hok).1, (rd_ok hok).2, hsg]
            · skip
              replace c54 := dF c54
              refine Run.skip ?_
              refine Run.seq ?_
              refine Run.seq ?_
              first
                | have hsg : sgnN s = -(numB (digT s) (digT s).size) := if_pos c54
                | have hsg : sgnN s = numB (digT s) (digT s).size := if_neg c54
              refine Run.region ?_
              refine Ops.pure rfl (Pure.move rfl) ?_
              refine Ops.q rfl (QOp.call fn130 rfl (fun w hw => f_i_Decimal w _ (by omega) (by omega))) ?_
              refine Ops.pure rfl (Pure.move rfl) ?_
              refine Ops.pure rfl (Pure.neqS rfl rfl) ?_
              refine Ops.nil ?_
              refine Run.setv 60 rfl (congrArg (fun x => Value.bool (!x)) (eqS_iff _ _)) ?_
              refine Run.cond rfl (fun c60 => ?_) (fun c60 => ?_)
              · skip
                replace c60 := nT c60
                refine Run.seq ?_
                refine Run.region ?_
                refine Ops.pure rfl (Pure.assign rfl) ?_
                refine Ops.pure rfl (Pure.assign rfl) ?_
                refine Ops.nil ?_
                refine Run.ret2 rfl rfl rfl ?_
                have hno : ¬ rdOk s := fun h => by
                  have h2 := h.2.2
                  rw [hsg] at h2
                  exact c60 h2
                rw [(rd_no hno).1, (rd_no hno).2]
              · skip
                replace c60 := nF c60
                refine Run.skip ?_
                refine Run.seq ?_
                refine Run.region ?_
                refine Ops.pure rfl (Pure.move rfl) ?_
                refine Ops.pure rfl (Pure.assign rfl) ?_
                refine Ops.pure rfl (Pure.assign rfl) ?_
                refine Ops.nil ?_
                refine Run.ret2 rfl rfl rfl ?_
                have hok : rdOk s := ⟨⟨by omega, by omega⟩, hall, by rw [hsg]; exact c60⟩
                rw [(rd_ok hok).1, (rd_ok hok).2, hsg]
    · skip
      replace c21 := Bool.eq_true_of_ne c21
      have c21' := dT c21
      refine Ops.guardN rfl rfl rfl rfl (by rw [c21]; decide) ?_
      refine Ops.guardN rfl rfl rfl rfl (by rw [c21]; decide) ?_
      refine Ops.pure rfl (Pure.pickT rfl c21 rfl) ?_
      refine Ops.nil ?_
      refine Run.condE rfl rfl ?_
      refine Run.seq ?_
      refine Run.region ?_
      refine Ops.pure rfl (Pure.assign rfl) ?_
      refine Ops.pure rfl (Pure.assign rfl) ?_
      refine Ops.nil ?_
      refine Run.ret2 rfl rfl rfl ?_
      have hno : ¬ rdOk s := fun h => by have := h.1; omega
      rw [(rd_no hno).1, (rd_no hno).2]

end Go.Proofs.Ytmfinopdokkjcaa
