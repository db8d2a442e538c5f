/- Contracts of functions, printed by program from annotations. -/
import Derived.Test.YtmfinopdokkjcaaMirror
namespace Go.Proofs.Ytmfinopdokkjcaa
open Go Go.AW Go.RowKit
set_option linter.unusedVariables false
set_option linter.unusedSimpArgs false

/-- the error of a call that takes a code and curves of it -/
def cdE (ls : List (List Int)) (l : List Int) : Int := if validB ls then (if ∀ x ∈ l, 0 ≤ x ∧ x ≤ (ls.length : Int) - 1 then 0 else 2) else 1
theorem cdE_bad {ls : List (List Int)} {l : List Int} (h : validB ls = false) : cdE ls l = 1 := by unfold cdE; rw [h]; rfl
theorem cdE_out {ls : List (List Int)} {l : List Int} {k : Nat} (h : validB ls = true) (hk : k < l.length) (hx : ¬ (0 ≤ l.getD k 0 ∧ l.getD k 0 ≤ (ls.length : Int) - 1)) : cdE ls l = 2 := by
  unfold cdE
  rw [h, if_pos rfl, if_neg]
  intro hh
  exact hx (hh _ (mem_of_getD hk rfl))
theorem cdE_ok {ls : List (List Int)} {l : List Int} {k : Nat} (h : validB ls = true) (hk : ¬ k < l.length) (hx : ∀ j, j < k → 0 ≤ l.getD j 0 ∧ l.getD j 0 ≤ (ls.length : Int) - 1) : cdE ls l = 0 := by
  unfold cdE
  rw [h, if_pos rfl, if_pos]
  intro x hm
  obtain ⟨j, hj, rfl⟩ := List.mem_iff_getElem.1 hm
  have := hx j (by omega)
  simpa [List.getD, List.getElem?_eq_getElem hj] using this
theorem cdE_one {ls : List (List Int)} {c : Int} : cdE ls [c] = if validB ls then (if 0 ≤ c ∧ c ≤ (ls.length : Int) - 1 then 0 else 2) else 1 := by
  unfold cdE
  simp
theorem cdE_zero {ls : List (List Int)} {c : Int} (h : cdE ls [c] = 0) : validB ls = true ∧ 0 ≤ c ∧ c ≤ (ls.length : Int) - 1 := by
  rw [cdE_one] at h
  cases hv : validB ls with
  | false => rw [hv] at h; simp at h
  | true =>
    rw [hv, if_pos rfl] at h
    by_cases hc : 0 ≤ c ∧ c ≤ (ls.length : Int) - 1
    · exact ⟨rfl, hc⟩
    · rw [if_neg hc] at h; simp at h

/-- the first i and the last i exchanged -/
def revTo (l : List Int) (i : Nat) : List Int := (List.range l.length).map fun k => if k < i ∨ l.length ≤ k + i then l.getD (l.length - 1 - k) 0 else l.getD k 0
theorem length_revTo (l : List Int) (i : Nat) : (revTo l i).length = l.length := by simp [revTo]
theorem revTo_getD {l : List Int} {i k : Nat} (h : k < l.length) : (revTo l i).getD k 0 = if k < i ∨ l.length ≤ k + i then l.getD (l.length - 1 - k) 0 else l.getD k 0 := by
  simp [revTo, List.getD, h]
theorem getD_set {l : List Int} {i k : Nat} {x : Int} (h : k < l.length) : (l.set i x).getD k 0 = if i = k then x else l.getD k 0 := by
  simp only [List.getD_eq_getElem?_getD, List.getElem?_set]
  by_cases e : i = k
  · subst e; simp [h]
  · simp [e]
theorem getD_reverse {l : List Int} {k : Nat} (h : k < l.length) : l.reverse.getD k 0 = l.getD (l.length - 1 - k) 0 := by
  simp [List.getD, List.getElem?_reverse h]
theorem revTo_zero (l : List Int) : revTo l 0 = l := by
  refine ext_getD 0 (length_revTo l 0) fun j hj => ?_
  rw [length_revTo] at hj
  rw [revTo_getD hj, if_neg (by omega)]
theorem revTo_full {l : List Int} {i : Nat} (h : l.length ≤ 2 * i + 1) : revTo l i = l.reverse := by
  refine ext_getD 0 (by simp [revTo]) fun j hj => ?_
  rw [length_revTo] at hj
  rw [revTo_getD hj, getD_reverse hj]
  by_cases e : j < i ∨ l.length ≤ j + i
  · rw [if_pos e]
  · rw [if_neg e, show l.length - 1 - j = j by omega]
theorem revTo_swap {l : List Int} {i : Nat} (h : i < l.length - 1 - i) : ((revTo l i).set i ((revTo l i).getD (l.length - 1 - i) 0)).set (l.length - 1 - i) ((revTo l i).getD i 0) = revTo l (i + 1) := by
  refine ext_getD 0 (by simp [length_revTo]) fun k hk => ?_
  simp only [List.length_set, length_revTo] at hk
  rw [getD_set (by simp [length_revTo]; omega), getD_set (by simp [length_revTo]; omega), revTo_getD hk, revTo_getD (show i < l.length by omega), revTo_getD (show l.length - 1 - i < l.length by omega), revTo_getD hk]
  by_cases e1 : l.length - 1 - i = k
  · rw [if_pos e1, if_neg (by omega), if_pos (by omega)]
    congr 1; omega
  · rw [if_neg e1]
    by_cases e2 : i = k
    · rw [if_pos e2, if_neg (by omega), if_pos (by omega), ← e2]
    · rw [if_neg e2]
      by_cases e3 : k < i ∨ l.length ≤ k + i
      · rw [if_pos e3, if_pos (by omega)]
      · rw [if_neg e3, if_neg (by omega)]

/-- turned by b -/
def rot (l : List Int) (b : Nat) : List Int := l.drop b ++ l.take b
theorem length_rot (l : List Int) (b : Nat) : (rot l b).length = l.length := by
  unfold rot
  rw [List.length_append, List.length_drop, List.length_take]
  omega
theorem rot_getD {l : List Int} {b k : Nat} (hk : k < l.length) : (rot l (b % l.length)).getD k 0 = l.getD ((k + b) % l.length) 0 := by
  have hb := Nat.mod_lt b (show 0 < l.length by omega)
  have e : (k + b) % l.length = (k + b % l.length) % l.length := by rw [Nat.add_mod_mod]
  rw [e]
  generalize b % l.length = m at hb
  unfold rot
  simp only [List.getD_eq_getElem?_getD]
  by_cases h : k < l.length - m
  · rw [List.getElem?_append_left (by rw [List.length_drop]; exact h), List.getElem?_drop, Nat.mod_eq_of_lt (by omega), Nat.add_comm]
  · have e2 : (k + m) % l.length = k + m - l.length := by rw [Nat.mod_eq_sub_mod (by omega), Nat.mod_eq_of_lt (by omega)]
    rw [List.getElem?_append_right (by rw [List.length_drop]; omega), List.length_drop, List.getElem?_take_of_lt (by omega), e2]
    congr 2
    omega
theorem RdSS_pair {w : World} {v a b : Value} {la lb : List Int} (hv : Rd w v 1 2 [a, b]) (ha : Rd w a 1 la.length (ints la)) (hb : Rd w b 1 lb.length (ints lb)) : RdSS w v [la, lb] :=
  ⟨[a, b], rfl, hv, fun i hi => by
    match i, hi with
    | 0, _ => exact ha
    | 1, _ => exact hb⟩
theorem flatten_take_succ {ls : List (List Int)} {k : Nat} (h : k < ls.length) : (ls.take (k + 1)).flatten = (ls.take k).flatten ++ ls.getD k [] := by
  rw [List.take_add_one, getD_some h []]; simp
theorem ints_append (a b : List Int) : ints (a ++ b) = ints a ++ ints b := by simp [ints]
theorem length_flatten (ls : List (List Int)) : ls.flatten.length = tot ls := by simp [tot, List.length_flatten]

def backC (ls : List (List Int)) (c : Int) : List (List Int) := if cdE ls [c] = 0 then ls.set c.toNat (ls.getD c.toNat []).reverse else []
def tE (ls : List (List Int)) (c b : Int) : Int := if cdE ls [c] = 0 then (if 0 ≤ b ∧ b ≤ 1000 then 0 else 2) else cdE ls [c]
def turnC (ls : List (List Int)) (c b : Int) : List (List Int) := if tE ls c b = 0 then ls.set c.toNat (rot (ls.getD c.toNat []) (b.toNat % (ls.getD c.toNat []).length)) else []
theorem backC_bad {ls : List (List Int)} {c : Int} (h : ¬ cdE ls [c] = 0) : backC ls c = [] := by unfold backC; rw [if_neg h]
theorem backC_ok {ls : List (List Int)} {c : Nat} (h : cdE ls [(c : Int)] = 0) : backC ls c = ls.set c (ls.getD c []).reverse := by unfold backC; rw [if_pos h]; rfl
theorem tE_bad {ls : List (List Int)} {c b : Int} (h : ¬ cdE ls [c] = 0) : tE ls c b = cdE ls [c] := by unfold tE; rw [if_neg h]
theorem tE_out {ls : List (List Int)} {c b : Int} (h : cdE ls [c] = 0) (hb : ¬ (0 ≤ b ∧ b ≤ 1000)) : tE ls c b = 2 := by unfold tE; rw [if_pos h, if_neg hb]
theorem tE_ok {ls : List (List Int)} {c b : Int} (h : cdE ls [c] = 0) (hb : 0 ≤ b ∧ b ≤ 1000) : tE ls c b = 0 := by unfold tE; rw [if_pos h, if_pos hb]
theorem turnC_bad {ls : List (List Int)} {c b : Int} (h : ¬ tE ls c b = 0) : turnC ls c b = [] := by unfold turnC; rw [if_neg h]
theorem turnC_ok {ls : List (List Int)} {c b : Nat} (h : tE ls c b = 0) : turnC ls c b = ls.set c (rot (ls.getD c []) (b % (ls.getD c []).length)) := by unfold turnC; rw [if_pos h]; rfl
theorem tot_set {ls : List (List Int)} {c : Nat} {m : List Int} (h : m.length = (ls.getD c []).length) : tot (ls.set c m) = tot ls := by
  by_cases hc : c < ls.length
  · unfold tot
    have e : (ls.set c m).map List.length = ls.map List.length := by
      apply List.ext_getElem
      · simp
      · intro i h1 h2
        simp only [List.getElem_map, List.getElem_set]
        by_cases e : c = i
        · subst e
          rw [if_pos rfl, h]
          simp [List.getD, List.getElem?_eq_getElem hc]
        · rw [if_neg e]
    rw [e]
  · rw [List.set_eq_of_length_le (by omega)]
theorem backC_size {ls : List (List Int)} (c : Int) (hb : ls.length + tot ls ≤ 1073741824) : (backC ls c).length + tot (backC ls c) ≤ 1073741824 := by
  unfold backC
  by_cases h : cdE ls [c] = 0
  · rw [if_pos h, List.length_set, tot_set (by simp)]; exact hb
  · rw [if_neg h]; simp [tot]
theorem turnC_size {ls : List (List Int)} (c b : Int) (hb : ls.length + tot ls ≤ 1073741824) : (turnC ls c b).length + tot (turnC ls c b) ≤ 1073741824 := by
  unfold turnC
  by_cases h : tE ls c b = 0
  · rw [if_pos h, List.length_set, tot_set (by rw [length_rot])]; exact hb
  · rw [if_neg h]; simp [tot]
theorem inner_set {us : List Value} {ls : List (List Int)} {c : Nat} {u : Value} {m : List Int} {F : List Ent} {x : Value} (h : us.length = ls.length) (hc : c < ls.length) :
    Ext (ssE x (us.set c u) (ls.set c m)) (.row 2 1 u m.length (ints m) :: .row 32 1 x ls.length (us.set c u) :: (inner us ls ++ F)) := by
  have h1 := inner_split (vs := us.set c u) (ls := ls.set c m) (k := c) (by simpa using h) (by simpa using hc)
  have e1 : (us.set c u).getD c undef = u := by simp [List.getD, show c < us.length by omega]
  have e2 : (ls.set c m).getD c [] = m := by simp [List.getD, hc]
  rw [e1, e2] at h1
  have h2 := inner_split (vs := us) (ls := ls) (k := c) h hc
  unfold ssE
  rw [h1, h2]
  simp only [List.take_set_of_le, List.drop_set_of_lt, Nat.le_refl, Nat.lt_succ_self, List.length_set]
  refine ⟨.row 2 1 (us.getD c undef) (ls.getD c []).length (ints (ls.getD c [])) :: F, ?_⟩
  simp only [List.append_assoc, List.cons_append]
  refine List.Perm.trans ?_ (List.Perm.swap _ _ _)
  refine List.Perm.cons _ ?_
  refine List.Perm.trans List.perm_middle (List.Perm.cons _ (List.Perm.append_left _ List.perm_middle))

set_option maxRecDepth 4000 in
/-- impl.hasIndex -/
theorem f_i_hasIndex (w : World) (k : Int) (n : Int) (hn : 0 ≤ n ∧ n ≤ 9223372036854775807) : RetV Try.prog 168 [.int .i64 k, .int .i64 n] w (.bool (decide (0 ≤ k ∧ k ≤ n - 1))) := by
  refine Ret.enter Try.func168 rfl Try.ntmps168 rfl ?_
  refine Run.seq ?_
  refine Run.region ?_
  refine Ops.pure rfl (Pure.assign rfl) ?_
  refine Ops.nil ?_
  refine Run.seq ?_
  refine Run.region ?_
  refine Ops.pure rfl (Pure.move rfl) ?_
  refine Ops.pure rfl (Pure.move rfl) ?_
  refine Ops.pure rfl (Pure.sub rfl rfl (by omega) (by omega)) ?_
  refine Ops.q rfl (QOp.call fn93 rfl (fun w hw => f_i_inRange w _ _ _)) ?_
  refine Ops.pure rfl (Pure.assign rfl) ?_
  refine Ops.nil ?_
  refine Run.ret1 rfl rfl ?_
  rfl

set_option maxRecDepth 4000 in
/-- impl.codedCode -/
theorem f_i_codedCode (w : World) (v : Value) (ls : List (List Int)) (vl : Value) (l : List Int) (hs : RdSS w v ls) (hb : ls.length + tot ls ≤ 1073741824) (hl : Rd w vl 1 l.length (ints l)) (hlb : l.length ≤ 1073741824) : RetV Try.prog 91 [v, vl] w (.int .i64 (cdE ls l)) := by
  have hs0 := hs
  obtain ⟨vs, hvl, hv, hr⟩ := hs
  refine Ret.enter Try.func91 rfl Try.ntmps91 rfl ?_
  refine Run.seq ?_
  refine Run.region ?_
  refine Ops.pure rfl (Pure.assign rfl) ?_
  refine Ops.nil ?_
  refine Run.seq ?_
  refine Run.seq ?_
  refine Run.region ?_
  refine Ops.pure rfl (Pure.move rfl) ?_
  refine Ops.q rfl (QOp.call fn23 rfl (fun w hw => f_i_ValidCode w _ _ (by exact RdSS.old (by assumption) hw) (by assumption))) ?_
  refine Ops.pure rfl (Pure.not rfl) ?_
  refine Ops.nil ?_
  refine Run.cond rfl (fun c9 => ?_) (fun c9 => ?_)
  · skip
    replace c9 := bT c9
    refine Run.seq ?_
    refine Run.region ?_
    refine Ops.pure rfl (Pure.assign rfl) ?_
    refine Ops.nil ?_
    refine Run.ret1 rfl rfl ?_
    rw [cdE_bad c9]
  · skip
    replace c9 := bF c9
    refine Run.skip ?_
    refine Run.seq ?_
    refine Run.seq ?_
    refine Run.region ?_
    refine Ops.pure rfl (Pure.move rfl) ?_
    refine Ops.pure rfl (Pure.len sl32 (RdL.old hl) rfl) ?_
    refine Ops.pure rfl (Pure.move rfl) ?_
    refine Ops.nil ?_
    refine Run.block ?_
    refine Run.loop (X := Nat) (fun k => [(0, v), (10, vl), (11, .int .i64 l.length), (12, .int .i64 k)]) (fun k => []) (fun k => k ≤ l.length ∧ ∀ j, j < k → 0 ≤ l.getD j 0 ∧ l.getD j 0 ≤ (ls.length : Int) - 1) (fun k => l.length - k) 0 ?_ ?_ ?_ ?_
    · exact ⟨by omega, by omega⟩
    · exact ⟨rfl, rfl, rfl, rfl, trivial⟩
    · exact Ext.refl _
    · intro k hinv0
      refine Run.seq ?_
      refine Run.region ?_
      refine Ops.pure rfl (Pure.lss rfl rfl) ?_
      refine Ops.nil ?_
      refine Run.seq ?_
      refine Run.cond rfl (fun c13 => ?_) (fun c13 => ?_)
      · skip
        replace c13 := dT c13
        refine Run.skip ?_
        refine Run.seq ?_
        refine Run.block ?_
        refine Run.seq ?_
        refine Run.region ?_
        refine Ops.pure rfl (Pure.idx1N sl32 (RdL.old hl) rfl rfl (by first | assumption | omega | (simp; omega))) ?_
        refine Ops.pure rfl (Pure.ld cell2 rfl (RdL.old hl) (by first | exact ints_get (by omega) | exact bools_get (by omega) | exact strs_get (by omega) | exact vals_get (by first | omega | (simp; omega)))) ?_
        refine Ops.pure rfl (Pure.assign rfl) ?_
        refine Ops.nil ?_
        refine Run.seq ?_
        refine Run.region ?_
        refine Ops.pure rfl (Pure.move rfl) ?_
        refine Ops.pure rfl (Pure.move rfl) ?_
        refine Ops.pure rfl (Pure.len sl24 (RdL.old hv) rfl) ?_
        refine Ops.q rfl (QOp.call fn168 rfl (fun w hw => f_i_hasIndex w _ _ (by omega))) ?_
        refine Ops.pure rfl (Pure.not rfl) ?_
        refine Ops.nil ?_
        refine Run.cond rfl (fun c20 => ?_) (fun c20 => ?_)
        · skip
          replace c20 := nT c20
          refine Run.seq ?_
          refine Run.region ?_
          refine Ops.pure rfl (Pure.assign rfl) ?_
          refine Ops.nil ?_
          refine Run.ret1 rfl rfl ?_
          rw [cdE_out c9 (k := k) (by omega) c20]
        · skip
          replace c20 := nF c20
          refine Run.skip ?_
          refine Run.blk ?_
          refine Run.region ?_
          refine Ops.pure rfl (Pure.add rfl rfl (by omega) (by omega)) ?_
          refine Ops.pure rfl (Pure.move rfl) ?_
          refine Ops.nil ?_
          refine Run.asrt ?_
          exact ⟨k + 1, ⟨⟨by omega, fun j hj => step_lt (p := fun j => 0 ≤ l.getD j 0 ∧ l.getD j 0 ≤ (ls.length : Int) - 1) hj hinv0.2 c20⟩, by omega⟩, ⟨rfl, rfl, rfl, rfl, trivial⟩, Ext.nil _⟩
      · skip
        replace c13 := dF c13
        refine Run.exit rfl ?_
        refine Run.seq ?_
        refine Run.region ?_
        refine Ops.pure rfl (Pure.assign rfl) ?_
        refine Ops.nil ?_
        refine Run.ret1 rfl rfl ?_
        rw [cdE_ok c9 (k := k) (by omega) hinv0.2]

set_option maxRecDepth 4000 in
/-- slices.Reverse[[]int64,int64] -/
theorem f_slices_Reverse_int64_int64 (w0 : World) (w : World) (v : Value) (l : List Int) (F : List Ent) (hw : Sat w0 w (.row 2 1 v l.length (ints l) :: F)) (hl : l.length ≤ 1073741824) : RetO Try.prog 92 [v] w0 w (fun u L => u = .tuple #[] ∧ L = .row 2 1 v l.length (ints l.reverse) :: F) := by
  refine RetO.enter Try.func92 rfl Try.ntmps92 rfl hw ?_
  refine Run.seq ?_
  refine Run.region ?_
  refine Ops.pure rfl (Pure.move rfl) ?_
  refine Ops.pure rfl (Pure.len sl32 (RdL.own 0 rfl) rfl) ?_
  refine Ops.pure rfl (Pure.sub rfl rfl (by omega) (by omega)) ?_
  refine Ops.pure rfl (Pure.assign rfl) ?_
  refine Ops.pure rfl (Pure.assign rfl) ?_
  refine Ops.nil ?_
  refine Run.block ?_
  refine Run.loop (X := Nat) (fun i => [(0, v), (2, .int .i64 i), (3, .int .i64 ((l.length : Int) - 1 - i))]) (fun i => .row 2 1 v l.length (ints (revTo l i)) :: F) (fun i => 2 * i ≤ l.length) (fun i => l.length - i) 0 ?_ ?_ ?_ ?_
  · omega
  · exact ⟨rfl, rfl, by rw [show (l.length : Int) - 1 - ((0 : Nat) : Int) = l.length - 1 by omega]; rfl, trivial⟩
  · exact Ext.eq (by rw [revTo_zero])
  · intro i hinv0
    have hrl := length_revTo l i
    have hrl2 : (ints (revTo l i)).length = l.length := by rw [ints, List.length_map]; exact hrl
    have hrl3 : ∀ u : Value, ((ints (revTo l i)).set i u).length = l.length := fun u => by rw [List.length_set]; exact hrl2
    refine Run.seq ?_
    refine Run.seq ?_
    refine Run.region ?_
    refine Ops.pure rfl (Pure.move rfl) ?_
    refine Ops.pure rfl (Pure.move rfl) ?_
    refine Ops.pure rfl (Pure.lss rfl rfl) ?_
    refine Ops.nil ?_
    refine Run.cond rfl (fun c9 => ?_) (fun c9 => ?_)
    · skip
      replace c9 := dT c9
      refine Run.skip ?_
      refine Run.seq ?_
      refine Run.block ?_
      refine Run.setv 3 rfl (congrArg (Value.int .i64) (show (l.length : Int) - 1 - i = ((l.length - 1 - i : Nat) : Int) by omega)) ?_
      refine Any.start follows ?_
      refine Any.take 0 rfl (by kernel_rfl) rfl (QOp.pure (Pure.move rfl)) ?_
      refine Any.take 1 rfl (by kernel_rfl) rfl (QOp.pure (Pure.move rfl)) ?_
      refine Any.take 2 rfl (by kernel_rfl) rfl (QOp.pure (Pure.move rfl)) ?_
      refine Any.take 3 rfl (by kernel_rfl) rfl (QOp.pure (Pure.move rfl)) ?_
      refine Any.take 4 rfl (by kernel_rfl) rfl (QOp.pure (Pure.move rfl)) ?_
      refine Any.take 5 rfl (by kernel_rfl) rfl (QOp.pure (Pure.move rfl)) ?_
      refine Any.take 6 rfl (by kernel_rfl) rfl (QOp.pure (Pure.idx1N sl32 (RdL.own 0 rfl) rfl rfl (by first | assumption | omega | (simp; omega)))) ?_
      refine Any.take 7 rfl (by kernel_rfl) rfl (QOp.pure (Pure.ld cell2 rfl (RdL.own 0 rfl) (by first | exact ints_get (by omega) | exact bools_get (by omega) | exact strs_get (by omega) | exact vals_get (by first | omega | (simp; omega))))) ?_
      refine Any.take 8 rfl (by kernel_rfl) rfl (QOp.pure (Pure.move rfl)) ?_
      refine Any.take 9 rfl (by kernel_rfl) rfl (QOp.pure (Pure.move rfl)) ?_
      refine Any.take 10 rfl (by kernel_rfl) rfl (QOp.pure (Pure.idx1N sl32 (RdL.own 0 rfl) rfl rfl (by first | assumption | omega | (simp; omega)))) ?_
      refine Any.take 11 rfl (by kernel_rfl) rfl (QOp.pure (Pure.ld cell2 rfl (RdL.own 0 rfl) (by first | exact ints_get (by omega) | exact bools_get (by omega) | exact strs_get (by omega) | exact vals_get (by first | omega | (simp; omega))))) ?_
      refine Any.take 12 rfl (by kernel_rfl) rfl (QOp.pure (Pure.idx1N sl32 (RdL.own 0 rfl) rfl rfl (by first | assumption | omega | (simp; omega)))) ?_
      refine Any.one 13 (by kernel_rfl) ?_
      refine OneL.store rfl (Stores.row1 0 rfl size2 rfl rfl rfl (by first | assumption | omega | (simp; omega))) (by kernel_rfl) ?_
      refine Any.take 14 rfl (by kernel_rfl) rfl (QOp.pure (Pure.idx1N sl32 (RdL.own 0 rfl) rfl rfl (by first | assumption | omega | (simp; omega)))) ?_
      refine Any.one 15 (by kernel_rfl) ?_
      refine OneL.store rfl (Stores.row1 0 rfl size2 rfl rfl rfl (by first | assumption | omega | (simp; omega))) (by kernel_rfl) ?_
      refine Any.done (by kernel_rfl) ?_
      refine Run.blk ?_
      refine Run.region ?_
      refine Ops.pure rfl (Pure.move rfl) ?_
      refine Ops.pure rfl (Pure.add rfl rfl (by omega) (by omega)) ?_
      refine Ops.pure rfl (Pure.move rfl) ?_
      refine Ops.pure rfl (Pure.sub rfl rfl (by omega) (by omega)) ?_
      refine Ops.pure rfl (Pure.assign rfl) ?_
      refine Ops.pure rfl (Pure.assign rfl) ?_
      refine Ops.nil ?_
      refine Run.asrt ?_
      refine ⟨i + 1, ⟨by omega, by omega⟩, ⟨rfl, rfl, by rw [show (l.length : Int) - 1 - ((i + 1 : Nat) : Int) = ((l.length - 1 - i : Nat) : Int) - 1 by omega]; rfl, trivial⟩, Ext.eq ?_⟩
      rw [← revTo_swap (by omega)]
      show Ent.row _ _ _ _ (ints (List.set _ _ _)) :: _ = Ent.row _ _ _ _ (List.set (List.set _ _ _) _ _) :: _
      rw [ints_set, ints_set]
    · skip
      replace c9 := dF c9
      refine Run.exit rfl ?_
      refine Run.end0 rfl ?_
      exact ⟨rfl, by rw [revTo_full (by omega)]⟩

end Go.Proofs.Ytmfinopdokkjcaa
