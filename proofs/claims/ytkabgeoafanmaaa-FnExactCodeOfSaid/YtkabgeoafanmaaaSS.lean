/- Contracts of functions, printed by program from annotations. -/
import Derived.Test.YtkabgeoafanmaaaInts
namespace Go.Proofs.Ytkabgeoafanmaaa
open Go Go.AW Go.RowKit
set_option linter.unusedVariables false
set_option linter.unusedSimpArgs false

/-- A slice of slices of integers, as it reads. -/
def RdSS (w : World) (v : Value) (ls : List (List Int)) : Prop :=
  ∃ vs : List Value, vs.length = ls.length ∧ Rd w v 1 ls.length vs ∧ ∀ i, i < ls.length → Rd w (vs.getD i undef) 1 (ls.getD i []).length (ints (ls.getD i []))
theorem RdSS.below {w w' : World} {v : Value} {ls : List (List Int)} (h : RdSS w v ls) (hb : Below w.heap.size w w') : RdSS w' v ls := by
  obtain ⟨vs, h1, h2, h3⟩ := h
  exact ⟨vs, h1, h2.below hb, fun i hi => (h3 i hi).below hb⟩

def inner (vs : List Value) (ls : List (List Int)) : List Ent := List.zipWith (fun x l => .row 2 1 x l.length (ints l)) vs ls
/-- A slice of slices of the call's own. -/
def ssE (v : Value) (vs : List Value) (ls : List (List Int)) : List Ent := .row 25 1 v ls.length vs :: inner vs ls

theorem inner_mem {vs : List Value} {ls : List (List Int)} (h : vs.length = ls.length) {i : Nat} (hi : i < ls.length) : Ent.row 2 1 (vs.getD i undef) (ls.getD i []).length (ints (ls.getD i [])) ∈ inner vs ls := by
  rw [List.mem_iff_getElem?]
  exact ⟨i, by simp [inner, List.getElem?_zipWith, List.getD, List.getElem?_eq_getElem hi, List.getElem?_eq_getElem (show i < vs.length by omega)]⟩

theorem RdSS.own {w0 w : World} {L : List Ent} {v : Value} {vs : List Value} {ls : List (List Int)} (hw : Sat w0 w L) (h : vs.length = ls.length) (he : Ext (ssE v vs ls) L) : RdSS w v ls := by
  have hs := hw.ext he
  exact ⟨vs, h, Rd.of_own (hs.own (.row 25 1 v ls.length vs) (by simp [ssE])), fun i hi => Rd.of_own (hs.own _ (List.mem_cons_of_mem _ (inner_mem h hi)))⟩
theorem RdSS.old {w0 w : World} {L : List Ent} {v : Value} {ls : List (List Int)} (h : RdSS w0 v ls) (hw : Sat w0 w L) : RdSS w v ls := h.below hw.below

def tot (ls : List (List Int)) : Nat := (ls.map List.length).sum
theorem tot_take_succ {ls : List (List Int)} {k : Nat} (h : k < ls.length) : tot (ls.take (k + 1)) = tot (ls.take k) + (ls.getD k []).length := by
  unfold tot
  rw [List.take_add_one, getD_some h []]
  simp
theorem tot_take_le (ls : List (List Int)) (k : Nat) : tot (ls.take k) ≤ tot ls := by
  have h : tot ls = tot (ls.take k) + tot (ls.drop k) := by
    unfold tot
    rw [← List.sum_append_nat, ← List.map_append, List.take_append_drop]
  omega
theorem tot_take_all {ls : List (List Int)} {k : Nat} (h : k = ls.length) : tot (ls.take k) = tot ls := by subst h; simp
theorem len_le_tot {ls : List (List Int)} {k : Nat} (h : k < ls.length) : (ls.getD k []).length ≤ tot ls := by
  have h1 := tot_take_succ h
  have h2 := tot_take_le ls (k + 1)
  omega

def markSS (k : Int) : List (List Int) → List (List Int)
  | [] => []
  | l :: r => marks k l.length :: markSS (k + l.length) r
theorem length_markSS : ∀ (ls : List (List Int)) (k : Int), (markSS k ls).length = ls.length
  | [], _ => rfl
  | l :: r, k => by simp [markSS, length_markSS r]
theorem markSS_getD : ∀ (ls : List (List Int)) (k : Int) (i : Nat), i < ls.length → (markSS k ls).getD i [] = marks (k + tot (ls.take i)) (ls.getD i []).length
  | [], _, i, h => by simp at h
  | l :: r, k, 0, _ => by simp [markSS, tot]
  | l :: r, k, i + 1, h => by
    have ih := markSS_getD r (k + l.length) i (by simpa using h)
    simp only [markSS, List.getD_cons_succ, ih, List.take_succ_cons, tot, List.map_cons, List.sum_cons]
    congr 1
    omega
theorem tot_markSS (k : Int) (ls : List (List Int)) : tot (markSS k ls) = tot ls := by
  induction ls generalizing k with
  | nil => rfl
  | cons l r ih => simp only [markSS, tot, List.map_cons, List.sum_cons, length_marks] at *; rw [ih]
/-- the first j rows marked -/
def mkTo (k : Int) (ls : List (List Int)) (j : Nat) : List (List Int) := (markSS k ls).take j ++ ls.drop j
theorem mkTo_zero (k : Int) (ls : List (List Int)) : mkTo k ls 0 = ls := by simp [mkTo]
theorem mkTo_full {k : Int} {ls : List (List Int)} {j : Nat} (h : j = ls.length) : mkTo k ls j = markSS k ls := by
  subst h
  simp [mkTo, ← length_markSS ls k]
theorem length_mkTo (k : Int) (ls : List (List Int)) (j : Nat) : (mkTo k ls j).length = ls.length := by
  simp [mkTo, length_markSS]
  omega
theorem mkTo_getD {k : Int} {ls : List (List Int)} {j : Nat} (h : j < ls.length) : (mkTo k ls j).getD j [] = ls.getD j [] := by
  have hl : ((markSS k ls).take j).length = j := by simp [length_markSS]; omega
  unfold mkTo
  rw [List.getD_eq_getElem?_getD, List.getElem?_append_right (by omega), hl, Nat.sub_self]
  simp [List.getD]
theorem mkTo_step {k : Int} {ls : List (List Int)} {j : Nat} (h : j < ls.length) : (mkTo k ls j).set j (marks (k + tot (ls.take j)) (ls.getD j []).length) = mkTo k ls (j + 1) := by
  have hl : ((markSS k ls).take j).length = j := by simp [length_markSS]; omega
  unfold mkTo
  rw [List.set_append, if_neg (by omega), hl, Nat.sub_self, List.drop_eq_getElem_cons h, List.set_cons_zero, List.take_add_one, getD_some (by rw [length_markSS]; exact h) [], markSS_getD ls k j h]
  simp

/-- One row taken out of a slice of slices, and put back with other numbers. -/
def ssRest (v : Value) (vs : List Value) (ls : List (List Int)) (k : Nat) (F : List Ent) : List Ent :=
  .row 25 1 v ls.length vs :: (inner (vs.take k) (ls.take k) ++ inner (vs.drop (k + 1)) (ls.drop (k + 1)) ++ F)
theorem inner_split {vs : List Value} {ls : List (List Int)} {k : Nat} (h : vs.length = ls.length) (hk : k < ls.length) :
    inner vs ls = inner (vs.take k) (ls.take k) ++ .row 2 1 (vs.getD k undef) (ls.getD k []).length (ints (ls.getD k [])) :: inner (vs.drop (k + 1)) (ls.drop (k + 1)) := by
  have e1 : vs = vs.take k ++ vs.getD k undef :: vs.drop (k + 1) := by
    have hv : k < vs.length := by omega
    conv => lhs; rw [← List.take_append_drop k vs]
    rw [List.drop_eq_getElem_cons hv]
    simp [List.getD, List.getElem?_eq_getElem hv]
  have e2 : ls = ls.take k ++ ls.getD k [] :: ls.drop (k + 1) := by
    conv => lhs; rw [← List.take_append_drop k ls]
    rw [List.drop_eq_getElem_cons hk]
    simp [List.getD, List.getElem?_eq_getElem hk]
  conv => lhs; rw [e1, e2]
  unfold inner
  rw [List.zipWith_append (by simp; omega)]
  rfl
theorem ss_focus {v : Value} {vs : List Value} {ls : List (List Int)} {k : Nat} {F : List Ent} (h : vs.length = ls.length) (hk : k < ls.length) :
    (ssE v vs ls ++ F).Perm (.row 2 1 (vs.getD k undef) (ls.getD k []).length (ints (ls.getD k [])) :: ssRest v vs ls k F) := by
  unfold ssE ssRest
  rw [inner_split h hk]
  simp only [List.cons_append, List.append_assoc]
  refine List.Perm.trans (List.Perm.cons _ List.perm_middle) ?_
  exact List.Perm.swap _ _ _
theorem ss_put {v : Value} {vs : List Value} {ls : List (List Int)} {k : Nat} {F : List Ent} {m : List Int} (h : vs.length = ls.length) (hk : k < ls.length) (hm : m.length = (ls.getD k []).length) :
    (Ent.row 2 1 (vs.getD k undef) (ls.getD k []).length (ints m) :: ssRest v vs ls k F).Perm (ssE v vs (ls.set k m) ++ F) := by
  have h1 := ss_focus (v := v) (vs := vs) (ls := ls.set k m) (k := k) (F := F) (by simpa using h) (by simpa using hk)
  have e : (ls.set k m).getD k [] = m := by simp [List.getD, hk]
  rw [e, hm] at h1
  refine List.Perm.trans (List.Perm.of_eq ?_) h1.symm
  unfold ssRest
  simp [List.take_set_of_le, List.drop_set_of_lt]
theorem inner_snoc {us : List Value} {ls : List (List Int)} {u : Value} {k : Nat} (h : us.length = k) (hk : k < ls.length) : inner (us ++ [u]) (ls.take (k + 1)) = inner us (ls.take k) ++ [.row 2 1 u (ls.getD k []).length (ints (ls.getD k []))] := by
  unfold inner
  rw [List.take_add_one, getD_some hk [], Option.toList_some, List.zipWith_append (by simp; omega)]
  rfl

set_option maxRecDepth 4000 in
/-- laws.eqInt64SS -/
theorem f_l_eqInt64SS (w : World) (v : Value) (u : Value) (ls : List (List Int)) (ms : List (List Int)) (hs : RdSS w v ls) (ht : RdSS w u ms) (hb : ls.length + tot ls ≤ 1073741824) (hc : ms.length + tot ms ≤ 1073741824) : RetV Try.prog 43 [v, u] w (.bool (decide (ls = ms))) := by
  obtain ⟨vs, hvl, hv, hr⟩ := hs
  obtain ⟨us, hul, hu, hq⟩ := ht
  refine Ret.enter Try.func43 rfl Try.ntmps43 rfl ?_
  refine Run.seq ?_
  refine Run.region ?_
  refine Ops.pure rfl (Pure.assign rfl) ?_
  refine Ops.nil ?_
  refine Run.seq ?_
  refine Run.seq ?_
  refine Run.region ?_
  refine Ops.pure rfl (Pure.move rfl) ?_
  refine Ops.pure rfl (Pure.len sl52 (RdL.old hv) rfl) ?_
  refine Ops.pure rfl (Pure.move rfl) ?_
  refine Ops.pure rfl (Pure.len sl52 (RdL.old hu) rfl) ?_
  refine Ops.pure rfl (Pure.neq rfl rfl) ?_
  refine Ops.nil ?_
  refine Run.cond rfl (fun c10 => ?_) (fun c10 => ?_)
  · skip
    replace c10 := nT c10
    refine Run.seq ?_
    refine Run.region ?_
    refine Ops.pure rfl (Pure.assign rfl) ?_
    refine Ops.nil ?_
    refine Run.ret1 rfl rfl ?_
    rw [decide_eq_false (by rintro rfl; exact c10 rfl)]
  · skip
    replace c10 := nF c10
    have hlen : ls.length = ms.length := by omega
    refine Run.skip ?_
    refine Run.seq ?_
    refine Run.seq ?_
    refine Run.region ?_
    refine Ops.pure rfl (Pure.assign rfl) ?_
    refine Ops.nil ?_
    refine Run.block ?_
    refine Run.loop (X := Nat) (fun k => [(0, v), (1, u), (5, .int .i64 k)]) (fun k => []) (fun k => k ≤ ls.length ∧ ∀ j, j < k → ls.getD j [] = ms.getD j []) (fun k => ls.length - k) 0 ?_ ?_ ?_ ?_
    · exact ⟨by omega, by omega⟩
    · exact ⟨rfl, rfl, rfl, trivial⟩
    · exact Ext.refl _
    · intro k hinv0
      have hlk := len_le_tot (ls := ls) (k := k)
      have hlm := len_le_tot (ls := ms) (k := k)
      refine Run.seq ?_
      refine Run.seq ?_
      refine Run.region ?_
      refine Ops.pure rfl (Pure.move rfl) ?_
      refine Ops.pure rfl (Pure.move rfl) ?_
      refine Ops.pure rfl (Pure.len sl52 (RdL.old hv) rfl) ?_
      refine Ops.pure rfl (Pure.lss rfl rfl) ?_
      refine Ops.nil ?_
      refine Run.cond rfl (fun c14 => ?_) (fun c14 => ?_)
      · skip
        replace c14 := dT c14
        refine Run.skip ?_
        refine Run.seq ?_
        refine Run.block ?_
        refine Run.seq ?_
        refine Any.start follows ?_
        refine Any.take 0 rfl (by kernel_rfl) rfl (QOp.pure (Pure.move rfl)) ?_
        refine Any.take 1 rfl (by kernel_rfl) rfl (QOp.pure (Pure.move rfl)) ?_
        refine Any.take 2 rfl (by kernel_rfl) rfl (QOp.pure (Pure.idx1N sl52 (RdL.old hv) rfl rfl (by first | assumption | omega | (simp; omega)))) ?_
        refine Any.take 3 rfl (by kernel_rfl) rfl (QOp.pure (Pure.ld cell25 rfl (RdL.old hv) (by first | exact ints_get (by omega) | exact bools_get (by omega) | exact strs_get (by omega) | exact vals_get (by first | omega | (simp; omega))))) ?_
        refine Any.take 4 rfl (by kernel_rfl) rfl (QOp.pure (Pure.move rfl)) ?_
        refine Any.take 5 rfl (by kernel_rfl) rfl (QOp.pure (Pure.move rfl)) ?_
        refine Any.take 6 rfl (by kernel_rfl) rfl (QOp.pure (Pure.idx1N sl52 (RdL.old hu) rfl rfl (by first | assumption | omega | (simp; omega)))) ?_
        refine Any.take 7 rfl (by kernel_rfl) rfl (QOp.pure (Pure.ld cell25 rfl (RdL.old hu) (by first | exact ints_get (by omega) | exact bools_get (by omega) | exact strs_get (by omega) | exact vals_get (by first | omega | (simp; omega))))) ?_
        refine Any.take 8 rfl (by kernel_rfl) rfl (QOp.call fn17 rfl (fun w hw => f_l_eqInt64S w _ _ _ _ (RdL.old (hr k (by omega)) w hw) (RdL.old (hq k (by omega)) w hw) (by omega) (by omega))) ?_
        refine Any.take 9 rfl (by kernel_rfl) rfl (QOp.pure (Pure.not rfl)) ?_
        refine Any.done (by kernel_rfl) ?_
        refine Run.cond rfl (fun c26 => ?_) (fun c26 => ?_)
        · skip
          replace c26 := nT c26
          refine Run.seq ?_
          refine Run.region ?_
          refine Ops.pure rfl (Pure.assign rfl) ?_
          refine Ops.nil ?_
          refine Run.ret1 rfl rfl ?_
          rw [decide_eq_false (by rintro rfl; exact c26 rfl)]
        · skip
          replace c26 := nF c26
          refine Run.skip ?_
          refine Run.blk ?_
          refine Run.region ?_
          refine Ops.pure rfl (Pure.move rfl) ?_
          refine Ops.pure rfl (Pure.add rfl rfl (by omega) (by omega)) ?_
          refine Ops.pure rfl (Pure.assign rfl) ?_
          refine Ops.nil ?_
          refine Run.asrt ?_
          exact ⟨k + 1, ⟨⟨by omega, fun j hj => step_lt (p := fun j => ls.getD j [] = ms.getD j []) hj hinv0.2 c26⟩, by omega⟩, ⟨rfl, rfl, rfl, trivial⟩, Ext.nil _⟩
      · skip
        replace c14 := dF c14
        refine Run.exit rfl ?_
        refine Run.seq ?_
        refine Run.region ?_
        refine Ops.pure rfl (Pure.assign rfl) ?_
        refine Ops.nil ?_
        refine Run.ret1 rfl rfl ?_
        rw [decide_eq_true (ext_getD [] hlen (fun j hj => hinv0.2 j (by omega)))]

set_option maxRecDepth 4000 in
/-- laws.heldInt64SS -/
theorem f_l_heldInt64SS (w : World) (v : Value) (ls : List (List Int)) (k0 : Int) (hs : RdSS w v ls) (hb : ls.length + tot ls ≤ 1073741824) (hk0 : 0 ≤ k0) (hk1 : k0 ≤ 2305843009213693952) : RetV Try.prog 45 [v, .int .i64 k0] w (.int .i64 (if ls = markSS k0 ls then k0 + tot ls else -1)) := by
  obtain ⟨vs, hvl, hv, hr⟩ := hs
  refine Ret.enter Try.func45 rfl Try.ntmps45 rfl ?_
  refine Run.seq ?_
  refine Run.region ?_
  refine Ops.pure rfl (Pure.assign rfl) ?_
  refine Ops.nil ?_
  refine Run.seq ?_
  refine Run.seq ?_
  refine Run.region ?_
  refine Ops.pure rfl (Pure.assign rfl) ?_
  refine Ops.nil ?_
  refine Run.block ?_
  refine Run.loop (X := Nat) (fun k => [(0, v), (1, .int .i64 (k0 + tot (ls.take k))), (5, .int .i64 k)]) (fun k => []) (fun k => k ≤ ls.length ∧ ∀ j, j < k → ls.getD j [] = (markSS k0 ls).getD j []) (fun k => ls.length - k) 0 ?_ ?_ ?_ ?_
  · exact ⟨by omega, by omega⟩
  · exact ⟨rfl, by simp [tot]; rfl, rfl, trivial⟩
  · exact Ext.refl _
  · intro k hinv0
    have hlk := len_le_tot (ls := ls) (k := k)
    have htk := tot_take_le ls k
    have htk1 := tot_take_le ls (k + 1)
    have hts := tot_take_succ (ls := ls) (k := k)
    have hmg := markSS_getD ls k0 k
    refine Run.seq ?_
    refine Run.seq ?_
    refine Run.region ?_
    refine Ops.pure rfl (Pure.move rfl) ?_
    refine Ops.pure rfl (Pure.move rfl) ?_
    refine Ops.pure rfl (Pure.len sl52 (RdL.old hv) rfl) ?_
    refine Ops.pure rfl (Pure.lss rfl rfl) ?_
    refine Ops.nil ?_
    refine Run.cond rfl (fun c9 => ?_) (fun c9 => ?_)
    · skip
      replace c9 := dT c9
      refine Run.skip ?_
      refine Run.seq ?_
      refine Run.block ?_
      refine Run.seq ?_
      refine Run.region ?_
      refine Ops.pure rfl (Pure.move rfl) ?_
      refine Ops.pure rfl (Pure.move rfl) ?_
      refine Ops.pure rfl (Pure.idx1N sl52 (RdL.old hv) rfl rfl (by first | assumption | omega | (simp; omega))) ?_
      refine Ops.pure rfl (Pure.ld cell25 rfl (RdL.old hv) (by first | exact ints_get (by omega) | exact bools_get (by omega) | exact strs_get (by omega) | exact vals_get (by first | omega | (simp; omega)))) ?_
      refine Ops.pure rfl (Pure.move rfl) ?_
      refine Ops.q rfl (QOp.call fn19 rfl (fun w hw => f_l_heldInt64S w _ _ _ (RdL.old (hr k (by omega)) w hw) (by omega) (by omega) (by omega))) ?_
      refine Ops.pure rfl (Pure.assign rfl) ?_
      refine Ops.nil ?_
      refine Run.seq ?_
      by_cases hle : ls.getD k [] = marks (k0 + tot (ls.take k)) (ls.getD k []).length
      · skip
        rw [if_pos hle]
        refine Run.region ?_
        refine Ops.pure rfl (Pure.move rfl) ?_
        refine Ops.pure rfl (Pure.lss rfl rfl) ?_
        refine Ops.nil ?_
        refine Run.cond rfl (fun c19 => ?_) (fun c19 => ?_)
        · skip
          replace c19 := dT c19
          refine Run.seq ?_
          refine Run.region ?_
          refine Ops.pure rfl (Pure.assign rfl) ?_
          refine Ops.nil ?_
          refine Run.ret1 rfl rfl ?_
          first
            | (exfalso; omega)
            | rw [if_neg (by intro h; apply hle; rw [← hmg (by omega), ← h])]
        · skip
          replace c19 := dF c19
          refine Run.skip ?_
          refine Run.blk ?_
          refine Run.region ?_
          refine Ops.pure rfl (Pure.move rfl) ?_
          refine Ops.pure rfl (Pure.add rfl rfl (by omega) (by omega)) ?_
          refine Ops.pure rfl (Pure.assign rfl) ?_
          refine Ops.nil ?_
          refine Run.asrt ?_
          first
            | (exfalso; omega)
            | exact ⟨k + 1, ⟨⟨by omega, fun j hj => step_lt (p := fun j => ls.getD j [] = (markSS k0 ls).getD j []) hj hinv0.2 (by rw [hmg (by omega)]; exact hle)⟩, by omega⟩, ⟨rfl, by rw [show k0 + (tot (ls.take (k + 1)) : Nat) = k0 + (tot (ls.take k) : Nat) + ((ls.getD k []).length : Nat) by omega]; rfl, rfl, trivial⟩, Ext.nil _⟩
      · skip
        rw [if_neg hle]
        refine Run.region ?_
        refine Ops.pure rfl (Pure.move rfl) ?_
        refine Ops.pure rfl (Pure.lss rfl rfl) ?_
        refine Ops.nil ?_
        refine Run.cond rfl (fun c19 => ?_) (fun c19 => ?_)
        · skip
          replace c19 := dT c19
          refine Run.seq ?_
          refine Run.region ?_
          refine Ops.pure rfl (Pure.assign rfl) ?_
          refine Ops.nil ?_
          refine Run.ret1 rfl rfl ?_
          first
            | (exfalso; omega)
            | rw [if_neg (by intro h; apply hle; rw [← hmg (by omega), ← h])]
        · skip
          replace c19 := dF c19
          refine Run.skip ?_
          refine Run.blk ?_
          refine Run.region ?_
          refine Ops.pure rfl (Pure.move rfl) ?_
          refine Ops.pure rfl (Pure.add rfl rfl (by omega) (by omega)) ?_
          refine Ops.pure rfl (Pure.assign rfl) ?_
          refine Ops.nil ?_
          refine Run.asrt ?_
          first
            | (exfalso; omega)
            | exact ⟨k + 1, ⟨⟨by omega, fun j hj => step_lt (p := fun j => ls.getD j [] = (markSS k0 ls).getD j []) hj hinv0.2 (by rw [hmg (by omega)]; exact hle)⟩, by omega⟩, ⟨rfl, by rw [show k0 + (tot (ls.take (k + 1)) : Nat) = k0 + (tot (ls.take k) : Nat) + ((ls.getD k []).length : Nat) by omega]; rfl, rfl, trivial⟩, Ext.nil _⟩
    · skip
      replace c9 := dF c9
      refine Run.exit rfl ?_
      refine Run.seq ?_
      refine Run.region ?_
      refine Ops.pure rfl (Pure.move rfl) ?_
      refine Ops.pure rfl (Pure.assign rfl) ?_
      refine Ops.nil ?_
      refine Run.ret1 rfl rfl ?_
      rw [if_pos (ext_getD [] (length_markSS _ _).symm (fun j hj => hinv0.2 j (by omega))), tot_take_all (by omega)]

set_option maxRecDepth 4000 in
/-- laws.markInt64SS -/
theorem f_l_markInt64SS (w0 : World) (w : World) (v : Value) (vs : List Value) (ls : List (List Int)) (k0 : Int) (F : List Ent) (hw : Sat w0 w (ssE v vs ls ++ F)) (hvl : vs.length = ls.length) (hb : ls.length + tot ls ≤ 1073741824) (hk0 : 0 ≤ k0) (hk1 : k0 ≤ 2305843009213693952) : RetO Try.prog 44 [v, .int .i64 k0] w0 w (fun u L => u = .int .i64 (k0 + tot ls) ∧ L = ssE v vs (markSS k0 ls) ++ F) := by
  refine RetO.enter Try.func44 rfl Try.ntmps44 rfl hw ?_
  refine Run.seq ?_
  refine Run.region ?_
  refine Ops.pure rfl (Pure.assign rfl) ?_
  refine Ops.nil ?_
  refine Run.seq ?_
  refine Run.seq ?_
  refine Run.region ?_
  refine Ops.pure rfl (Pure.assign rfl) ?_
  refine Ops.nil ?_
  refine Run.block ?_
  refine Run.loop (X := Nat) (fun k => [(0, v), (1, .int .i64 (k0 + tot (ls.take k))), (5, .int .i64 k)]) (fun k => ssE v vs (mkTo k0 ls k) ++ F) (fun k => k ≤ ls.length) (fun k => ls.length - k) 0 ?_ ?_ ?_ ?_
  · exact Nat.zero_le _
  · exact ⟨rfl, by simp [tot]; rfl, rfl, trivial⟩
  · exact Ext.eq (by rw [mkTo_zero])
  · intro k hinv0
    have hlk := len_le_tot (ls := ls) (k := k)
    have htk := tot_take_le ls k
    have htk1 := tot_take_le ls (k + 1)
    have hts := tot_take_succ (ls := ls) (k := k)
    have hml := length_mkTo k0 ls k
    have hmk := mkTo_getD (k := k0) (ls := ls) (j := k)
    have hrd : RdL w0 (ssE v vs (mkTo k0 ls k) ++ F) v 1 ls.length vs := by rw [← hml]; exact RdL.own 0 rfl
    refine Run.seq ?_
    refine Run.seq ?_
    refine Run.region ?_
    refine Ops.pure rfl (Pure.move rfl) ?_
    refine Ops.pure rfl (Pure.move rfl) ?_
    refine Ops.pure rfl (Pure.len sl52 hrd rfl) ?_
    refine Ops.pure rfl (Pure.lss rfl rfl) ?_
    refine Ops.nil ?_
    refine Run.cond rfl (fun c9 => ?_) (fun c9 => ?_)
    · skip
      replace c9 := dT c9
      refine Run.skip ?_
      refine Run.seq ?_
      refine Run.block ?_
      refine Run.region ?_
      refine Ops.pure rfl (Pure.move rfl) ?_
      refine Ops.pure rfl (Pure.move rfl) ?_
      refine Ops.pure rfl (Pure.idx1N sl52 hrd rfl rfl (by first | assumption | omega | (simp; omega))) ?_
      refine Ops.pure rfl (Pure.ld cell25 rfl hrd (by first | exact ints_get (by omega) | exact bools_get (by omega) | exact strs_get (by omega) | exact vals_get (by first | omega | (simp; omega)))) ?_
      refine Ops.pure rfl (Pure.move rfl) ?_
      refine Ops.go rfl (Loud.callO fn18 rfl (fun w hw => f_l_markInt64S _ w (vs.getD k undef) (ls.getD k []) _ (ssRest v vs (mkTo k0 ls k) k F) (by have h := hw.perm (ss_focus (v := v) (F := F) (vs := vs) (ls := mkTo k0 ls k) (k := k) (by rw [hml]; exact hvl) (show k < (mkTo k0 ls k).length by omega)); rw [hmk (by omega)] at h; exact h) (by omega) (by omega) (by omega))) ?_
      rintro v17 L17 hQ17
      obtain ⟨rfl, rfl⟩ := hQ17
      refine Ops.pure rfl (Pure.assign rfl) ?_
      refine Ops.nil ?_
      refine Run.blk ?_
      refine Run.region ?_
      refine Ops.pure rfl (Pure.move rfl) ?_
      refine Ops.pure rfl (Pure.add rfl rfl (by omega) (by omega)) ?_
      refine Ops.pure rfl (Pure.assign rfl) ?_
      refine Ops.nil ?_
      refine Run.asrt ?_
      refine ⟨k + 1, ⟨by omega, by omega⟩, ⟨rfl, by rw [show k0 + (tot (ls.take (k + 1)) : Nat) = k0 + (tot (ls.take k) : Nat) + ((ls.getD k []).length : Nat) by omega]; rfl, rfl, trivial⟩, ?_⟩
      rw [← mkTo_step (by omega)]
      exact ⟨[], by rw [List.append_nil]; refine List.Perm.symm ?_; have h := ss_put (v := v) (F := F) (vs := vs) (ls := mkTo k0 ls k) (k := k) (m := marks (k0 + tot (ls.take k)) (ls.getD k []).length) (by rw [hml]; exact hvl) (by rw [hml]; omega) (by rw [hmk (by omega), length_marks]); rw [hmk (by omega)] at h; exact h⟩
    · skip
      replace c9 := dF c9
      refine Run.exit rfl ?_
      refine Run.seq ?_
      refine Run.region ?_
      refine Ops.pure rfl (Pure.move rfl) ?_
      refine Ops.pure rfl (Pure.assign rfl) ?_
      refine Ops.nil ?_
      refine Run.ret1 rfl rfl ?_
      have e : k = ls.length := by omega
      subst e
      exact ⟨by rw [List.take_length], by rw [mkTo_full rfl]⟩

end Go.Proofs.Ytkabgeoafanmaaa
