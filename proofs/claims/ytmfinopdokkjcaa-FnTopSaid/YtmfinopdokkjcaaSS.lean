/- Contracts of functions, printed by program from annotations. -/
import Derived.Test.YtmfinopdokkjcaaInts
namespace Go.Proofs.Ytmfinopdokkjcaa
open Go Go.AW Go.RowKit
set_option linter.unusedVariables false
set_option linter.unusedSimpArgs false

/-- A slice of slices of integers, as it reads. -/
def RdSS (w : World) (v : Value) (ls : List (List Int)) : Prop :=
  ∃ vs : List Value, vs.length = ls.length ∧ Rd w v 1 ls.length vs ∧ ∀ i, i < ls.length → Rd w (vs.getD i undef) 1 (ls.getD i []).length (ints (ls.getD i []))
theorem RdSS.below {w w' : World} {v : Value} {ls : List (List Int)} (h : RdSS w v ls) (hb : Below w.heap.size w w') : RdSS w' v ls := by
  obtain ⟨vs, h1, h2, h3⟩ := h
  exact ⟨vs, h1, h2.below hb, fun i hi => (h3 i hi).below hb⟩

def inner (vs : List Value) (ls : List (List Int)) : List Ent := List.zipWith (fun x l => .row 2 1 x l.length (ints l)) vs ls
/-- A slice of slices of the call's own. -/
def ssE (v : Value) (vs : List Value) (ls : List (List Int)) : List Ent := .row 32 1 v ls.length vs :: inner vs ls

theorem inner_mem {vs : List Value} {ls : List (List Int)} (h : vs.length = ls.length) {i : Nat} (hi : i < ls.length) : Ent.row 2 1 (vs.getD i undef) (ls.getD i []).length (ints (ls.getD i [])) ∈ inner vs ls := by
  rw [List.mem_iff_getElem?]
  exact ⟨i, by simp [inner, List.getElem?_zipWith, List.getD, List.getElem?_eq_getElem hi, List.getElem?_eq_getElem (show i < vs.length by omega)]⟩

theorem RdSS.own {w0 w : World} {L : List Ent} {v : Value} {vs : List Value} {ls : List (List Int)} (hw : Sat w0 w L) (h : vs.length = ls.length) (he : Ext (ssE v vs ls) L) : RdSS w v ls := by
  have hs := hw.ext he
  exact ⟨vs, h, Rd.of_own (hs.own (.row 32 1 v ls.length vs) (by simp [ssE])), fun i hi => Rd.of_own (hs.own _ (List.mem_cons_of_mem _ (inner_mem h hi)))⟩
theorem RdSS.old {w0 w : World} {L : List Ent} {v : Value} {ls : List (List Int)} (h : RdSS w0 v ls) (hw : Sat w0 w L) : RdSS w v ls := h.below hw.below

def tot (ls : List (List Int)) : Nat := (ls.map List.length).sum
theorem tot_take_succ {ls : List (List Int)} {k : Nat} (h : k < ls.length) : tot (ls.take (k + 1)) = tot (ls.take k) + (ls.getD k []).length := by
  unfold tot
  rw [List.take_add_one, getD_some h []]
  simp
theorem tot_take_le (ls : List (List Int)) (k : Nat) : tot (ls.take k) ≤ tot ls := by
  have h : tot ls = tot (ls.take k) + tot (ls.drop k) := by
    unfold tot
    rw [← List.sum_append_nat, ← List.map_append, List.take_append_drop]
  omega
theorem tot_take_all {ls : List (List Int)} {k : Nat} (h : k = ls.length) : tot (ls.take k) = tot ls := by subst h; simp
theorem len_le_tot {ls : List (List Int)} {k : Nat} (h : k < ls.length) : (ls.getD k []).length ≤ tot ls := by
  have h1 := tot_take_succ h
  have h2 := tot_take_le ls (k + 1)
  omega

def markSS (k : Int) : List (List Int) → List (List Int)
  | [] => []
  | l :: r => marks k l.length :: markSS (k + l.length) r
theorem length_markSS : ∀ (ls : List (List Int)) (k : Int), (markSS k ls).length = ls.length
  | [], _ => rfl
  | l :: r, k => by simp [markSS, length_markSS r]
theorem markSS_getD : ∀ (ls : List (List Int)) (k : Int) (i : Nat), i < ls.length → (markSS k ls).getD i [] = marks (k + tot (ls.take i)) (ls.getD i []).length
  | [], _, i, h => by simp at h
  | l :: r, k, 0, _ => by simp [markSS, tot]
  | l :: r, k, i + 1, h => by
    have ih := markSS_getD r (k + l.length) i (by simpa using h)
    simp only [markSS, List.getD_cons_succ, ih, List.take_succ_cons, tot, List.map_cons, List.sum_cons]
    congr 1
    omega
theorem tot_markSS (k : Int) (ls : List (List Int)) : tot (markSS k ls) = tot ls := by
  induction ls generalizing k with
  | nil => rfl
  | cons l r ih => simp only [markSS, tot, List.map_cons, List.sum_cons, length_marks] at *; rw [ih]
/-- the first j rows marked -/
def mkTo (k : Int) (ls : List (List Int)) (j : Nat) : List (List Int) := (markSS k ls).take j ++ ls.drop j
theorem mkTo_zero (k : Int) (ls : List (List Int)) : mkTo k ls 0 = ls := by simp [mkTo]
theorem mkTo_full {k : Int} {ls : List (List Int)} {j : Nat} (h : j = ls.length) : mkTo k ls j = markSS k ls := by
  subst h
  simp [mkTo, ← length_markSS ls k]
theorem length_mkTo (k : Int) (ls : List (List Int)) (j : Nat) : (mkTo k ls j).length = ls.length := by
  simp [mkTo, length_markSS]
  omega
theorem mkTo_getD {k : Int} {ls : List (List Int)} {j : Nat} (h : j < ls.length) : (mkTo k ls j).getD j [] = ls.getD j [] := by
  have hl : ((markSS k ls).take j).length = j := by simp [length_markSS]; omega
  unfold mkTo
  rw [List.getD_eq_getElem?_getD, List.getElem?_append_right (by omega), hl, Nat.sub_self]
  simp [List.getD]
theorem mkTo_step {k : Int} {ls : List (List Int)} {j : Nat} (h : j < ls.length) : (mkTo k ls j).set j (marks (k + tot (ls.take j)) (ls.getD j []).length) = mkTo k ls (j + 1) := by
  have hl : ((markSS k ls).take j).length = j := by simp [length_markSS]; omega
  unfold mkTo
  rw [List.set_append, if_neg (by omega), hl, Nat.sub_self, List.drop_eq_getElem_cons h, List.set_cons_zero, List.take_add_one, getD_some (by rw [length_markSS]; exact h) [], markSS_getD ls k j h]
  simp

/-- One row taken out of a slice of slices, and put back with other numbers. -/
def ssRest (v : Value) (vs : List Value) (ls : List (List Int)) (k : Nat) (F : List Ent) : List Ent :=
  .row 32 1 v ls.length vs :: (inner (vs.take k) (ls.take k) ++ inner (vs.drop (k + 1)) (ls.drop (k + 1)) ++ F)
theorem inner_split {vs : List Value} {ls : List (List Int)} {k : Nat} (h : vs.length = ls.length) (hk : k < ls.length) :
    inner vs ls = inner (vs.take k) (ls.take k) ++ .row 2 1 (vs.getD k undef) (ls.getD k []).length (ints (ls.getD k [])) :: inner (vs.drop (k + 1)) (ls.drop (k + 1)) := by
  have e1 : vs = vs.take k ++ vs.getD k undef :: vs.drop (k + 1) := by
    have hv : k < vs.length := by omega
    conv => lhs; rw [← List.take_append_drop k vs]
    rw [List.drop_eq_getElem_cons hv]
    simp [List.getD, List.getElem?_eq_getElem hv]
  have e2 : ls = ls.take k ++ ls.getD k [] :: ls.drop (k + 1) := by
    conv => lhs; rw [← List.take_append_drop k ls]
    rw [List.drop_eq_getElem_cons hk]
    simp [List.getD, List.getElem?_eq_getElem hk]
  conv => lhs; rw [e1, e2]
  unfold inner
  rw [List.zipWith_append (by simp; omega)]
  rfl
theorem ss_focus {v : Value} {vs : List Value} {ls : List (List Int)} {k : Nat} {F : List Ent} (h : vs.length = ls.length) (hk : k < ls.length) :
    (ssE v vs ls ++ F).Perm (.row 2 1 (vs.getD k undef) (ls.getD k []).length (ints (ls.getD k [])) :: ssRest v vs ls k F) := by
  unfold ssE ssRest
  rw [inner_split h hk]
  simp only [List.cons_append, List.append_assoc]
  refine List.Perm.trans (List.Perm.cons _ List.perm_middle) ?_
  exact List.Perm.swap _ _ _
theorem ss_put {v : Value} {vs : List Value} {ls : List (List Int)} {k : Nat} {F : List Ent} {m : List Int} (h : vs.length = ls.length) (hk : k < ls.length) (hm : m.length = (ls.getD k []).length) :
    (Ent.row 2 1 (vs.getD k undef) (ls.getD k []).length (ints m) :: ssRest v vs ls k F).Perm (ssE v vs (ls.set k m) ++ F) := by
  have h1 := ss_focus (v := v) (vs := vs) (ls := ls.set k m) (k := k) (F := F) (by simpa using h) (by simpa using hk)
  have e : (ls.set k m).getD k [] = m := by simp [List.getD, hk]
  rw [e, hm] at h1
  refine List.Perm.trans (List.Perm.of_eq ?_) h1.symm
  unfold ssRest
  simp [List.take_set_of_le, List.drop_set_of_lt]
theorem inner_snoc {us : List Value} {ls : List (List Int)} {u : Value} {k : Nat} (h : us.length = k) (hk : k < ls.length) : inner (us ++ [u]) (ls.take (k + 1)) = inner us (ls.take k) ++ [.row 2 1 u (ls.getD k []).length (ints (ls.getD k []))] := by
  unfold inner
  rw [List.take_add_one, getD_some hk [], Option.toList_some, List.zipWith_append (by simp; omega)]
  rfl

end Go.Proofs.Ytmfinopdokkjcaa
