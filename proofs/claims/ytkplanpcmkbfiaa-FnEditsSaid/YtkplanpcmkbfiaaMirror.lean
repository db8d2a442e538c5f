/- Contracts of functions, printed by program from annotations. -/
import Derived.Test.YtkplanpcmkbfiaaLawC
namespace Go.Proofs.Ytkplanpcmkbfiaa
open Go Go.AW Go.RowKit
set_option linter.unusedVariables false
set_option linter.unusedSimpArgs false

/-- a list whose first k places are those of another -/
def overTo {α : Type} (m l : List α) (k : Nat) : List α := m.take k ++ l.drop k
theorem overTo_zero {α : Type} (m l : List α) : overTo m l 0 = l := by simp [overTo]
theorem overTo_full {α : Type} {m l : List α} {k : Nat} (h : m.length = l.length) (hk : k = l.length) : overTo m l k = m := by
  subst hk
  unfold overTo
  rw [List.drop_length, List.append_nil, List.take_of_length_le (by omega)]
theorem length_overTo {α : Type} {m l : List α} {k : Nat} (h : m.length = l.length) : (overTo m l k).length = l.length := by
  unfold overTo
  rw [List.length_append, List.length_take, List.length_drop]
  omega
theorem overTo_getD {α : Type} {m l : List α} {k : Nat} (d : α) (h : m.length = l.length) (hk : k < l.length) : (overTo m l k).getD k d = l.getD k d := by
  have hl : (m.take k).length = k := by rw [List.length_take]; omega
  unfold overTo
  rw [List.getD_eq_getElem?_getD, List.getElem?_append_right (by omega), hl, Nat.sub_self]
  simp [List.getD]
theorem overTo_step {α : Type} {m l : List α} {k : Nat} (d : α) (h : m.length = l.length) (hk : k < l.length) : (overTo m l k).set k (m.getD k d) = overTo m l (k + 1) := by
  have hl : (m.take k).length = k := by rw [List.length_take]; omega
  unfold overTo
  rw [List.set_append, if_neg (by omega), hl, Nat.sub_self, List.drop_eq_getElem_cons hk, List.set_cons_zero, List.take_add_one, getD_some (by omega) d]
  simp
theorem getD_map {α β : Type} (f : α → β) (l : List α) (k : Nat) (d : α) (e : β) (h : k < l.length) : (l.map f).getD k e = f (l.getD k d) := by
  simp [List.getD, h]
theorem ints_set (l : List Int) (k : Nat) (x : Int) : (ints l).set k (.int .i64 x) = ints (l.set k x) := by rw [ints, ints, List.map_set]

theorem validB_bound {ls : List (List Int)} (h : validB ls = true) {i j : Nat} (hi : i < ls.length) (hj : j < (ls.getD i []).length) : -120 ≤ (ls.getD i []).getD j 0 ∧ (ls.getD i []).getD j 0 ≤ 120 := by
  obtain ⟨h1, h2, h3, h4⟩ := validB_len h
  have hm : (ls.getD i []).getD j 0 ∈ ls.flatten := by
    obtain ⟨r, hr⟩ := pre_prefix (j := j + 1) hi
    rw [pre_snoc hj] at hr
    rw [hr]; simp
  have := (h4.1 _ hm).2
  omega

/-- What a call gives that returns a code of its own and an error. -/
def retSS (ms : List (List Int)) (e : Int) : Value → List Ent → Prop := fun u L => ∃ x us, us.length = ms.length ∧ u = .tuple #[x, .int .i64 e] ∧ L = ssE x us ms

def negR (l : List Int) : List Int := l.map fun x => -x
theorem negR_getD {l : List Int} {j : Nat} (h : j < l.length) : (negR l).getD j 0 = -(l.getD j 0) := getD_map _ l j 0 0 h
def mirC (ls : List (List Int)) : List (List Int) := if validB ls then ls.map negR else []
def okM (ls : List (List Int)) : Int := if validB ls then 0 else 1
theorem ss_perm {x : Value} {us : List Value} {ls : List (List Int)} {L : List Ent} (h : L = ssE x us ls) : Ext (ssE x us ls ++ []) L := Ext.eq (by rw [h, List.append_nil])
theorem retSS_nil {e : Int} {ms : List (List Int)} (h : ms = []) : retSS ms e (.tuple #[.slice none 0 0, .int .i64 e]) [.row 22 1 (.slice none 0 0) 0 []] := by
  subst h
  exact ⟨_, [], rfl, rfl, rfl⟩
theorem mirC_bad {ls : List (List Int)} (h : validB ls = false) : mirC ls = [] ∧ okM ls = 1 := by unfold mirC okM; rw [h]; exact ⟨rfl, rfl⟩
theorem mirC_ok {ls : List (List Int)} (h : validB ls = true) : mirC ls = ls.map negR ∧ okM ls = 0 := by unfold mirC okM; rw [h]; exact ⟨rfl, rfl⟩
theorem tot_map {f : List Int → List Int} (hf : ∀ l, (f l).length = l.length) (ls : List (List Int)) : tot (ls.map f) = tot ls := by
  unfold tot
  rw [List.map_map]
  congr 1
  apply List.map_congr_left
  intro l _
  exact hf l
theorem mirC_size {ls : List (List Int)} (hb : ls.length + tot ls ≤ 1073741824) : (mirC ls).length + tot (mirC ls) ≤ 1073741824 := by
  unfold mirC
  cases validB ls with
  | true => rw [if_pos rfl, List.length_map, tot_map (by intro l; simp [negR])]; exact hb
  | false => simp [tot]

end Go.Proofs.Ytkplanpcmkbfiaa
