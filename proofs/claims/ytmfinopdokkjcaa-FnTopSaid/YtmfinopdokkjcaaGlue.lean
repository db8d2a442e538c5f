/- From the statement's readings of the arguments to the calculus' own. No statement of the seat is proved here. -/
import Derived.Test.YtmfinopdokkjcaaAwr
import Derived.ProofKit
import Derived.OpenShut
import Derived.ShutString
import Derived.ChangeOld
import Derived.Below
import Derived.Deep.Slices
import Derived.Deep.Matrix
namespace Go.AW
open Go Go.RowKit Go.ChangeShapes Go.WideShapes Go.Deep
set_option linter.unusedVariables false
set_option linter.unusedSimpArgs false

section
variable {H : Type} {enc : TypeId × Value → H} {P : Program} {w : World} {base : Nat} {spare : Nat → Bool} {held : Bool}

def I64 (n : Int) : Prop := -9223372036854775808 ≤ n ∧ n ≤ 9223372036854775807

theorem wf_i64 {n : Int} (h : (Lit.int .i64 n).wf = true) : I64 n := bounds_i64 h

/-- A reading of a value of type e is one of an element of 'α', spelt by 'f'. -/
def Dec {α : Type} (enc : TypeId × Value → H) (P : Program) (w : World) (base : Nat) (spare : Nat → Bool) (held : Bool) (e : TypeId) (f : α → List Value) (p : α → Prop) : Prop :=
  ∀ n cs x, DataW.trod enc P w base spare held n e cs = some x → ∃ y, cs = f y ∧ p y

theorem Dec.int {e : TypeId} (he : P.underlying e = some (.int .i64)) : Dec enc P w base spare held e (fun n : Int => [.int .i64 n]) I64 := by
  intro n cs x h
  obtain ⟨m, h1, _, h3⟩ := DataW.trod_int he h
  exact ⟨m, h1, wf_i64 h3⟩
theorem Dec.u8 {e : TypeId} (he : P.underlying e = some (.int .u8)) : Dec enc P w base spare held e (fun n : Int => [.int .u8 n]) (fun n => 0 ≤ n ∧ n ≤ 255) := by
  intro n cs x h
  obtain ⟨m, h1, _, h3⟩ := DataW.trod_int he h
  exact ⟨m, h1, bounds_u8 h3⟩
theorem Dec.bool {e : TypeId} (he : P.underlying e = some .bool) : Dec enc P w base spare held e (fun b : Bool => [.bool b]) (fun _ => True) := by
  intro n cs x h
  obtain ⟨m, h1, _⟩ := DataW.trod_bool he h
  exact ⟨m, h1, trivial⟩

/-- A struct of two fields. -/
theorem Dec.pair {α β : Type} {e : TypeId} {f0 f1 : Field} {m0 m1 : Nat} {f : α → List Value} {g : β → List Value} {p : α → Prop} {q : β → Prop} (he : P.underlying e = some (.struct #[f0, f1])) (h0 : f0.offset = 0) (c0 : P.cellsOf f0.type = m0) (h1 : f1.offset = m0) (c1 : P.cellsOf f1.type = m1) (hc : P.cellsOf e = m0 + m1)
    (d0 : Dec enc P w base spare held f0.type f p) (d1 : Dec enc P w base spare held f1.type g q) : Dec enc P w base spare held e (fun x : α × β => f x.1 ++ g x.2) (fun x => p x.1 ∧ q x.2) := by
  intro n cs x h
  obtain ⟨xs, m, _, _, hl, hxl, hf⟩ := DataW.trod_struct he h
  have hx : xs.length = 2 := by simpa using hxl
  have e0 := hf 0 f0 rfl
  have e1 := hf 1 f1 rfl
  rw [h0, c0, List.getElem?_eq_getElem (show 0 < xs.length by omega)] at e0
  rw [h1, c1, List.getElem?_eq_getElem (show 1 < xs.length by omega)] at e1
  obtain ⟨y, hy, py⟩ := d0 _ _ _ e0
  obtain ⟨z, hz, qz⟩ := d1 _ _ _ e1
  refine ⟨(y, z), ?_, py, qz⟩
  rw [hc] at hl
  simp only [List.drop_zero] at hy
  show cs = f y ++ g z
  rw [← hy, ← hz, List.take_of_length_le (l := cs.drop m0) (by simp; omega), List.take_append_drop]

/-- A struct of three fields. -/
theorem Dec.triple {α β γ : Type} {e : TypeId} {f0 f1 f2 : Field} {m0 m1 m2 : Nat} {f : α → List Value} {g : β → List Value} {k : γ → List Value} {p : α → Prop} {q : β → Prop} {r : γ → Prop} (he : P.underlying e = some (.struct #[f0, f1, f2])) (h0 : f0.offset = 0) (c0 : P.cellsOf f0.type = m0) (h1 : f1.offset = m0) (c1 : P.cellsOf f1.type = m1) (h2 : f2.offset = m0 + m1) (c2 : P.cellsOf f2.type = m2) (hc : P.cellsOf e = m0 + m1 + m2)
    (d0 : Dec enc P w base spare held f0.type f p) (d1 : Dec enc P w base spare held f1.type g q) (d2 : Dec enc P w base spare held f2.type k r) : Dec enc P w base spare held e (fun x : α × β × γ => f x.1 ++ g x.2.1 ++ k x.2.2) (fun x => p x.1 ∧ q x.2.1 ∧ r x.2.2) := by
  intro n cs x h
  obtain ⟨xs, m, _, _, hl, hxl, hf⟩ := DataW.trod_struct he h
  have hx : xs.length = 3 := by simpa using hxl
  have e0 := hf 0 f0 rfl
  have e1 := hf 1 f1 rfl
  have e2 := hf 2 f2 rfl
  rw [h0, c0, List.getElem?_eq_getElem (show 0 < xs.length by omega)] at e0
  rw [h1, c1, List.getElem?_eq_getElem (show 1 < xs.length by omega)] at e1
  rw [h2, c2, List.getElem?_eq_getElem (show 2 < xs.length by omega)] at e2
  obtain ⟨y, hy, py⟩ := d0 _ _ _ e0
  obtain ⟨z, hz, qz⟩ := d1 _ _ _ e1
  obtain ⟨u, hu, ru⟩ := d2 _ _ _ e2
  refine ⟨(y, z, u), ?_, py, qz, ru⟩
  rw [hc] at hl
  simp only [List.drop_zero] at hy
  show cs = f y ++ g z ++ k u
  rw [← hy, ← hz, ← hu, List.take_of_length_le (l := cs.drop (m0 + m1)) (by simp; omega), List.append_assoc]
  have : (cs.drop m0).take m1 ++ cs.drop (m0 + m1) = cs.drop m0 := by rw [← List.drop_drop, List.take_append_drop]
  rw [this, List.take_append_drop]

theorem get_flatMap {α : Type} {f : α → List Value} {m : Nat} (hf : ∀ x, (f x).length = m) (hm : 0 < m) : ∀ (l : List α) (q : Nat) (u : Value), (l.flatMap f)[q]? = some u → ∃ x, l[q / m]? = some x ∧ (f x)[q % m]? = some u
  | [], q, u, h => by simp at h
  | x :: l, q, u, h => by
    rw [List.flatMap_cons, List.getElem?_append] at h
    by_cases hq : q < m
    · rw [if_pos (by rw [hf]; exact hq)] at h
      exact ⟨x, by rw [Nat.div_eq_of_lt hq]; rfl, by rw [Nat.mod_eq_of_lt hq]; exact h⟩
    · rw [if_neg (by rw [hf]; exact hq), hf] at h
      obtain ⟨y, h1, h2⟩ := get_flatMap hf hm l (q - m) u h
      have e : q = (q - m) + m := by omega
      refine ⟨y, ?_, ?_⟩
      · rw [e, Nat.add_div_right _ hm]
        simpa using h1
      · rw [e, Nat.add_mod_right]
        exact h2

/-- An argument that is a slice. -/
theorem Rd_of_slice {α : Type} {t e : TypeId} {fuel m : Nat} {A : Option Addr} {n c : Nat} {x : DataW H × List MemPlace} {f : α → List Value} {p : α → Prop} (ht : P.underlying t = some (.slice e)) (hC : P.cellsOf e = m) (hm : 0 < m) (hf : ∀ x, (f x).length = m)
    (hd : Dec enc P w base (fun _ => true) held e f p) (h : DataW.trod enc P w base (fun _ => true) held fuel t [.slice A n c] = some x) :
    ∃ l : List α, l.length = n ∧ Rd w (.slice A n c) m n (l.flatMap f) ∧ (∀ y ∈ l, p y) ∧ n ≤ 9223372036854775807 := by
  rcases open_slice ht h with ⟨h0, _⟩ | ⟨a, len, cap, mm, n', D, Pl, hcs, hb, hl, hmx, hmm, _, hi⟩
  · simp only [List.cons.injEq, Value.slice.injEq, and_true] at h0
    obtain ⟨rfl, rfl, rfl⟩ := h0
    exact ⟨[], rfl, ⟨by simp, none, 0, rfl, Nat.le_refl _, fun hn => by simp at hn⟩, by simp, by omega⟩
  · simp only [List.cons.injEq, Value.slice.injEq, and_true] at hcs
    obtain ⟨rfl, rfl, rfl⟩ := hcs
    simp only [if_true] at hmm
    subst hmm
    rw [hC] at hi
    have hex : ∀ i, i < n → ∃ y, w.cells? base (a.add (i * m)) m = some (f y) ∧ p y := fun i hin => by
      obtain ⟨cs', h1, h2⟩ := hi i (by omega)
      obtain ⟨y, rfl, py⟩ := hd _ _ _ h2
      exact ⟨y, h1, py⟩
    rcases Nat.eq_zero_or_pos n with h0 | h0
    · subst h0
      exact ⟨[], rfl, ⟨by simp, some a, _, rfl, hl, fun hn => by simp at hn⟩, by simp, by omega⟩
    obtain ⟨y0, _⟩ := hex 0 h0
    have inst : Inhabited α := ⟨y0⟩
    obtain ⟨Y, hY⟩ := choose_lt (α := α) (p := fun i y => w.cells? base (a.add (i * m)) m = some (f y) ∧ p y) hex
    refine ⟨(List.range n).map Y, by simp, ⟨by rw [length_flatMap hf]; simp, some a, _, rfl, hl, fun _ => ⟨a, rfl, fun q u hu => ?_⟩⟩, ?_, by simp only [maxLen] at hmx; omega⟩
    · obtain ⟨y, h1, h2⟩ := get_flatMap hf hm _ q u hu
      rw [List.getElem?_map, Option.map_eq_some_iff] at h1
      obtain ⟨i, hi1, rfl⟩ := h1
      obtain ⟨hlt, hi2⟩ := List.getElem?_eq_some_iff.1 hi1
      simp only [List.length_range] at hlt
      simp only [List.getElem_range] at hi2
      subst hi2
      obtain ⟨_, _, hcell⟩ := World.cells?_some (hY _ hlt).1
      have h3 := hcell (q % m) (Nat.mod_lt _ hm)
      rw [add_add, h2] at h3
      have e : q / m * m + q % m = q := by rw [Nat.mul_comm]; exact Nat.div_add_mod q m
      rwa [e] at h3
    · intro y hy
      obtain ⟨i, hi1, rfl⟩ := List.mem_map.1 hy
      exact (hY i (List.mem_range.1 hi1)).2

/-- A slice, as a part of something. -/
theorem Dec.ofSlice {α : Type} {t e m : Nat} {f : α → List Value} {p : α → Prop} (ht : P.underlying t = some (.slice e)) (hC : P.cellsOf e = m) (hm : 0 < m) (hf : ∀ x, (f x).length = m) (hd : Dec enc P w base (fun _ => true) held e f p) :
    Dec enc P w base (fun _ => true) held t (fun y : Value × List α => [y.1]) (fun y => Rd w y.1 m y.2.length (y.2.flatMap f) ∧ (∀ z ∈ y.2, p z) ∧ y.2.length ≤ 9223372036854775807) := by
  intro n cs x h
  have hcs : ∃ A k c, cs = [.slice A k c] := by
    rcases open_slice ht h with ⟨h0, _⟩ | ⟨a, len, cap, _, _, _, _, h0, _⟩
    · exact ⟨_, _, _, h0⟩
    · exact ⟨_, _, _, h0⟩
  obtain ⟨A, k, c, rfl⟩ := hcs
  obtain ⟨l, rfl, h1, h2, h3⟩ := Rd_of_slice ht hC hm hf hd h
  exact ⟨(_, l), rfl, h1, h2, h3⟩

theorem trod_lt' {t : TypeId} {v : Value} {d : DataW H} {ps : List MemPlace} (h : DataW.Trod enc P w 0 (fun _ => true) true t v d ps) : ∀ x ∈ ps, x.block < w.heap.size := by
  obtain ⟨m, hm⟩ := h
  exact DataW.trod_lt m _ _ _ hm
end
end Go.AW
