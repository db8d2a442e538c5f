/- Contracts of functions, printed by program from annotations. -/
import Derived.Test.YtmfinopdokkjcaaLawN
namespace Go.Proofs.Ytmfinopdokkjcaa
open Go Go.AW Go.RowKit
set_option linter.unusedVariables false
set_option linter.unusedSimpArgs false

abbrev encE (e : Int × Int) : List Value := [.int .i64 e.1, .int .i64 e.2]
theorem encE_len (e : Int × Int) : (encE e).length = 2 := rfl
abbrev edits (l : List (Int × Int)) : List Value := l.flatMap encE
theorem length_edits (l : List (Int × Int)) : (edits l).length = l.length * 2 := length_flatMap encE_len l
theorem edits_append (l m : List (Int × Int)) : edits (l ++ m) = edits l ++ edits m := List.flatMap_append
theorem set2 : ∀ (l : List (Int × Int)) (i : Nat) (x y : Int), i < l.length → ((edits l).set (i * 2 + 0) (.int .i64 x)).set (i * 2 + 1) (.int .i64 y) = edits (l.set i (x, y))
  | [], i, _, _, h => by simp at h
  | e :: l, 0, x, y, _ => rfl
  | e :: l, i + 1, x, y, h => by
    have ih := set2 l i x y (by simpa using h)
    rw [show (i + 1) * 2 + 0 = i * 2 + 0 + 1 + 1 by omega, show (i + 1) * 2 + 1 = i * 2 + 1 + 1 + 1 by omega]
    show Value.int .i64 e.1 :: Value.int .i64 e.2 :: ((edits l).set (i * 2 + 0) (.int .i64 x)).set (i * 2 + 1) (.int .i64 y) = Value.int .i64 e.1 :: Value.int .i64 e.2 :: edits (l.set i (x, y))
    rw [ih]
/-- the numbers from k on, as edits -/
def marksE (k : Int) (n : Nat) : List (Int × Int) := (List.range n).map fun (i : Nat) => (k + 2 * (i : Int), k + 2 * (i : Int) + 1)
theorem length_marksE (k : Int) (n : Nat) : (marksE k n).length = n := by simp [marksE]
theorem marksE_getD {k : Int} {n i : Nat} (h : i < n) : (marksE k n).getD i (0, 0) = (k + 2 * (i : Int), k + 2 * (i : Int) + 1) := by simp [marksE, List.getD, h]
def markToE (k : Int) (l : List (Int × Int)) (j : Nat) : List (Int × Int) := marksE k j ++ l.drop j
theorem markToE_zero (k : Int) (l : List (Int × Int)) : markToE k l 0 = l := by simp [markToE, marksE]
theorem markToE_full {k : Int} {l : List (Int × Int)} {j : Nat} (h : j = l.length) : markToE k l j = marksE k l.length := by subst h; simp [markToE]
theorem length_markToE {k : Int} {l : List (Int × Int)} {j : Nat} (h : j ≤ l.length) : (markToE k l j).length = l.length := by simp [markToE, length_marksE]; omega
theorem markToE_step {k : Int} {l : List (Int × Int)} {j : Nat} (h : j < l.length) : (markToE k l j).set j (k + 2 * (j : Int), k + 2 * (j : Int) + 1) = markToE k l (j + 1) := by
  unfold markToE
  rw [List.set_append, if_neg (by simp [length_marksE]), length_marksE, Nat.sub_self, List.drop_eq_getElem_cons h, List.set_cons_zero]
  simp [marksE, List.range_succ]
theorem pair_ext {p q : Int × Int} (h1 : p.1 = q.1) (h2 : p.2 = q.2) : p = q := Prod.ext h1 h2
/-- an edit is in order -/
def EdOk (l : List Int) (es : List (Int × Int)) (i : Nat) : Prop :=
  (0 ≤ (es.getD i (0, 0)).1 ∧ (es.getD i (0, 0)).1 ≤ (l.length : Int) - 1) ∧ (0 < (i : Int) → (es.getD ((i : Int) - 1).toNat (0, 0)).1 < (es.getD i (0, 0)).1) ∧ (0 ≤ (es.getD i (0, 0)).2 ∧ (es.getD i (0, 0)).2 ≤ 2) ∧ ¬ (es.getD i (0, 0)).2 = l.getD (es.getD i (0, 0)).1.toNat 0
instance (l : List Int) (es : List (Int × Int)) (i : Nat) : Decidable (EdOk l es i) := by unfold EdOk; infer_instance
def EdsOk (l : List Int) (es : List (Int × Int)) : Prop := ∀ i, i < es.length → EdOk l es i
instance (l : List Int) (es : List (Int × Int)) : Decidable (EdsOk l es) := by unfold EdsOk; infer_instance
/-- edits are valid for breaks -/
def edsB (l : List Int) (es : List (Int × Int)) : Bool := decide (EdsOk l es)
theorem edsB_yes {l : List Int} {es : List (Int × Int)} {k : Nat} (hk : ¬ k < es.length) (h : ∀ j, j < k → EdOk l es j) : edsB l es = true := decide_eq_true fun i hi => h i (by omega)
theorem edsB_no {l : List Int} {es : List (Int × Int)} {k : Nat} (hk : k < es.length) (h : ¬ EdOk l es k) : edsB l es = false := decide_eq_false fun hh => h (hh k hk)
theorem edsB_spec {l : List Int} {es : List (Int × Int)} (h : edsB l es = true) : EdsOk l es := of_decide_eq_true h
attribute [irreducible] edsB
/-- breaks after edits -/
def appE (l : List Int) (es : List (Int × Int)) : List Int := es.foldl (fun m e => m.set e.1.toNat e.2) l
theorem length_appE : ∀ (es : List (Int × Int)) (l : List Int), (appE l es).length = l.length
  | [], _ => rfl
  | e :: es, l => by
    show (appE (l.set e.1.toNat e.2) es).length = l.length
    rw [length_appE es, List.length_set]
theorem appE_succ {l : List Int} {es : List (Int × Int)} {k : Nat} (h : k < es.length) : appE l (es.take (k + 1)) = (appE l (es.take k)).set (es.getD k (0, 0)).1.toNat (es.getD k (0, 0)).2 := by
  unfold appE
  rw [List.take_add_one, getD_some h (0, 0), List.foldl_append]
  rfl
theorem getDset_eq {l : List Int} {k : Nat} {x : Int} (h : k < l.length) : (l.set k x).getD k 0 = x := by simp [List.getD, h]
theorem getDset_ne {l : List Int} {k j : Nat} {x : Int} (h : k ≠ j) : (l.set k x).getD j 0 = l.getD j 0 := by simp [List.getD, List.getElem?_set_ne h]
theorem appE_ok {l : List Int} {es : List (Int × Int)} (h : edsB l es = true) (hl : ∀ x ∈ l, 0 ≤ x ∧ x ≤ 2) : ∀ k, k ≤ es.length → ∀ x ∈ appE l (es.take k), 0 ≤ x ∧ x ≤ 2
  | 0, _, x, hx => hl x (by simpa [appE] using hx)
  | k + 1, hk, x, hx => by
    rw [appE_succ (by omega)] at hx
    rcases List.mem_or_eq_of_mem_set hx with hx | rfl
    · exact appE_ok h hl k (by omega) x hx
    · exact (edsB_spec h k (by omega)).2.2.1
/-- the edits from one to another -/
def betw (l m : List Int) : Nat → List (Int × Int)
  | 0 => []
  | k + 1 => if l.getD k 0 = m.getD k 0 then betw l m k else betw l m k ++ [((k : Int), m.getD k 0)]
theorem betw_same {l m : List Int} {k : Nat} (h : l.getD k 0 = m.getD k 0) : betw l m (k + 1) = betw l m k := by
  show (if _ then _ else _) = _
  rw [if_pos h]
theorem betw_diff {l m : List Int} {k : Nat} (h : ¬ l.getD k 0 = m.getD k 0) : betw l m (k + 1) = betw l m k ++ [((k : Int), m.getD k 0)] := by
  show (if _ then _ else _) = _
  rw [if_neg h]
theorem length_betw (l m : List Int) : ∀ k, (betw l m k).length ≤ k
  | 0 => Nat.le_refl _
  | k + 1 => by
    have := length_betw l m k
    by_cases h : l.getD k 0 = m.getD k 0
    · rw [betw_same h]; omega
    · rw [betw_diff h, List.length_append, List.length_singleton]; omega
theorem betw_to {l m : List Int} {j : Nat} : ∀ {n : Nat}, j ≤ n → (∀ i, j ≤ i → i < n → l.getD i 0 = m.getD i 0) → betw l m n = betw l m j
  | 0, h, _ => by rw [show j = 0 by omega]
  | n + 1, h, hs => by
    rcases Nat.eq_or_lt_of_le h with h1 | h1
    · rw [h1]
    · rw [betw_same (hs n (by omega) (by omega)), betw_to (by omega) (fun i h2 h3 => hs i h2 (by omega))]
theorem betw_congr {l l' m : List Int} : ∀ {n : Nat}, (∀ i, i < n → l.getD i 0 = l'.getD i 0) → betw l m n = betw l' m n
  | 0, _ => rfl
  | n + 1, h => by
    have ih := betw_congr (m := m) (fun i hi => h i (by omega) : ∀ i, i < n → l.getD i 0 = l'.getD i 0)
    have h1 := h n (by omega)
    by_cases h2 : l.getD n 0 = m.getD n 0
    · rw [betw_same h2, betw_same (by rw [← h1]; exact h2), ih]
    · rw [betw_diff h2, betw_diff (by rw [← h1]; exact h2), ih]
/-- the edits that lead back -/
def undoL (l : List Int) (es : List (Int × Int)) : List (Int × Int) := es.map fun e => (e.1, l.getD e.1.toNat 0)
theorem undo_take {l : List Int} {es : List (Int × Int)} (h : edsB l es = true) : ∀ k, k ≤ es.length →
    betw (appE l (es.take k)) l l.length = (es.take k).map (fun e => (e.1, l.getD e.1.toNat 0)) ∧ ∀ i : Nat, (0 < (k : Int) → (es.getD ((k : Int) - 1).toNat (0, 0)).1 < (i : Int)) → (appE l (es.take k)).getD i 0 = l.getD i 0
  | 0, _ => ⟨betw_to (Nat.zero_le _) (fun i _ _ => rfl), fun i _ => rfl⟩
  | k + 1, hk => by
    obtain ⟨h1, h2⟩ := undo_take h k (by omega)
    obtain ⟨q1, q2, q3, q4⟩ := edsB_spec h k (by omega)
    have hx : ((es.getD k (0, 0)).1.toNat : Int) = (es.getD k (0, 0)).1 := by omega
    have hfrom : ∀ i : Nat, (es.getD k (0, 0)).1 ≤ (i : Int) → (appE l (es.take k)).getD i 0 = l.getD i 0 := fun i hi => h2 i (fun h0 => by have := q2 h0; omega)
    have hla := length_appE (es.take k) l
    have hset : ∀ i : Nat, (es.getD k (0, 0)).1 < (i : Int) → (appE l (es.take (k + 1))).getD i 0 = l.getD i 0 := fun i hi => by
      rw [appE_succ (by omega), getDset_ne (by omega)]
      exact hfrom i (by omega)
    refine ⟨?_, fun i hi => hset i (by
      have := hi (by omega)
      rw [show (((k + 1 : Nat) : Int) - 1).toNat = k by omega] at this
      exact this)⟩
    have hat : ¬ (appE l (es.take (k + 1))).getD (es.getD k (0, 0)).1.toNat 0 = l.getD (es.getD k (0, 0)).1.toNat 0 := by
      rw [appE_succ (by omega), getDset_eq (by omega)]
      exact q4
    have e1 : betw (appE l (es.take (k + 1))) l l.length = betw (appE l (es.take (k + 1))) l ((es.getD k (0, 0)).1.toNat + 1) := betw_to (by omega) (fun i h3 h4 => hset i (by omega))
    have e2 : betw (appE l (es.take (k + 1))) l (es.getD k (0, 0)).1.toNat = betw (appE l (es.take k)) l (es.getD k (0, 0)).1.toNat := betw_congr (fun i hi => by rw [appE_succ (by omega), getDset_ne (by omega)])
    have e3 : betw (appE l (es.take k)) l l.length = betw (appE l (es.take k)) l (es.getD k (0, 0)).1.toNat := betw_to (by omega) (fun i h3 h4 => hfrom i (by omega))
    rw [e1, betw_diff hat, e2, ← e3, h1, List.take_add_one, getD_some (show k < es.length by omega) (0, 0), Option.toList_some, List.map_append, hx]
    rfl
theorem undo_eq {l : List Int} {es : List (Int × Int)} (h : edsB l es = true) : betw (appE l es) l l.length = undoL l es := by
  have := (undo_take h es.length (Nat.le_refl _)).1
  rwa [List.take_length] at this
/-- What a call gives that returns edits of its own and an error. -/
def retE (es : List (Int × Int)) (e : Int) : Value → List Ent → Prop := fun u L => ∃ x, u = .tuple #[x, .int .i64 e] ∧ L = [.row 999 2 x es.length (edits es)]
theorem retE_nil {es : List (Int × Int)} {e : Int} (h : es = []) : retE es e (.tuple #[.slice none 0 0, .int .i64 e]) [.row 999 2 (.slice none 0 0) 0 []] := by subst h; exact ⟨_, rfl, rfl⟩
/-- What a call gives that returns a panel of its own and an error. -/
def retPn (a b : Int) (l : List Int) (e : Int) : Value → List Ent → Prop := fun u L => ∃ x, x.oneCell' = true ∧ u = .tuple #[.agg #[.int .i64 a, .int .i64 b, x], .int .i64 e] ∧ L = [.row 2 1 x l.length (ints l)]
theorem heldRdE {w : World} {v : Value} {k : Int} {n : Nat} (h : Rd w v 2 n (edits (marksE k n))) : Rd w v 2 (marksE k n).length (edits (marksE k n)) := by rw [length_marksE]; exact h
theorem heldEditS_again (k : Int) (l : List (Int × Int)) : (if marksE k l.length = marksE k (marksE k l.length).length then k + 2 * ((marksE k l.length).length : Int) else -1) = k + 2 * (l.length : Int) := by
  rw [length_marksE, if_pos rfl]

end Go.Proofs.Ytmfinopdokkjcaa
