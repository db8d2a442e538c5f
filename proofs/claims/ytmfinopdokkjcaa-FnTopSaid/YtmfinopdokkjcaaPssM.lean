/- Contracts of functions, printed by program from annotations. -/
import Derived.Test.YtmfinopdokkjcaaTrc3
import Derived.Test.YtmfinopdokkjcaaPass
import Derived.Test.YtmfinopdokkjcaaWlk
import Derived.Test.YtmfinopdokkjcaaRead
namespace Go.Proofs.Ytmfinopdokkjcaa
open Go Go.AW Go.RowKit
set_option linter.unusedVariables false
set_option linter.unusedSimpArgs false

/-- what a walker passes -/
def pasW (a b : Int) (l : List Int) (w : Wk) : Option (Int × Bool) := if CrAt a b l (w.1 + w.2.2.1) (w.2.1 + w.2.2.2) then some ((zlen l (num a (w.1 + w.2.2.1) (w.2.1 + w.2.2.2)).toNat : Int), decide (w.2.2.1 * w.2.2.2 = slp (w.1 + w.2.2.1))) else none
theorem pasW_yes {a b : Int} {l : List Int} {w : Wk} (h : CrAt a b l (w.1 + w.2.2.1) (w.2.1 + w.2.2.2)) : pasW a b l w = some ((zlen l (num a (w.1 + w.2.2.1) (w.2.1 + w.2.2.2)).toNat : Int), decide (w.2.2.1 * w.2.2.2 = slp (w.1 + w.2.2.1))) := by unfold pasW; rw [if_pos h]
theorem pasW_no {a b : Int} {l : List Int} {w : Wk} (h : ¬ CrAt a b l (w.1 + w.2.2.1) (w.2.1 + w.2.2.2)) : pasW a b l w = none := by unfold pasW; rw [if_neg h]
def pasL (a b : Int) (l : List Int) (ws : List Wk) : List (Int × Bool) := ws.filterMap (pasW a b l)
theorem pasL_yes {a b : Int} {l : List Int} {ws : List Wk} {w : Wk} (h : CrAt a b l (w.1 + w.2.2.1) (w.2.1 + w.2.2.2)) : pasL a b l (ws ++ [w]) = pasL a b l ws ++ [((zlen l (num a (w.1 + w.2.2.1) (w.2.1 + w.2.2.2)).toNat : Int), decide (w.2.2.1 * w.2.2.2 = slp (w.1 + w.2.2.1)))] := by
  unfold pasL
  rw [List.filterMap_append, List.filterMap_cons_some (pasW_yes h)]
  rfl
theorem pasL_no {a b : Int} {l : List Int} {ws : List Wk} {w : Wk} (h : ¬ CrAt a b l (w.1 + w.2.2.1) (w.2.1 + w.2.2.2)) : pasL a b l (ws ++ [w]) = pasL a b l ws := by
  unfold pasL
  rw [List.filterMap_append, List.filterMap_cons_none (pasW_no h)]
  simp
theorem length_pasL (a b : Int) (l : List Int) (ws : List Wk) : (pasL a b l ws).length ≤ ws.length := List.length_filterMap_le _ _
theorem take_snoc {α : Type} {l : List α} {k : Nat} (d : α) (h : k < l.length) : l.take (k + 1) = l.take k ++ [l.getD k d] := by rw [List.take_add_one, getD_some h d]; rfl
theorem passes_append (l m : List (Int × Bool)) : passes (l ++ m) = passes l ++ passes m := List.flatMap_append
/-- the code of a panel and a curve -/
def psE (a b : Int) (l : List Int) (c : Int) : Int := if okP a b l = true then (if 0 ≤ c ∧ c ≤ (cnt a b l : Int) - 1 then 0 else 2) else 1
def psL (a b : Int) (l : List Int) (c : Int) : List (Int × Bool) := if psE a b l c = 0 then pasL a b l ((curL a b l).getD c.toNat []) else []
theorem ps_bad {a b c : Int} {l : List Int} (h : okP a b l = false) : psE a b l c = 1 ∧ psL a b l c = [] := by
  have h1 : psE a b l c = 1 := by unfold psE; rw [if_neg (by rw [h]; decide)]
  exact ⟨h1, by unfold psL; rw [h1]; rfl⟩
theorem ps_out {a b c : Int} {l : List Int} (h : okP a b l = true) (hc : ¬ (0 ≤ c ∧ c ≤ (cnt a b l : Int) - 1)) : psE a b l c = 2 ∧ psL a b l c = [] := by
  have h1 : psE a b l c = 2 := by unfold psE; rw [if_pos h, if_neg hc]
  exact ⟨h1, by unfold psL; rw [h1]; rfl⟩
theorem ps_ok {a b c : Int} {l : List Int} (h : okP a b l = true) (hc : 0 ≤ c ∧ c ≤ (cnt a b l : Int) - 1) : psE a b l c = 0 ∧ psL a b l c = pasL a b l ((curL a b l).getD c.toNat []) := by
  have h1 : psE a b l c = 0 := by unfold psE; rw [if_pos h, if_pos hc]
  exact ⟨h1, by unfold psL; rw [h1]; rfl⟩
theorem ps_zero {a b c : Int} {l : List Int} (h : psE a b l c = 0) : okP a b l = true ∧ 0 ≤ c ∧ c ≤ (cnt a b l : Int) - 1 := by
  unfold psE at h
  split at h
  · split at h
    · exact ⟨by assumption, by assumption⟩
    · cases h
  · cases h
/-- where a curve begins -/
def stF (a b : Int) (l : List Int) (c : Int) : Option Nat := firstF (fun k => decide ((ownL a b l).getD k 0 = c)) (segN a b) 0
def stW (a b : Int) (l : List Int) (c : Int) : Wk := match stF a b l c with
  | some k => wkAt b k
  | none => (0, 0, 0, 0)
theorem st_some {a b c : Int} {l : List Int} {k : Nat} (hk : k < segN a b) (h1 : (ownL a b l).getD k 0 = c) (h2 : ∀ j, j < k → ¬ (ownL a b l).getD j 0 = c) : (stF a b l c).isSome = true ∧ stW a b l c = wkAt b k := by
  have e : stF a b l c = some k := firstF_some (Nat.zero_le _) (by omega) (decide_eq_true h1) (fun j _ hj => decide_eq_false (h2 j hj))
  exact ⟨by rw [e]; rfl, by unfold stW; rw [e]⟩
theorem st_none {a b c : Int} {l : List Int} (h2 : ∀ j, j < segN a b → ¬ (ownL a b l).getD j 0 = c) : (stF a b l c).isSome = false ∧ stW a b l c = (0, 0, 0, 0) := by
  have e : stF a b l c = none := firstF_none (fun j _ hj => decide_eq_false (h2 j (by omega)))
  exact ⟨by rw [e]; rfl, by unfold stW; rw [e]⟩
theorem st_iff {a b c : Int} {l : List Int} (hs : SizeOk a b) (hc : 0 ≤ c) : (stF a b l c).isSome = true ↔ c ≤ (cnt a b l : Int) - 1 := by
  have hT := allTI (l := l) hs.1 hs.2.2.1
  constructor
  · intro h
    obtain ⟨k, hk⟩ := Option.isSome_iff_exists.1 h
    obtain ⟨_, h2, h3, _⟩ := firstF_spec hk
    have h4 := of_decide_eq_true h3
    have h5 := hT.rng k (by omega)
    unfold cnt
    omega
  · intro h
    obtain ⟨k, h1, _, h3, h4⟩ := hT.head c.toNat (by unfold cnt at h; omega)
    exact (st_some (l := l) h1 (by omega) (fun j hj e => h4 j hj (by omega))).1
theorem st_cur {a b c : Int} {l : List Int} (hs : SizeOk a b) (hc : 0 ≤ c) (hc2 : c ≤ (cnt a b l : Int) - 1) : orb a b l (stW a b l c) = (curL a b l).getD c.toNat [] ∧ VW a b (stW a b l c) := by
  have hT := allTI (l := l) hs.1 hs.2.2.1
  have hn := segN_pos hs.1 hs.2.2.1
  obtain ⟨k, h1, h2, h3, h4⟩ := hT.head c.toNat (by unfold cnt at hc2; omega)
  have h5 := (st_some (c := c) (l := l) h1 (by omega) (fun j hj e => h4 j hj (by omega))).2
  rw [h5, h2]
  exact ⟨rfl, (wkAt_spec (a := a) hs.2.2.1 (by omega) (by omega)).1⟩
theorem st_neg {a b c : Int} {l : List Int} (hs : SizeOk a b) (hc : c < 0) : (stF a b l c).isSome = false := by
  have hT := allTI (l := l) hs.1 hs.2.2.1
  exact (st_none (l := l) (fun j hj e => by have := hT.done j hj; omega)).1
theorem cur_VW {a b : Int} {l : List Int} (hs : SizeOk a b) {c : Nat} (hc : c < (curL a b l).length) : ∀ w ∈ (curL a b l).getD c [], VW a b w := by
  have hT := allTI (l := l) hs.1 hs.2.2.1
  have hn := segN_pos hs.1 hs.2.2.1
  obtain ⟨k, h1, h2, _⟩ := hT.head c hc
  have hw := (wkAt_spec (a := a) hs.2.2.1 (show (0 : Int) ≤ k by omega) (by omega)).1
  rw [h2]
  intro w h
  exact ((mem_orb hs.1 hs.2.2.1 hw).1 h).val hs.1 hs.2.2.1 hw
theorem cur_len {a b : Int} {l : List Int} (hs : SizeOk a b) {c : Nat} (hc : c < (curL a b l).length) : ((curL a b l).getD c []).length ≤ segN a b := by
  have hT := allTI (l := l) hs.1 hs.2.2.1
  have hn := segN_pos hs.1 hs.2.2.1
  obtain ⟨k, h1, h2, _⟩ := hT.head c hc
  have hw := (wkAt_spec (a := a) hs.2.2.1 (show (0 : Int) ≤ k by omega) (by omega)).1
  rw [h2, length_orb]
  exact (per_spec hs.1 hs.2.2.1 hw).2.2.1
theorem psL_size (a b : Int) (l : List Int) (c : Int) : (psL a b l c).length ≤ 256 := by
  by_cases h : psE a b l c = 0
  · obtain ⟨h1, h2, h3⟩ := ps_zero h
    rw [(ps_ok h1 ⟨h2, h3⟩).2]
    have h4 := length_pasL a b l ((curL a b l).getD c.toNat [])
    have h5 := cur_len (l := l) (okP_size h1) (c := c.toNat) (by unfold cnt at h3; omega)
    have h6 := segN_le (okP_size h1)
    omega
  · unfold psL; rw [if_neg h]; exact Nat.zero_le _
/-- how many passes are over -/
def ovN (ps : List (Int × Bool)) : Nat → Nat
  | 0 => 0
  | k + 1 => if (ps.getD k (0, false)).2 = true then ovN ps k + 1 else ovN ps k
theorem ovN_yes {ps : List (Int × Bool)} {k : Nat} (h : (ps.getD k (0, false)).2 = true) : ovN ps (k + 1) = ovN ps k + 1 := by
  show (if _ then _ else _) = _
  rw [if_pos h]
theorem ovN_no {ps : List (Int × Bool)} {k : Nat} (h : (ps.getD k (0, false)).2 = false) : ovN ps (k + 1) = ovN ps k := by
  show (if _ then _ else _) = _
  rw [if_neg (by rw [h]; decide)]
theorem ovN_le (ps : List (Int × Bool)) : ∀ k, ovN ps k ≤ k
  | 0 => Nat.le_refl _
  | k + 1 => by
    have := ovN_le ps k
    cases h : (ps.getD k (0, false)).2 with
    | true => rw [ovN_yes h]; omega
    | false => rw [ovN_no h]; omega
/-- What a call gives that returns passes of its own and an error. -/
def retPs (ms : List (Int × Bool)) (e : Int) : Value → List Ent → Prop := fun u L => ∃ x, u = .tuple #[x, .int .i64 e] ∧ L = [.row 108 2 x ms.length (passes ms)]
theorem retPs_nil {ms : List (Int × Bool)} {e : Int} (h : ms = []) : retPs ms e (.tuple #[.slice none 0 0, .int .i64 e]) [.row 108 2 (.slice none 0 0) 0 []] := by subst h; exact ⟨_, rfl, rfl⟩

end Go.Proofs.Ytmfinopdokkjcaa
