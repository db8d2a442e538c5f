/- Contracts of functions, printed by program from annotations. -/
import Derived.Test.YtpldgghkhknpnaaSS
import Derived.Test.YtpldgghkhknpnaaGlue
import Derived.Deep.Matrix
namespace Go.Proofs.Ytpldgghkhknpnaa
open Go Go.AW Go.RowKit
set_option linter.unusedVariables false
set_option linter.unusedSimpArgs false

open Go.Deep Go.ChangeShapes Go.WideShapes
/-- An argument that is a slice of slices of integers. -/
theorem RdSS_of_slice {H : Type} {enc : TypeId × Value → H} {P : Program} {w : World} {base : Nat} {held : Bool} {t e q : TypeId} {fuel : Nat} {A0 : Option Addr} {n c : Nat} {x : DataW H × List MemPlace}
    (ht : P.underlying t = some (.slice e)) (he : P.underlying e = some (.slice q)) (hq : P.underlying q = some (.int .i64)) (ce : P.cellsOf e = 1) (cq : P.cellsOf q = 1) (h : DataW.trod enc P w base (fun _ => true) held fuel t [.slice A0 n c] = some x) :
    ∃ ls : List (List Int), ls.length = n ∧ RdSS w (.slice A0 n c) ls ∧ n ≤ 9223372036854775807 ∧ (∀ i, i < ls.length → (ls.getD i []).length ≤ 9223372036854775807) := by
  rcases open_int_rows ht he hq ce cq h with ⟨h0, _⟩ | ⟨a, len, cap, A, L, C, Z, hcs, hb, hl, hm, _, hr⟩
  · simp only [List.cons.injEq, Value.slice.injEq, and_true] at h0
    obtain ⟨rfl, rfl, rfl⟩ := h0
    exact ⟨[], rfl, ⟨[], rfl, ⟨by simp, none, 0, rfl, Nat.le_refl _, fun hn => by simp at hn⟩, fun i hi => by simp at hi⟩, by omega, fun i hi => by simp at hi⟩
  · simp only [List.cons.injEq, Value.slice.injEq, and_true] at hcs
    obtain ⟨rfl, rfl, rfl⟩ := hcs
    simp only [maxLen] at hm
    have hg : ∀ i, i < n → ((List.range n).map fun r => (Z r).take (L r)).getD i [] = (Z i).take (L i) := fun i hi => by simp [List.getD, hi]
    have hv : ∀ i, i < n → ((List.range n).map fun r => Value.slice (A r) (L r) (C r)).getD i undef = Value.slice (A i) (L i) (C i) := fun i hi => by simp [List.getD, hi]
    refine ⟨(List.range n).map fun r => (Z r).take (L r), by simp, ⟨(List.range n).map fun r => Value.slice (A r) (L r) (C r), by simp, ⟨by simp, some a, c, by simp, by simpa using hl, fun _ => ⟨a, rfl, fun j u hu => ?_⟩⟩, fun i hi => ?_⟩, by omega, fun i hi => ?_⟩
    · rw [List.getElem?_map, Option.map_eq_some_iff] at hu
      obtain ⟨i, hi1, rfl⟩ := hu
      obtain ⟨hlt, hi2⟩ := List.getElem?_eq_some_iff.1 hi1
      simp only [List.length_range] at hlt
      simp only [List.getElem_range] at hi2
      subst hi2
      exact (hr _ (by omega)).1
    · have hin : i < n := by simpa using hi
      rw [hg i hin, hv i hin]
      obtain ⟨_, h2, h3, h4, h5, h6, h7⟩ := hr i (by omega)
      have hlen : ((Z i).take (L i)).length = L i := by simp; omega
      refine ⟨by simp [ints], A i, C i, by rw [hlen], by rw [hlen]; exact h2, fun hn => ?_⟩
      have hL : 0 < L i := by simp [ints] at hn; omega
      cases hA : A i with
      | none => have := h6 hA; omega
      | some a' =>
        refine ⟨a', rfl, fun j u hu => ?_⟩
        obtain ⟨_, h8⟩ := h7 a' hA
        obtain ⟨hlt, hu2⟩ := List.getElem?_eq_some_iff.1 hu
        simp only [ints, List.length_map, hlen] at hlt
        rw [h8 j (by omega)]
        simp only [ints, List.getElem_map, List.getElem_take] at hu2
        rw [← hu2]
        simp [List.getD, List.getElem?_eq_getElem (show j < (Z i).length by omega)]
    · have hin : i < n := by simpa using hi
      rw [hg i hin]
      obtain ⟨_, h2, h3, h4, _⟩ := hr i (by omega)
      simp only [maxLen] at h3
      simp
      omega

end Go.Proofs.Ytpldgghkhknpnaa
