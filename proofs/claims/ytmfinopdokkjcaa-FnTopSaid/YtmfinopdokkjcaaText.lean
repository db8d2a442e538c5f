/- Contracts of functions, printed by program from annotations. -/
import Derived.Test.YtmfinopdokkjcaaDec
import Derived.Test.YtmfinopdokkjcaaPass
namespace Go.Proofs.Ytmfinopdokkjcaa
open Go Go.AW Go.RowKit
set_option linter.unusedVariables false
set_option linter.unusedSimpArgs false

def joinTo (sep : ByteArray) (ps : List ByteArray) : Nat → ByteArray
  | 0 => ByteArray.empty
  | k + 1 => if k = 0 then joinTo sep ps k ++ ps.getD k ByteArray.empty else (joinTo sep ps k ++ sep) ++ ps.getD k ByteArray.empty
theorem joinTo_first {sep : ByteArray} {ps : List ByteArray} {k : Nat} (h : ¬ 0 < (k : Int)) : joinTo sep ps (k + 1) = joinTo sep ps k ++ ps.getD k ByteArray.empty := by
  have : k = 0 := by omega
  subst this
  rfl
theorem joinTo_next {sep : ByteArray} {ps : List ByteArray} {k : Nat} (h : 0 < (k : Int)) : joinTo sep ps (k + 1) = (joinTo sep ps k ++ sep) ++ ps.getD k ByteArray.empty := by
  have : k ≠ 0 := by omega
  show (if k = 0 then _ else _) = _
  rw [if_neg this]
theorem joinTo_size {sep : ByteArray} {ps : List ByteArray} (hs : sep.size ≤ 16) (hp : ∀ k, k < ps.length → (ps.getD k ByteArray.empty).size ≤ 4194304) : ∀ k, k ≤ ps.length → (joinTo sep ps k).size ≤ k * 4194320
  | 0, _ => by simp [joinTo]
  | k + 1, h => by
    have h1 := joinTo_size hs hp k (by omega)
    have h2 := hp k (by omega)
    show (if k = 0 then joinTo sep ps k ++ ps.getD k ByteArray.empty else (joinTo sep ps k ++ sep) ++ ps.getD k ByteArray.empty).size ≤ _
    split
    · rw [ByteArray.size_append]; omega
    · rw [ByteArray.size_append, ByteArray.size_append]; omega
theorem strs_snoc {α : Type} {f : α → ByteArray} {l : List α} {k : Nat} (d : α) (h : k < l.length) : strs ((l.take (k + 1)).map f) = strs ((l.take k).map f) ++ [.string (f (l.getD k d))] := by
  rw [List.take_add_one, getD_some h d]
  simp
theorem getD_mapB {α : Type} {f : α → ByteArray} {l : List α} {k : Nat} (d : α) (h : k < l.length) : (l.map f).getD k ByteArray.empty = f (l.getD k d) := by simp [List.getD, h]
theorem sz_lit1 (x : UInt8) : (ByteArray.mk #[x]).size = 1 := rfl
def joinAll (sep : ByteArray) (ps : List ByteArray) : ByteArray := joinTo sep ps ps.length
def partP (p : Int × Bool) : ByteArray := strOf (if p.2 then [43] else [45]) ++ decB p.1
theorem partP_yes {p : Int × Bool} (h : p.2 = true) : partP p = strOf [43] ++ decB p.1 := by unfold partP; rw [h]; rfl
theorem partP_no {p : Int × Bool} (h : p.2 = false) : partP p = strOf [45] ++ decB p.1 := by unfold partP; rw [h]; rfl
theorem partP_size {p : Int × Bool} (h : -9223372036854775808 ≤ p.1 ∧ p.1 ≤ 9223372036854775807) : (partP p).size ≤ 21 := by
  have := decB_size h.1 h.2
  unfold partP
  rw [ByteArray.size_append, size_strOf]
  split <;> simp <;> omega

set_option maxRecDepth 4000 in
/-- impl.joined -/
theorem f_i_joined (w : World) (v : Value) (ps : List ByteArray) (sep : ByteArray) (hv : Rd w v 1 ps.length (strs ps)) (hl : ps.length ≤ 1048576) (hB : ∀ k, k < ps.length → (ps.getD k ByteArray.empty).size ≤ 4194304) (hs : sep.size ≤ 16) : RetV Try.prog 105 [v, .string sep] w (.string (joinAll sep ps)) := by
  refine Ret.enter Try.func105 rfl Try.ntmps105 rfl ?_
  refine Run.seq ?_
  refine Run.region ?_
  refine Ops.pure rfl (Pure.assign rfl) ?_
  refine Ops.nil ?_
  refine Run.seq ?_
  refine Run.region ?_
  refine Ops.pure rfl (Pure.assign rfl) ?_
  refine Ops.nil ?_
  refine Run.seq ?_
  refine Run.seq ?_
  refine Run.region ?_
  refine Ops.pure rfl (Pure.move rfl) ?_
  refine Ops.pure rfl (Pure.len sl58 (RdL.old hv) rfl) ?_
  refine Ops.pure rfl (Pure.move rfl) ?_
  refine Ops.nil ?_
  refine Run.block ?_
  refine Run.loop (X := Nat) (fun k => [(1, .string sep), (5, .string (joinTo sep ps k)), (8, v), (9, .int .i64 ps.length), (10, .int .i64 k)]) (fun k => []) (fun k => k ≤ ps.length) (fun k => ps.length - k) 0 ?_ ?_ ?_ ?_
  · exact Nat.zero_le _
  · exact ⟨rfl, rfl, rfl, rfl, rfl, trivial⟩
  · exact Ext.refl _
  · intro k hinv0
    have hjs := joinTo_size hs hB k hinv0
    have hpk := hB k
    refine Run.seq ?_
    refine Run.region ?_
    refine Ops.pure rfl (Pure.lss rfl rfl) ?_
    refine Ops.nil ?_
    refine Run.seq ?_
    refine Run.cond rfl (fun c11 => ?_) (fun c11 => ?_)
    · skip
      replace c11 := dT c11
      refine Run.skip ?_
      refine Run.seq ?_
      refine Run.block ?_
      refine Run.seq ?_
      refine Run.region ?_
      refine Ops.pure rfl (Pure.move rfl) ?_
      refine Ops.pure rfl (Pure.idx1N sl58 (RdL.old hv) rfl rfl (by first | assumption | omega | (simp; omega))) ?_
      refine Ops.pure rfl (Pure.ld cell9 rfl (RdL.old hv) (by first | exact ints_get (by omega) | exact bools_get (by omega) | exact strs_get (by omega) | exact vals_get (by first | omega | (simp; omega)))) ?_
      refine Ops.pure rfl (Pure.assign rfl) ?_
      refine Ops.pure rfl (Pure.assign rfl) ?_
      refine Ops.nil ?_
      refine Run.seq ?_
      refine Run.seq ?_
      refine Run.region ?_
      refine Ops.pure rfl (Pure.move rfl) ?_
      refine Ops.pure rfl (Pure.gtr rfl rfl) ?_
      refine Ops.nil ?_
      refine Run.cond rfl (fun c16 => ?_) (fun c16 => ?_)
      · skip
        replace c16 := dT c16
        refine Run.region ?_
        refine Ops.pure rfl (Pure.move rfl) ?_
        refine Ops.pure rfl (Pure.move rfl) ?_
        refine Ops.pure rfl (Pure.cat rfl rfl (by first | omega | (simp only [ByteArray.size_append]; omega))) ?_
        refine Ops.pure rfl (Pure.assign rfl) ?_
        refine Ops.nil ?_
        refine Run.region ?_
        refine Ops.pure rfl (Pure.move rfl) ?_
        refine Ops.pure rfl (Pure.move rfl) ?_
        refine Ops.pure rfl (Pure.cat rfl rfl (by first | omega | (simp only [ByteArray.size_append]; omega))) ?_
        refine Ops.pure rfl (Pure.assign rfl) ?_
        refine Ops.nil ?_
        refine Run.blk ?_
        refine Run.region ?_
        refine Ops.pure rfl (Pure.add rfl rfl (by omega) (by omega)) ?_
        refine Ops.pure rfl (Pure.move rfl) ?_
        refine Ops.nil ?_
        refine Run.asrt ?_
        first
          | exact ⟨k + 1, ⟨by omega, by omega⟩, ⟨rfl, by rw [joinTo_next c16]; rfl, rfl, rfl, rfl, trivial⟩, Ext.nil _⟩
          | exact ⟨k + 1, ⟨by omega, by omega⟩, ⟨rfl, by rw [joinTo_first c16]; rfl, rfl, rfl, rfl, trivial⟩, Ext.nil _⟩
      · skip
        replace c16 := dF c16
        refine Run.skip ?_
        refine Run.region ?_
        refine Ops.pure rfl (Pure.move rfl) ?_
        refine Ops.pure rfl (Pure.move rfl) ?_
        refine Ops.pure rfl (Pure.cat rfl rfl (by first | omega | (simp only [ByteArray.size_append]; omega))) ?_
        refine Ops.pure rfl (Pure.assign rfl) ?_
        refine Ops.nil ?_
        refine Run.blk ?_
        refine Run.region ?_
        refine Ops.pure rfl (Pure.add rfl rfl (by omega) (by omega)) ?_
        refine Ops.pure rfl (Pure.move rfl) ?_
        refine Ops.nil ?_
        refine Run.asrt ?_
        first
          | exact ⟨k + 1, ⟨by omega, by omega⟩, ⟨rfl, by rw [joinTo_next c16]; rfl, rfl, rfl, rfl, trivial⟩, Ext.nil _⟩
          | exact ⟨k + 1, ⟨by omega, by omega⟩, ⟨rfl, by rw [joinTo_first c16]; rfl, rfl, rfl, rfl, trivial⟩, Ext.nil _⟩
    · skip
      replace c11 := dF c11
      refine Run.exit rfl ?_
      refine Run.seq ?_
      refine Run.region ?_
      refine Ops.pure rfl (Pure.move rfl) ?_
      refine Ops.pure rfl (Pure.assign rfl) ?_
      refine Ops.nil ?_
      refine Run.ret1 rfl rfl ?_
      have e : k = ps.length := by omega
      subst e
      rfl

theorem mem_getD {α : Type} {l : List α} {k : Nat} (d : α) (h : k < l.length) : l.getD k d ∈ l := by simp [List.getD, List.getElem?_eq_getElem h]

end Go.Proofs.Ytmfinopdokkjcaa
