/- Contracts of functions, printed by program from annotations. -/
import Derived.Test.YtpldgghkhknpnaaDec
import Derived.Test.YtpldgghkhknpnaaPass
namespace Go.Proofs.Ytpldgghkhknpnaa
open Go Go.AW Go.RowKit
set_option linter.unusedVariables false
set_option linter.unusedSimpArgs false

def joinTo (sep : ByteArray) (ps : List ByteArray) : Nat → ByteArray
  | 0 => ByteArray.empty
  | k + 1 => if k = 0 then joinTo sep ps k ++ ps.getD k ByteArray.empty else (joinTo sep ps k ++ sep) ++ ps.getD k ByteArray.empty
theorem joinTo_first {sep : ByteArray} {ps : List ByteArray} {k : Nat} (h : ¬ 0 < (k : Int)) : joinTo sep ps (k + 1) = joinTo sep ps k ++ ps.getD k ByteArray.empty := by
  have : k = 0 := by omega
  subst this
  rfl
theorem joinTo_next {sep : ByteArray} {ps : List ByteArray} {k : Nat} (h : 0 < (k : Int)) : joinTo sep ps (k + 1) = (joinTo sep ps k ++ sep) ++ ps.getD k ByteArray.empty := by
  have : k ≠ 0 := by omega
  show (if k = 0 then _ else _) = _
  rw [if_neg this]
theorem joinTo_size {sep : ByteArray} {ps : List ByteArray} (hs : sep.size ≤ 16) (hp : ∀ k, k < ps.length → (ps.getD k ByteArray.empty).size ≤ 4194304) : ∀ k, k ≤ ps.length → (joinTo sep ps k).size ≤ k * 4194320
  | 0, _ => by simp [joinTo]
  | k + 1, h => by
    have h1 := joinTo_size hs hp k (by omega)
    have h2 := hp k (by omega)
    show (if k = 0 then joinTo sep ps k ++ ps.getD k ByteArray.empty else (joinTo sep ps k ++ sep) ++ ps.getD k ByteArray.empty).size ≤ _
    split
    · rw [ByteArray.size_append]; omega
    · rw [ByteArray.size_append, ByteArray.size_append]; omega
theorem strs_snoc {α : Type} {f : α → ByteArray} {l : List α} {k : Nat} (d : α) (h : k < l.length) : strs ((l.take (k + 1)).map f) = strs ((l.take k).map f) ++ [.string (f (l.getD k d))] := by
  rw [List.take_add_one, getD_some h d]
  simp
theorem getD_mapB {α : Type} {f : α → ByteArray} {l : List α} {k : Nat} (d : α) (h : k < l.length) : (l.map f).getD k ByteArray.empty = f (l.getD k d) := by simp [List.getD, h]
theorem sz_lit1 (x : UInt8) : (ByteArray.mk #[x]).size = 1 := rfl
def joinAll (sep : ByteArray) (ps : List ByteArray) : ByteArray := joinTo sep ps ps.length
def partP (p : Int × Bool) : ByteArray := strOf (if p.2 then [43] else [45]) ++ decB p.1
theorem partP_yes {p : Int × Bool} (h : p.2 = true) : partP p = strOf [43] ++ decB p.1 := by unfold partP; rw [h]; rfl
theorem partP_no {p : Int × Bool} (h : p.2 = false) : partP p = strOf [45] ++ decB p.1 := by unfold partP; rw [h]; rfl
theorem partP_size {p : Int × Bool} (h : -9223372036854775808 ≤ p.1 ∧ p.1 ≤ 9223372036854775807) : (partP p).size ≤ 21 := by
  have := decB_size h.1 h.2
  unfold partP
  rw [ByteArray.size_append, size_strOf]
  split <;> simp <;> omega

set_option maxRecDepth 4000 in
/-- impl.joined -/
theorem f_i_joined (w : World) (v : Value) (ps : List ByteArray) (sep : ByteArray) (hv : Rd w v 1 ps.length (strs ps)) (hl : ps.length ≤ 1048576) (hB : ∀ k, k < ps.length → (ps.getD k ByteArray.empty).size ≤ 4194304) (hs : sep.size ≤ 16) : RetV Try.prog 51 [v, .string sep] w (.string (joinAll sep ps)) := by
  refine Ret.enter Try.func51 rfl Try.ntmps51 rfl ?_
  refine Run.seq ?_
  refine Run.region ?_
  refine Ops.pure rfl (Pure.assign rfl) ?_
  refine Ops.nil ?_
  refine Run.seq ?_
  refine Run.region ?_
  refine Ops.pure rfl (Pure.assign rfl) ?_
  refine Ops.nil ?_
  refine Run.seq ?_
  refine Run.seq ?_
  refine Run.region ?_
  refine Ops.pure rfl (Pure.move rfl) ?_
  refine Ops.pure rfl (Pure.len sl55 (RdL.old hv) rfl) ?_
  refine Ops.pure rfl (Pure.move rfl) ?_
  refine Ops.nil ?_
  refine Run.block ?_
  refine Run.loop (X := Nat) (fun k => [(1, .string sep), (5, .string (joinTo sep ps k)), (8, v), (9, .int .i64 ps.length), (10, .int .i64 k)]) (fun k => []) (fun k => k ≤ ps.length) (fun k => ps.length - k) 0 ?_ ?_ ?_ ?_
  · exact Nat.zero_le _
  · exact ⟨rfl, rfl, rfl, rfl, rfl, trivial⟩
  · exact Ext.refl _
  · intro k hinv0
    have hjs := joinTo_size hs hB k hinv0
    have hpk := hB k
    refine Run.seq ?_
    refine Run.region ?_
    refine Ops.pure rfl (Pure.lss rfl rfl) ?_
    refine Ops.nil ?_
    refine Run.seq ?_
    refine Run.cond rfl (fun c11 => ?_) (fun c11 => ?_)
    · skip
      replace c11 := dT c11
      refine Run.skip ?_
      refine Run.seq ?_
      refine Run.block ?_
      refine Run.seq ?_
      refine Run.region ?_
      refine Ops.pure rfl (Pure.move rfl) ?_
      refine Ops.pure rfl (Pure.idx1N sl55 (RdL.old hv) rfl rfl (by first | assumption | omega | (simp; omega))) ?_
      refine Ops.pure rfl (Pure.ld cell9 rfl (RdL.old hv) (by first | exact ints_get (by omega) | exact bools_get (by omega) | exact strs_get (by omega) | exact vals_get (by first | omega | (simp; omega)))) ?_
      refine Ops.pure rfl (Pure.assign rfl) ?_
      refine Ops.pure rfl (Pure.assign rfl) ?_
      refine Ops.nil ?_
      refine Run.seq ?_
      refine Run.seq ?_
      refine Run.region ?_
      refine Ops.pure rfl (Pure.move rfl) ?_
      refine Ops.pure rfl (Pure.gtr rfl rfl) ?_
      refine Ops.nil ?_
      refine Run.cond rfl (fun c16 => ?_) (fun c16 => ?_)
      · skip
        replace c16 := dT c16
        refine Run.region ?_
        refine Ops.pure rfl (Pure.move rfl) ?_
        refine Ops.pure rfl (Pure.move rfl) ?_
        refine Ops.pure rfl (Pure.cat rfl rfl (by first | omega | (simp only [ByteArray.size_append]; omega))) ?_
        refine Ops.pure rfl (Pure.assign rfl) ?_
        refine Ops.nil ?_
        refine Run.region ?_
        refine Ops.pure rfl (Pure.move rfl) ?_
        refine Ops.pure rfl (Pure.move rfl) ?_
        refine Ops.pure rfl (Pure.cat rfl rfl (by first | omega | (simp only [ByteArray.size_append]; omega))) ?_
        refine Ops.pure rfl (Pure.assign rfl) ?_
        refine Ops.nil ?_
        refine Run.blk ?_
        refine Run.region ?_
        refine Ops.pure rfl (Pure.add rfl rfl (by omega) (by omega)) ?_
        refine Ops.pure rfl (Pure.move rfl) ?_
        refine Ops.nil ?_
        refine Run.asrt ?_
        first
          | exact ⟨k + 1, ⟨by omega, by omega⟩, ⟨rfl, by rw [joinTo_next c16]; rfl, rfl, rfl, rfl, trivial⟩, Ext.nil _⟩
          | exact ⟨k + 1, ⟨by omega, by omega⟩, ⟨rfl, by rw [joinTo_first c16]; rfl, rfl, rfl, rfl, trivial⟩, Ext.nil _⟩
      · skip
        replace c16 := dF c16
        refine Run.skip ?_
        refine Run.region ?_
        refine Ops.pure rfl (Pure.move rfl) ?_
        refine Ops.pure rfl (Pure.move rfl) ?_
        refine Ops.pure rfl (Pure.cat rfl rfl (by first | omega | (simp only [ByteArray.size_append]; omega))) ?_
        refine Ops.pure rfl (Pure.assign rfl) ?_
        refine Ops.nil ?_
        refine Run.blk ?_
        refine Run.region ?_
        refine Ops.pure rfl (Pure.add rfl rfl (by omega) (by omega)) ?_
        refine Ops.pure rfl (Pure.move rfl) ?_
        refine Ops.nil ?_
        refine Run.asrt ?_
        first
          | exact ⟨k + 1, ⟨by omega, by omega⟩, ⟨rfl, by rw [joinTo_next c16]; rfl, rfl, rfl, rfl, trivial⟩, Ext.nil _⟩
          | exact ⟨k + 1, ⟨by omega, by omega⟩, ⟨rfl, by rw [joinTo_first c16]; rfl, rfl, rfl, rfl, trivial⟩, Ext.nil _⟩
    · skip
      replace c11 := dF c11
      refine Run.exit rfl ?_
      refine Run.seq ?_
      refine Run.region ?_
      refine Ops.pure rfl (Pure.move rfl) ?_
      refine Ops.pure rfl (Pure.assign rfl) ?_
      refine Ops.nil ?_
      refine Run.ret1 rfl rfl ?_
      have e : k = ps.length := by omega
      subst e
      rfl

theorem mem_getD {α : Type} {l : List α} {k : Nat} (d : α) (h : k < l.length) : l.getD k d ∈ l := by simp [List.getD, List.getElem?_eq_getElem h]

set_option maxRecDepth 4000 in
/-- impl.PassesText -/
theorem f_i_PassesText (w : World) (v : Value) (l : List (Int × Bool)) (hv : Rd w v 2 l.length (passes l)) (hl : l.length ≤ 1048576) (hi : ∀ y ∈ l, -9223372036854775808 ≤ y.1 ∧ y.1 ≤ 9223372036854775807) : RetV Try.prog 21 [v] w (.string (joinAll (strOf [32]) (l.map partP))) := by
  refine Ret.enter Try.func21 rfl Try.ntmps21 rfl ?_
  refine Run.seq ?_
  refine Run.region ?_
  refine Ops.pure rfl (Pure.assign rfl) ?_
  refine Ops.nil ?_
  refine Run.seq ?_
  refine Run.region ?_
  refine Ops.go rfl (Loud.lit sl55 rfl rfl rfl (by simp [Value.oneCell'])) ?_
  rintro v7 _ rfl
  refine Ops.pure rfl (Pure.assign rfl) ?_
  refine Ops.nil ?_
  refine Run.seq ?_
  refine Run.seq ?_
  refine Run.region ?_
  refine Ops.pure rfl (Pure.move rfl) ?_
  refine Ops.pure rfl (Pure.len sl25 (RdL.old hv) rfl) ?_
  refine Ops.pure rfl (Pure.move rfl) ?_
  refine Ops.nil ?_
  refine Run.block ?_
  refine Run.loop2 (X := Nat) (Y := Value) (fun k vp => [(3, vp), (8, v), (9, .int .i64 l.length), (10, .int .i64 k)]) (fun k vp => [.row 9 1 vp k (strs ((l.take k).map partP))]) (fun k vp => k ≤ l.length) (fun k vp => l.length - k) 0 v7 ?_ ?_ ?_ ?_
  · exact Nat.zero_le _
  · exact ⟨rfl, rfl, rfl, rfl, trivial⟩
  · exact Ext.eq rfl
  · intro k vp hinv0
    have hik := fun (h : k < l.length) => hi _ (mem_getD (0, false) h)
    have hds := fun (h : k < l.length) => decB_size (hik h).1 (hik h).2

    refine Run.seq ?_
    refine Run.region ?_
    refine Ops.pure rfl (Pure.lss rfl rfl) ?_
    refine Ops.nil ?_
    refine Run.seq ?_
    refine Run.cond rfl (fun c11 => ?_) (fun c11 => ?_)
    · skip
      replace c11 := dT c11
      refine Run.skip ?_
      refine Run.seq ?_
      refine Run.block ?_
      refine Run.seq ?_
      refine Run.region ?_
      refine Ops.pure rfl (Pure.idxN sl25 (RdL.old hv) rfl rfl (by first | assumption | omega | (simp; omega))) ?_
      refine Ops.pure rfl (Pure.ldA cell50 rfl (RdL.old hv) (seg_get encP_len (by omega) (0, false)) rfl (by decide)) ?_
      refine Ops.go rfl (Loud.alloc zero50 rfl) ?_
      rintro _ _ ⟨b5, rfl, rfl⟩
      refine Ops.store (Stores.box 0 rfl rfl rfl size50 (allOne rfl) rfl rfl) ?_
      refine Ops.nil ?_
      refine Run.seq ?_
      refine Run.region ?_
      refine Ops.pure rfl (Pure.assign rfl) ?_
      refine Ops.nil ?_
      refine Run.seq ?_
      refine Run.seq ?_
      refine Run.region ?_
      refine Ops.pure rfl (Pure.fieldAddrB fld50_1 rfl) ?_
      refine Ops.pure rfl (Pure.ldB 0 rfl cell4 rfl rfl) ?_
      refine Ops.nil ?_
      refine Run.cond rfl (fun c15 => ?_) (fun c15 => ?_)
      · skip
        skip
        refine Run.region ?_
        refine Ops.pure rfl (Pure.assign rfl) ?_
        refine Ops.nil ?_
        refine Run.region ?_
        refine Ops.pure rfl (Pure.move rfl) ?_
        refine Ops.pure rfl (Pure.move rfl) ?_
        refine Ops.pure rfl (Pure.fieldAddrB fld50_0 rfl) ?_
        refine Ops.pure rfl (Pure.ldB 0 rfl cell2 rfl rfl) ?_
        refine Ops.q rfl (QOp.call fn50 rfl (fun w hw => f_i_Decimal w _ (hik (by omega)).1 (hik (by omega)).2)) ?_
        refine Ops.pure rfl (Pure.cat rfl rfl (by first | omega | (simp only [ByteArray.size_append]; omega) | (show 1 + _ ≤ _; have := hds (by omega); omega))) ?_
        refine Ops.go rfl (Loud.lit sl55 rfl rfl rfl (by simp [Value.oneCell'])) ?_
        rintro v22 _ rfl
        refine Ops.go rfl (Loud.append 2 rfl sl55 rfl rfl (RdL.own 0 rfl) (by simp [Value.oneCell']) (by omega) (by omega)) ?_
        rintro v23 _ rfl
        refine Ops.pure rfl (Pure.assign rfl) ?_
        refine Ops.nil ?_
        refine Run.blk ?_
        refine Run.region ?_
        refine Ops.pure rfl (Pure.add rfl rfl (by omega) (by omega)) ?_
        refine Ops.pure rfl (Pure.move rfl) ?_
        refine Ops.nil ?_
        refine Run.asrt ?_
        refine ⟨k + 1, v23, ⟨by omega, by omega⟩, ⟨rfl, rfl, rfl, rfl, trivial⟩, Ext.trans (Ext.eq ?_) (Ext.take 2 rfl (Ext.nil _))⟩
        rw [strs_snoc (0, false) (by omega)]
        first
          | (rw [partP_yes c15]; rfl)
          | (rw [partP_no c15]; rfl)
      · skip
        skip
        refine Run.skip ?_
        refine Run.region ?_
        refine Ops.pure rfl (Pure.move rfl) ?_
        refine Ops.pure rfl (Pure.move rfl) ?_
        refine Ops.pure rfl (Pure.fieldAddrB fld50_0 rfl) ?_
        refine Ops.pure rfl (Pure.ldB 0 rfl cell2 rfl rfl) ?_
        refine Ops.q rfl (QOp.call fn50 rfl (fun w hw => f_i_Decimal w _ (hik (by omega)).1 (hik (by omega)).2)) ?_
        refine Ops.pure rfl (Pure.cat rfl rfl (by first | omega | (simp only [ByteArray.size_append]; omega) | (show 1 + _ ≤ _; have := hds (by omega); omega))) ?_
        refine Ops.go rfl (Loud.lit sl55 rfl rfl rfl (by simp [Value.oneCell'])) ?_
        rintro v22 _ rfl
        refine Ops.go rfl (Loud.append 2 rfl sl55 rfl rfl (RdL.own 0 rfl) (by simp [Value.oneCell']) (by omega) (by omega)) ?_
        rintro v23 _ rfl
        refine Ops.pure rfl (Pure.assign rfl) ?_
        refine Ops.nil ?_
        refine Run.blk ?_
        refine Run.region ?_
        refine Ops.pure rfl (Pure.add rfl rfl (by omega) (by omega)) ?_
        refine Ops.pure rfl (Pure.move rfl) ?_
        refine Ops.nil ?_
        refine Run.asrt ?_
        refine ⟨k + 1, v23, ⟨by omega, by omega⟩, ⟨rfl, rfl, rfl, rfl, trivial⟩, Ext.trans (Ext.eq ?_) (Ext.take 2 rfl (Ext.nil _))⟩
        rw [strs_snoc (0, false) (by omega)]
        first
          | (rw [partP_yes c15]; rfl)
          | (rw [partP_no c15]; rfl)
    · skip
      replace c11 := dF c11
      refine Run.exit rfl ?_
      refine Run.seq ?_
      have e : k = l.length := by omega
      subst e
      rw [List.take_length]
      refine Run.region ?_
      refine Ops.pure rfl (Pure.move rfl) ?_
      refine Ops.q rfl (QOp.call fn51 rfl (fun w hw => f_i_joined w _ (l.map partP) _ (by rw [List.length_map]; exact RdL.own 0 rfl w hw) (by rw [List.length_map]; omega) (fun k hk => by rw [List.length_map] at hk; rw [getD_mapB (0, false) hk]; exact Nat.le_trans (partP_size (hi _ (mem_getD _ hk))) (by omega)) (by decide))) ?_
      refine Ops.pure rfl (Pure.assign rfl) ?_
      refine Ops.nil ?_
      refine Run.ret1 rfl rfl ?_
      rfl

set_option maxRecDepth 4000 in
/-- spec.PassesText -/
theorem f_s_PassesText (w : World) (v : Value) (l : List (Int × Bool)) (hv : Rd w v 2 l.length (passes l)) (hl : l.length ≤ 1048576) (hi : ∀ y ∈ l, -9223372036854775808 ≤ y.1 ∧ y.1 ≤ 9223372036854775807) : RetV Try.prog 20 [v] w (.string (joinAll (strOf [32]) (l.map partP))) := by
  refine Ret.enter Try.func20 rfl Try.ntmps20 rfl ?_
  refine Run.seq ?_
  refine Run.region ?_
  refine Ops.pure rfl (Pure.assign rfl) ?_
  refine Ops.nil ?_
  refine Run.seq ?_
  refine Run.region ?_
  refine Ops.pure rfl (Pure.assign rfl) ?_
  refine Ops.nil ?_
  refine Run.seq ?_
  refine Run.seq ?_
  refine Run.region ?_
  refine Ops.pure rfl (Pure.assign rfl) ?_
  refine Ops.nil ?_
  refine Run.block ?_
  refine Run.loop (X := Nat) (fun k => [(0, v), (3, .string (joinTo (strOf [32]) (l.map partP) k)), (4, .int .i64 k)]) (fun k => []) (fun k => k ≤ l.length) (fun k => l.length - k) 0 ?_ ?_ ?_ ?_
  · exact Nat.zero_le _
  · exact ⟨rfl, rfl, rfl, trivial⟩
  · exact Ext.refl _
  · intro k hinv0
    have hik := fun (h : k < l.length) => hi _ (mem_getD (0, false) h)
    have hds := fun (h : k < l.length) => decB_size (hik h).1 (hik h).2
    have hjs := joinTo_size (sep := strOf [32]) (ps := l.map partP) (by decide) (fun k hk => by rw [List.length_map] at hk; rw [getD_mapB (0, false) hk]; exact Nat.le_trans (partP_size (hi _ (mem_getD _ hk))) (by omega)) k (by rw [List.length_map]; exact hinv0)
    have hgd := getD_mapB (f := partP) (l := l) (k := k) (0, false)
    refine Run.seq ?_
    refine Run.seq ?_
    refine Run.region ?_
    refine Ops.pure rfl (Pure.move rfl) ?_
    refine Ops.pure rfl (Pure.move rfl) ?_
    refine Ops.pure rfl (Pure.len sl25 (RdL.old hv) rfl) ?_
    refine Ops.pure rfl (Pure.lss rfl rfl) ?_
    refine Ops.nil ?_
    refine Run.cond rfl (fun c8 => ?_) (fun c8 => ?_)
    · skip
      replace c8 := dT c8
      refine Run.skip ?_
      refine Run.seq ?_
      refine Run.block ?_
      refine Run.seq ?_
      refine Run.seq ?_
      refine Run.region ?_
      refine Ops.pure rfl (Pure.move rfl) ?_
      refine Ops.pure rfl (Pure.gtr rfl rfl) ?_
      refine Ops.nil ?_
      refine Run.cond rfl (fun c12 => ?_) (fun c12 => ?_)
      · skip
        replace c12 := dT c12
        refine Run.region ?_
        refine Ops.pure rfl (Pure.move rfl) ?_
        refine Ops.pure rfl (Pure.cat rfl rfl (by first | omega | (simp only [ByteArray.size_append, sz_lit1]; omega) | (have hds2 := hds (by omega); simp only [ByteArray.size_append, sz_lit1]; omega))) ?_
        refine Ops.pure rfl (Pure.assign rfl) ?_
        refine Ops.nil ?_
        refine Run.seq ?_
        refine Run.seq ?_
        refine Run.region ?_
        refine Ops.pure rfl (Pure.move rfl) ?_
        refine Ops.pure rfl (Pure.move rfl) ?_
        refine Ops.pure rfl (Pure.idxN sl25 (RdL.old hv) rfl rfl (by first | assumption | omega | (simp; omega))) ?_
        refine Ops.pure rfl (Pure.fieldAddr fld50_1 rfl (RdL.old hv) (by first | omega | (simp; omega))) ?_
        refine Ops.pure rfl (Pure.ld cell4 rfl (RdL.old hv) (fget encP_len (by omega) (0, false) rfl)) ?_
        refine Ops.nil ?_
        refine Run.cond rfl (fun c19 => ?_) (fun c19 => ?_)
        · skip
          skip
          refine Run.region ?_
          refine Ops.pure rfl (Pure.move rfl) ?_
          refine Ops.pure rfl (Pure.cat rfl rfl (by first | omega | (simp only [ByteArray.size_append, sz_lit1]; omega) | (have hds2 := hds (by omega); simp only [ByteArray.size_append, sz_lit1]; omega))) ?_
          refine Ops.pure rfl (Pure.assign rfl) ?_
          refine Ops.nil ?_
          refine Run.region ?_
          refine Ops.pure rfl (Pure.move rfl) ?_
          refine Ops.pure rfl (Pure.move rfl) ?_
          refine Ops.pure rfl (Pure.move rfl) ?_
          refine Ops.pure rfl (Pure.idxN sl25 (RdL.old hv) rfl rfl (by first | assumption | omega | (simp; omega))) ?_
          refine Ops.pure rfl (Pure.fieldAddr fld50_0 rfl (RdL.old hv) (by first | omega | (simp; omega))) ?_
          refine Ops.pure rfl (Pure.ld cell2 rfl (RdL.old hv) (fget encP_len (by omega) (0, false) rfl)) ?_
          refine Ops.q rfl (QOp.call fn49 rfl (fun w hw => f_s_l01Dec w _ (hik (by omega)).1 (hik (by omega)).2)) ?_
          refine Ops.pure rfl (Pure.cat rfl rfl (by first | omega | (simp only [ByteArray.size_append, sz_lit1]; omega) | (have hds2 := hds (by omega); simp only [ByteArray.size_append, sz_lit1]; omega))) ?_
          refine Ops.pure rfl (Pure.assign rfl) ?_
          refine Ops.nil ?_
          refine Run.blk ?_
          refine Run.region ?_
          refine Ops.pure rfl (Pure.move rfl) ?_
          refine Ops.pure rfl (Pure.add rfl rfl (by omega) (by omega)) ?_
          refine Ops.pure rfl (Pure.assign rfl) ?_
          refine Ops.nil ?_
          refine Run.asrt ?_
          refine ⟨k + 1, ⟨by omega, by omega⟩, ⟨rfl, ?_, rfl, trivial⟩, Ext.nil _⟩
          first
            | (rw [joinTo_next c12, hgd (by omega), partP_yes c19, ← ByteArray.append_assoc]; rfl)
            | (rw [joinTo_next c12, hgd (by omega), partP_no c19, ← ByteArray.append_assoc]; rfl)
            | (rw [joinTo_first c12, hgd (by omega), partP_yes c19, ← ByteArray.append_assoc]; rfl)
            | (rw [joinTo_first c12, hgd (by omega), partP_no c19, ← ByteArray.append_assoc]; rfl)
        · skip
          skip
          refine Run.region ?_
          refine Ops.pure rfl (Pure.move rfl) ?_
          refine Ops.pure rfl (Pure.cat rfl rfl (by first | omega | (simp only [ByteArray.size_append, sz_lit1]; omega) | (have hds2 := hds (by omega); simp only [ByteArray.size_append, sz_lit1]; omega))) ?_
          refine Ops.pure rfl (Pure.assign rfl) ?_
          refine Ops.nil ?_
          refine Run.region ?_
          refine Ops.pure rfl (Pure.move rfl) ?_
          refine Ops.pure rfl (Pure.move rfl) ?_
          refine Ops.pure rfl (Pure.move rfl) ?_
          refine Ops.pure rfl (Pure.idxN sl25 (RdL.old hv) rfl rfl (by first | assumption | omega | (simp; omega))) ?_
          refine Ops.pure rfl (Pure.fieldAddr fld50_0 rfl (RdL.old hv) (by first | omega | (simp; omega))) ?_
          refine Ops.pure rfl (Pure.ld cell2 rfl (RdL.old hv) (fget encP_len (by omega) (0, false) rfl)) ?_
          refine Ops.q rfl (QOp.call fn49 rfl (fun w hw => f_s_l01Dec w _ (hik (by omega)).1 (hik (by omega)).2)) ?_
          refine Ops.pure rfl (Pure.cat rfl rfl (by first | omega | (simp only [ByteArray.size_append, sz_lit1]; omega) | (have hds2 := hds (by omega); simp only [ByteArray.size_append, sz_lit1]; omega))) ?_
          refine Ops.pure rfl (Pure.assign rfl) ?_
          refine Ops.nil ?_
          refine Run.blk ?_
          refine Run.region ?_
          refine Ops.pure rfl (Pure.move rfl) ?_
          refine Ops.pure rfl (Pure.add rfl rfl (by omega) (by omega)) ?_
          refine Ops.pure rfl (Pure.assign rfl) ?_
          refine Ops.nil ?_
          refine Run.asrt ?_
          refine ⟨k + 1, ⟨by omega, by omega⟩, ⟨rfl, ?_, rfl, trivial⟩, Ext.nil _⟩
          first
            | (rw [joinTo_next c12, hgd (by omega), partP_yes c19, ← ByteArray.append_assoc]; rfl)
            | (rw [joinTo_next c12, hgd (by omega), partP_no c19, ← ByteArray.append_assoc]; rfl)
            | (rw [joinTo_first c12, hgd (by omega), partP_yes c19, ← ByteArray.append_assoc]; rfl)
            | (rw [joinTo_first c12, hgd (by omega), partP_no c19, ← ByteArray.append_assoc]; rfl)
      · skip
        replace c12 := dF c12
        refine Run.skip ?_
        refine Run.seq ?_
        refine Run.seq ?_
        refine Run.region ?_
        refine Ops.pure rfl (Pure.move rfl) ?_
        refine Ops.pure rfl (Pure.move rfl) ?_
        refine Ops.pure rfl (Pure.idxN sl25 (RdL.old hv) rfl rfl (by first | assumption | omega | (simp; omega))) ?_
        refine Ops.pure rfl (Pure.fieldAddr fld50_1 rfl (RdL.old hv) (by first | omega | (simp; omega))) ?_
        refine Ops.pure rfl (Pure.ld cell4 rfl (RdL.old hv) (fget encP_len (by omega) (0, false) rfl)) ?_
        refine Ops.nil ?_
        refine Run.cond rfl (fun c19 => ?_) (fun c19 => ?_)
        · skip
          skip
          refine Run.region ?_
          refine Ops.pure rfl (Pure.move rfl) ?_
          refine Ops.pure rfl (Pure.cat rfl rfl (by first | omega | (simp only [ByteArray.size_append, sz_lit1]; omega) | (have hds2 := hds (by omega); simp only [ByteArray.size_append, sz_lit1]; omega))) ?_
          refine Ops.pure rfl (Pure.assign rfl) ?_
          refine Ops.nil ?_
          refine Run.region ?_
          refine Ops.pure rfl (Pure.move rfl) ?_
          refine Ops.pure rfl (Pure.move rfl) ?_
          refine Ops.pure rfl (Pure.move rfl) ?_
          refine Ops.pure rfl (Pure.idxN sl25 (RdL.old hv) rfl rfl (by first | assumption | omega | (simp; omega))) ?_
          refine Ops.pure rfl (Pure.fieldAddr fld50_0 rfl (RdL.old hv) (by first | omega | (simp; omega))) ?_
          refine Ops.pure rfl (Pure.ld cell2 rfl (RdL.old hv) (fget encP_len (by omega) (0, false) rfl)) ?_
          refine Ops.q rfl (QOp.call fn49 rfl (fun w hw => f_s_l01Dec w _ (hik (by omega)).1 (hik (by omega)).2)) ?_
          refine Ops.pure rfl (Pure.cat rfl rfl (by first | omega | (simp only [ByteArray.size_append, sz_lit1]; omega) | (have hds2 := hds (by omega); simp only [ByteArray.size_append, sz_lit1]; omega))) ?_
          refine Ops.pure rfl (Pure.assign rfl) ?_
          refine Ops.nil ?_
          refine Run.blk ?_
          refine Run.region ?_
          refine Ops.pure rfl (Pure.move rfl) ?_
          refine Ops.pure rfl (Pure.add rfl rfl (by omega) (by omega)) ?_
          refine Ops.pure rfl (Pure.assign rfl) ?_
          refine Ops.nil ?_
          refine Run.asrt ?_
          refine ⟨k + 1, ⟨by omega, by omega⟩, ⟨rfl, ?_, rfl, trivial⟩, Ext.nil _⟩
          first
            | (rw [joinTo_next c12, hgd (by omega), partP_yes c19, ← ByteArray.append_assoc]; rfl)
            | (rw [joinTo_next c12, hgd (by omega), partP_no c19, ← ByteArray.append_assoc]; rfl)
            | (rw [joinTo_first c12, hgd (by omega), partP_yes c19, ← ByteArray.append_assoc]; rfl)
            | (rw [joinTo_first c12, hgd (by omega), partP_no c19, ← ByteArray.append_assoc]; rfl)
        · skip
          skip
          refine Run.region ?_
          refine Ops.pure rfl (Pure.move rfl) ?_
          refine Ops.pure rfl (Pure.cat rfl rfl (by first | omega | (simp only [ByteArray.size_append, sz_lit1]; omega) | (have hds2 := hds (by omega); simp only [ByteArray.size_append, sz_lit1]; omega))) ?_
          refine Ops.pure rfl (Pure.assign rfl) ?_
          refine Ops.nil ?_
          refine Run.region ?_
          refine Ops.pure rfl (Pure.move rfl) ?_
          refine Ops.pure rfl (Pure.move rfl) ?_
          refine Ops.pure rfl (Pure.move rfl) ?_
          refine Ops.pure rfl (Pure.idxN sl25 (RdL.old hv) rfl rfl (by first | assumption | omega | (simp; omega))) ?_
          refine Ops.pure rfl (Pure.fieldAddr fld50_0 rfl (RdL.old hv) (by first | omega | (simp; omega))) ?_
          refine Ops.pure rfl (Pure.ld cell2 rfl (RdL.old hv) (fget encP_len (by omega) (0, false) rfl)) ?_
          refine Ops.q rfl (QOp.call fn49 rfl (fun w hw => f_s_l01Dec w _ (hik (by omega)).1 (hik (by omega)).2)) ?_
          refine Ops.pure rfl (Pure.cat rfl rfl (by first | omega | (simp only [ByteArray.size_append, sz_lit1]; omega) | (have hds2 := hds (by omega); simp only [ByteArray.size_append, sz_lit1]; omega))) ?_
          refine Ops.pure rfl (Pure.assign rfl) ?_
          refine Ops.nil ?_
          refine Run.blk ?_
          refine Run.region ?_
          refine Ops.pure rfl (Pure.move rfl) ?_
          refine Ops.pure rfl (Pure.add rfl rfl (by omega) (by omega)) ?_
          refine Ops.pure rfl (Pure.assign rfl) ?_
          refine Ops.nil ?_
          refine Run.asrt ?_
          refine ⟨k + 1, ⟨by omega, by omega⟩, ⟨rfl, ?_, rfl, trivial⟩, Ext.nil _⟩
          first
            | (rw [joinTo_next c12, hgd (by omega), partP_yes c19, ← ByteArray.append_assoc]; rfl)
            | (rw [joinTo_next c12, hgd (by omega), partP_no c19, ← ByteArray.append_assoc]; rfl)
            | (rw [joinTo_first c12, hgd (by omega), partP_yes c19, ← ByteArray.append_assoc]; rfl)
            | (rw [joinTo_first c12, hgd (by omega), partP_no c19, ← ByteArray.append_assoc]; rfl)
    · skip
      replace c8 := dF c8
      refine Run.exit rfl ?_
      refine Run.seq ?_
      refine Run.region ?_
      refine Ops.pure rfl (Pure.move rfl) ?_
      refine Ops.pure rfl (Pure.assign rfl) ?_
      refine Ops.nil ?_
      refine Run.ret1 rfl rfl ?_
      have e : k = l.length := by omega
      subst e
      unfold joinAll
      rw [List.length_map]

end Go.Proofs.Ytpldgghkhknpnaa
