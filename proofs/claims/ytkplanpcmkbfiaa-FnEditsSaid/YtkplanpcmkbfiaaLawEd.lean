/- Contracts of functions, printed by program from annotations. -/
import Derived.Test.YtkplanpcmkbfiaaEdl
import Derived.Test.YtkplanpcmkbfiaaPanX
namespace Go.Proofs.Ytkplanpcmkbfiaa
open Go Go.AW Go.RowKit
set_option linter.unusedVariables false
set_option linter.unusedSimpArgs false

theorem joinTo_szB {sep : ByteArray} {ps : List ByteArray} {B : Nat} (hs : sep.size ≤ 16) (hp : ∀ k, k < ps.length → (ps.getD k ByteArray.empty).size ≤ B) : ∀ k, k ≤ ps.length → (joinTo sep ps k).size ≤ k * (B + 16)
  | 0, _ => by simp [joinTo]
  | k + 1, h => by
    have h1 := joinTo_szB hs hp k (by omega)
    have h2 := hp k (by omega)
    rw [Nat.succ_mul]
    show (if k = 0 then joinTo sep ps k ++ ps.getD k ByteArray.empty else (joinTo sep ps k ++ sep) ++ ps.getD k ByteArray.empty).size ≤ _
    split
    · rw [ByteArray.size_append]; omega
    · rw [ByteArray.size_append, ByteArray.size_append]; omega
theorem veE_zero {a b : Int} {l : List Int} {es : List (Int × Int)} (h : veE a b l es = 0) : okP a b l = true ∧ edsB l es = true := by
  unfold veE at h
  split at h
  · assumption
  · omega
theorem etT_size {a b : Int} {l : List Int} {es : List (Int × Int)} (h : veE a b l es = 0) (hl : l.length ≤ 112) (he : es.length ≤ 112) : (etT a b l es).size ≤ 1048576 := by
  rw [etT_ok h]
  have h1 := joinTo_szB (sep := strOf [32]) (ps := es.map partE) (B := 41) (by rw [size_strOf]; decide) (fun k hk => by
    rw [List.length_map] at hk
    rw [edP_get hk]
    have := edsB_at (veE_zero h).2 (by omega) hk
    exact partE_size (by omega)) (es.map partE).length (Nat.le_refl _)
  rw [List.length_map] at h1
  have h2 : es.length * (41 + 16) ≤ 112 * (41 + 16) := Nat.mul_le_mul_right _ he
  unfold edT joinAll
  rw [List.length_map]
  omega

theorem eqs74 : EqT2 Try.prog 74 := EqT2.mk' Try.underlying74 (by kernel_rfl) (by kernel_rfl) (by kernel_rfl) (by kernel_rfl) rfl rfl Try.underlying2 Try.underlying2 (by kernel_rfl) (by kernel_rfl)

set_option maxRecDepth 4000 in
/-- laws.FnEdits -/
theorem f_l_FnEdits (w : World) (vc : Value) (co : List Int) (hc : Rd w vc 1 co.length (AW.bytes co)) (hcl : co.length ≤ 9223372036854775807) (hb : ∀ x ∈ co, 0 ≤ x ∧ x ≤ 255) : RetV Try.prog 10 [vc] w (.bool true) := by
  refine Ret.enter Try.func10 rfl Try.ntmps10 rfl ?_
  refine Run.seq ?_
  refine Run.region ?_
  refine Ops.pure rfl (Pure.assign rfl) ?_
  refine Ops.nil ?_
  refine Run.seq ?_
  refine Run.seq ?_
  refine Run.region ?_
  refine Ops.pure rfl (Pure.move rfl) ?_
  refine Ops.q rfl (QOp.call fn31 rfl (fun w hw => f_l_a2Long w vc _ _ _ 0 [] (RdL.old hc w hw) (Rd_nil w 1))) ?_
  refine Ops.nil ?_
  refine Run.cond rfl (fun c19 => ?_) (fun c19 => ?_)
  · skip
    replace c19 := dT c19
    refine Run.seq ?_
    refine Run.region ?_
    refine Ops.pure rfl (Pure.assign rfl) ?_
    refine Ops.nil ?_
    refine Run.ret1 rfl rfl ?_
    rfl
  · skip
    replace c19 := dF c19
    have hcl2 : co.length ≤ 1000000000 := by omega
    refine Run.skip ?_
    refine Run.seq ?_
    refine Run.region ?_
    refine Ops.pure rfl (Pure.move rfl) ?_
    refine Ops.go rfl (Loud.callR fn40 rfl (fun w hw => f_s_A2Edits w vc co (RdL.old hc w hw) hb hcl2)) ?_
    rintro v22 _ ⟨L22, hQ22, rfl⟩
    obtain ⟨a22, c22, l22, m22, x22, y22, ha22, hA22, hc22, hC22, hk22, hm22, h22, rfl, rfl⟩ := hQ22
    have hll := okP_len hk22
    have hlm := okP_len hm22
    obtain ⟨e1, e2, e3, e4, e5, e6, e7, e8, e9, e10, e11⟩ := eds_facts hk22 hm22
    have hz := etT_size e1 hll e10
    have v1 := veE_zero e1
    have v2 := veE_zero e4
    refine Ops.pure rfl (Pure.move rfl) ?_
    refine Ops.pure rfl (Pure.extract rfl rfl) ?_
    refine Ops.pure rfl (Pure.extract rfl rfl) ?_
    refine Ops.go rfl (Loud.alloc zero28 rfl) ?_
    rintro _ _ ⟨b3, rfl, rfl⟩
    refine Ops.store (Stores.box 0 rfl rfl rfl size28 (one3 h22) rfl rfl) ?_
    refine Ops.pure rfl (Pure.assign rfl) ?_
    refine Ops.nil ?_
    refine Run.seq ?_
    refine Run.region ?_
    refine Ops.pure rfl (Pure.ldBA 0 rfl cell28 rfl rfl rfl) ?_
    refine Ops.pure rfl (Pure.move rfl) ?_
    refine Ops.go rfl (Loud.callR fn41 rfl (fun w hw => f_i_ApplyEdits w _ _ _ _ _ _ (by exact RdL.own 2 rfl w hw) (by omega) (by omega) (by omega) (by omega) (by omega) (by exact RdL.own 1 rfl w hw) (by omega))) ?_
    rintro v28 _ ⟨L28, hQ28, rfl⟩
    rw [e1, zif_yes, zif_yes, lif_yes, e2] at hQ28
    obtain ⟨x28, h28, rfl, rfl⟩ := hQ28
    refine Ops.pure rfl (Pure.move rfl) ?_
    refine Ops.pure rfl (Pure.extract rfl rfl) ?_
    refine Ops.pure rfl (Pure.extract rfl rfl) ?_
    refine Ops.go rfl (Loud.alloc zero28 rfl) ?_
    rintro _ _ ⟨b5, rfl, rfl⟩
    refine Ops.store (Stores.box 0 rfl rfl rfl size28 (one3 h28) rfl rfl) ?_
    refine Ops.pure rfl (Pure.assign rfl) ?_
    refine Ops.nil ?_
    refine Run.seq ?_
    refine Run.region ?_
    refine Ops.pure rfl (Pure.ldBA 2 rfl cell28 rfl rfl rfl) ?_
    refine Ops.pure rfl (Pure.move rfl) ?_
    refine Ops.go rfl (Loud.callR fn42 rfl (fun w hw => f_i_UndoEdits w _ _ _ _ _ _ (by exact RdL.own 4 rfl w hw) (by omega) (by omega) (by omega) (by omega) (by omega) (by exact RdL.own 3 rfl w hw) (by omega))) ?_
    rintro v34 _ ⟨L34, hQ34, rfl⟩
    rw [e1, lif_yes, e3] at hQ34
    obtain ⟨x34, rfl, rfl⟩ := hQ34
    refine Ops.pure rfl (Pure.move rfl) ?_
    refine Ops.pure rfl (Pure.extract rfl rfl) ?_
    refine Ops.pure rfl (Pure.extract rfl rfl) ?_
    refine Ops.pure rfl (Pure.assign rfl) ?_
    refine Ops.pure rfl (Pure.assign rfl) ?_
    refine Ops.nil ?_
    refine Run.seq ?_
    refine Run.region ?_
    refine Ops.pure rfl (Pure.ldBA 3 rfl cell28 rfl rfl rfl) ?_
    refine Ops.pure rfl (Pure.move rfl) ?_
    refine Ops.q rfl (QOp.call fn43 rfl (fun w hw => f_i_EditsText w _ _ _ _ _ _ (by exact RdL.own 5 rfl w hw) (by omega) (by omega) (by omega) (by omega) (by omega) (by exact RdL.own 4 rfl w hw) (by omega))) ?_
    refine Ops.pure rfl (Pure.move rfl) ?_
    refine Ops.pure rfl (Pure.extract rfl rfl) ?_
    refine Ops.pure rfl (Pure.extract rfl rfl) ?_
    refine Ops.pure rfl (Pure.assign rfl) ?_
    refine Ops.pure rfl (Pure.assign rfl) ?_
    refine Ops.nil ?_
    refine Run.seq ?_
    refine Run.region ?_
    refine Ops.pure rfl (Pure.ldBA 3 rfl cell28 rfl rfl rfl) ?_
    refine Ops.pure rfl (Pure.move rfl) ?_
    refine Ops.go rfl (Loud.callR fn44 rfl (fun w hw => f_i_ReadEdits w _ _ _ _ _ (by exact RdL.own 5 rfl w hw) (by omega) (by assumption) (by omega) (by omega) (by omega) (by omega))) ?_
    rintro v46 _ ⟨L46, hQ46, rfl⟩
    rw [e6, e7] at hQ46
    obtain ⟨x46, rfl, rfl⟩ := hQ46
    refine Ops.pure rfl (Pure.move rfl) ?_
    refine Ops.pure rfl (Pure.extract rfl rfl) ?_
    refine Ops.pure rfl (Pure.extract rfl rfl) ?_
    refine Ops.pure rfl (Pure.assign rfl) ?_
    refine Ops.pure rfl (Pure.assign rfl) ?_
    refine Ops.nil ?_
    refine Run.seq ?_
    refine Run.seq ?_
    refine Run.region ?_
    refine Ops.pure rfl (Pure.move rfl) ?_
    refine Ops.pure rfl (Pure.neq rfl rfl) ?_
    refine Ops.pure rfl (Pure.move rfl) ?_
    refine Ops.guardY rfl rfl rfl (by simp) ?_
    refine Ops.pure rfl (Pure.move rfl) ?_
    refine Ops.guardY rfl rfl rfl (by simp) ?_
    refine Ops.pure rfl (Pure.neq rfl rfl) ?_
    refine Ops.pure rfl (Pure.pickF rfl (by simp) rfl) ?_
    refine Ops.pure rfl (Pure.move rfl) ?_
    refine Ops.guardY rfl rfl rfl (by simp) ?_
    refine Ops.pure rfl (Pure.move rfl) ?_
    refine Ops.guardY rfl rfl rfl (by simp) ?_
    refine Ops.pure rfl (Pure.neq rfl rfl) ?_
    refine Ops.pure rfl (Pure.pickF rfl (by simp) rfl) ?_
    refine Ops.pure rfl (Pure.move rfl) ?_
    refine Ops.guardY rfl rfl rfl (by simp [e1]) ?_
    refine Ops.pure rfl (Pure.move rfl) ?_
    refine Ops.guardY rfl rfl rfl (by simp [e1]) ?_
    refine Ops.pure rfl (Pure.neq rfl rfl) ?_
    refine Ops.pure rfl (Pure.pickF rfl (by simp [e1]) rfl) ?_
    refine Ops.pure rfl (Pure.move rfl) ?_
    refine Ops.guardY rfl rfl rfl (by simp) ?_
    refine Ops.pure rfl (Pure.ldBA 2 rfl cell28 rfl rfl rfl) ?_
    refine Ops.guardY rfl rfl rfl (by simp) ?_
    refine Ops.q rfl (QOp.call fn45 rfl (fun w hw => f_s_ValidPanel w _ _ _ _ (by exact RdL.own 3 rfl w hw) (by omega) (by omega) (by omega) (by omega) (by omega))) ?_
    refine Ops.guardY rfl rfl rfl (by simp) ?_
    refine Ops.pure rfl (Pure.not rfl) ?_
    refine Ops.pure rfl (Pure.pickF rfl (by simp) rfl) ?_
    refine Ops.pure rfl (Pure.move rfl) ?_
    refine Ops.guardY rfl rfl rfl (by simp [hm22]) ?_
    refine Ops.pure rfl (Pure.ldBA 2 rfl cell28 rfl rfl rfl) ?_
    refine Ops.guardY rfl rfl rfl (by simp [hm22]) ?_
    refine Ops.pure rfl (Pure.move rfl) ?_
    refine Ops.guardY rfl rfl rfl (by simp [hm22]) ?_
    refine Ops.q rfl (QOp.call fn46 rfl (fun w hw => f_s_ValidEdits w _ _ _ _ _ _ (by exact RdL.own 3 rfl w hw) (by omega) (by omega) (by omega) (by omega) (by omega) (by exact RdL.own 1 rfl w hw) (by omega))) ?_
    refine Ops.guardY rfl rfl rfl (by simp [hm22]) ?_
    refine Ops.pure rfl (Pure.not rfl) ?_
    refine Ops.pure rfl (Pure.pickF rfl (by simp [hm22]) rfl) ?_
    refine Ops.pure rfl (Pure.move rfl) ?_
    refine Ops.guardY rfl rfl rfl (by simp [v2.1, v2.2]) ?_
    refine Ops.pure rfl (Pure.ldBA 4 rfl cell28 rfl rfl rfl) ?_
    refine Ops.guardY rfl rfl rfl (by simp [v2.1, v2.2]) ?_
    refine Ops.pure rfl (Pure.move rfl) ?_
    refine Ops.guardY rfl rfl rfl (by simp [v2.1, v2.2]) ?_
    refine Ops.q rfl (QOp.call fn47 rfl (fun w hw => f_i_ValidEdits w _ _ _ _ _ _ (by exact RdL.own 6 rfl w hw) (by omega) (by omega) (by omega) (by omega) (by omega) (by exact RdL.own 5 rfl w hw) (by omega))) ?_
    refine Ops.guardY rfl rfl rfl (by simp [v2.1, v2.2]) ?_
    refine Ops.pure rfl (Pure.not rfl) ?_
    refine Ops.pure rfl (Pure.pickF rfl (by simp [v2.1, v2.2]) rfl) ?_
    refine Ops.pure rfl (Pure.move rfl) ?_
    refine Ops.guardY rfl rfl rfl (by simp [v1.1, v1.2]) ?_
    refine Ops.pure rfl (Pure.move rfl) ?_
    refine Ops.guardY rfl rfl rfl (by simp [v1.1, v1.2]) ?_
    refine Ops.pure rfl (Pure.len sl41 (RdL.own 0 rfl) rfl) ?_
    refine Ops.guardY rfl rfl rfl (by simp [v1.1, v1.2]) ?_
    refine Ops.pure rfl (Pure.move rfl) ?_
    refine Ops.guardY rfl rfl rfl (by simp [v1.1, v1.2]) ?_
    refine Ops.pure rfl (Pure.len sl41 (RdL.own 5 rfl) rfl) ?_
    refine Ops.guardY rfl rfl rfl (by simp [v1.1, v1.2]) ?_
    refine Ops.pure rfl (Pure.neq rfl rfl) ?_
    refine Ops.pure rfl (Pure.pickF rfl (by simp [v1.1, v1.2]) rfl) ?_
    refine Ops.nil ?_
    refine Run.condEF rfl (by simp) ?_
    refine Run.skip ?_
    refine Run.seq ?_
    refine Run.region ?_
    refine Ops.pure rfl (Pure.ldBA 2 rfl cell28 rfl rfl rfl) ?_
    refine Ops.pure rfl (Pure.move rfl) ?_
    refine Ops.go rfl (Loud.callR fn41 rfl (fun w hw => f_i_ApplyEdits w _ _ _ _ _ _ (by exact RdL.own 3 rfl w hw) (by omega) (by omega) (by omega) (by omega) (by omega) (by exact RdL.own 1 rfl w hw) (by omega))) ?_
    rintro v90 _ ⟨L90, hQ90, rfl⟩
    rw [e4, zif_yes, zif_yes, lif_yes, e5] at hQ90
    obtain ⟨x90, h90, rfl, rfl⟩ := hQ90
    refine Ops.pure rfl (Pure.move rfl) ?_
    refine Ops.pure rfl (Pure.extract rfl rfl) ?_
    refine Ops.pure rfl (Pure.extract rfl rfl) ?_
    refine Ops.go rfl (Loud.alloc zero28 rfl) ?_
    rintro _ _ ⟨b13, rfl, rfl⟩
    refine Ops.store (Stores.box 0 rfl rfl rfl size28 (one3 h90) rfl rfl) ?_
    refine Ops.pure rfl (Pure.assign rfl) ?_
    refine Ops.nil ?_
    refine Run.seq ?_
    refine Run.region ?_
    refine Ops.pure rfl (Pure.ldBA 6 rfl cell28 rfl rfl rfl) ?_
    refine Ops.pure rfl (Pure.ldBA 4 rfl cell28 rfl rfl rfl) ?_
    refine Ops.go rfl (Loud.callR fn48 rfl (fun w hw => f_i_EditsBetween w _ _ _ _ _ _ _ _ (by exact RdL.own 8 rfl w hw) (by exact RdL.own 5 rfl w hw) (by omega) (by omega) (by omega) (by omega) (by omega) (by omega) (by omega) (by omega) (by omega) (by omega))) ?_
    rintro v96 _ ⟨L96, hQ96, rfl⟩
    rw [e8, e9] at hQ96
    obtain ⟨x96, rfl, rfl⟩ := hQ96
    refine Ops.pure rfl (Pure.move rfl) ?_
    refine Ops.pure rfl (Pure.extract rfl rfl) ?_
    refine Ops.pure rfl (Pure.extract rfl rfl) ?_
    refine Ops.pure rfl (Pure.assign rfl) ?_
    refine Ops.pure rfl (Pure.assign rfl) ?_
    refine Ops.nil ?_
    refine Run.seq ?_
    refine Run.seq ?_
    refine Run.region ?_
    refine Ops.pure rfl (Pure.move rfl) ?_
    refine Ops.pure rfl (Pure.neq rfl rfl) ?_
    refine Ops.pure rfl (Pure.move rfl) ?_
    refine Ops.guardY rfl rfl rfl (by simp) ?_
    refine Ops.pure rfl (Pure.ldBA 1 rfl cell28 rfl rfl rfl) ?_
    refine Ops.guardY rfl rfl rfl (by simp) ?_
    refine Ops.pure rfl (Pure.ldBA 7 rfl cell28 rfl rfl rfl) ?_
    refine Ops.guardY rfl rfl rfl (by simp) ?_
    refine Ops.q rfl (QOp.call fn49 rfl (fun w hw => f_s_SamePanel w _ _ _ _ _ _ _ _ (by exact RdL.own 2 rfl w hw) (by exact RdL.own 9 rfl w hw) (by omega) (by omega))) ?_
    refine Ops.guardY rfl rfl rfl (by simp) ?_
    refine Ops.pure rfl (Pure.not rfl) ?_
    refine Ops.pure rfl (Pure.pickF rfl (by simp) rfl) ?_
    refine Ops.pure rfl (Pure.move rfl) ?_
    refine Ops.guardY rfl rfl rfl (by simp) ?_
    refine Ops.pure rfl (Pure.move rfl) ?_
    refine Ops.guardY rfl rfl rfl (by simp) ?_
    refine Ops.pure rfl (Pure.neq rfl rfl) ?_
    refine Ops.pure rfl (Pure.pickF rfl (by simp) rfl) ?_
    refine Ops.pure rfl (Pure.move rfl) ?_
    refine Ops.guardY rfl rfl rfl (by simp) ?_
    refine Ops.pure rfl (Pure.move rfl) ?_
    refine Ops.guardY rfl rfl rfl (by simp) ?_
    refine Ops.pure rfl (Pure.len sl41 (RdL.own 0 rfl) rfl) ?_
    refine Ops.guardY rfl rfl rfl (by simp) ?_
    refine Ops.pure rfl (Pure.move rfl) ?_
    refine Ops.guardY rfl rfl rfl (by simp) ?_
    refine Ops.pure rfl (Pure.len sl41 (RdL.own 8 rfl) rfl) ?_
    refine Ops.guardY rfl rfl rfl (by simp) ?_
    refine Ops.pure rfl (Pure.neq rfl rfl) ?_
    refine Ops.pure rfl (Pure.pickF rfl (by simp) rfl) ?_
    refine Ops.nil ?_
    refine Run.condEF rfl (by simp) ?_
    refine Run.skip ?_
    refine Run.seq ?_
    refine Run.seq ?_
    refine Run.region ?_
    refine Ops.pure rfl (Pure.assign rfl) ?_
    refine Ops.nil ?_
    refine Run.block ?_
    refine Run.loop (X := Nat) (fun k => [(4, y22), (11, x46), (15, x96), (17, .int .i64 k)]) (fun k => [.row 74 2 x96 (betw l22 m22 l22.length).length (edits (betw l22 m22 l22.length)), .row 74 2 x46 (betw l22 m22 l22.length).length (edits (betw l22 m22 l22.length)), .row 74 2 y22 (betw l22 m22 l22.length).length (edits (betw l22 m22 l22.length))]) (fun k => k ≤ (betw l22 m22 l22.length).length) (fun k => (betw l22 m22 l22.length).length - k) 0 ?_ ?_ ?_ ?_
    · exact Nat.zero_le _
    · exact ⟨rfl, rfl, rfl, rfl, trivial⟩
    · exact Ext.take 0 rfl (Ext.take 2 rfl (Ext.take 6 rfl (Ext.nil _)))
    · intro k hinv0
      refine Run.seq ?_
      refine Run.seq ?_
      refine Run.region ?_
      refine Ops.pure rfl (Pure.move rfl) ?_
      refine Ops.pure rfl (Pure.move rfl) ?_
      refine Ops.pure rfl (Pure.len sl41 (RdL.own 2 rfl) rfl) ?_
      refine Ops.pure rfl (Pure.lss rfl rfl) ?_
      refine Ops.nil ?_
      refine Run.cond rfl (fun c121 => ?_) (fun c121 => ?_)
      · skip
        replace c121 := dT c121
        refine Run.skip ?_
        refine Run.seq ?_
        refine Run.block ?_
        refine Run.seq ?_
        refine Any.start follows ?_
        refine Any.take 0 rfl (by kernel_rfl) rfl (QOp.pure (Pure.move rfl)) ?_
        refine Any.take 1 rfl (by kernel_rfl) rfl (QOp.pure (Pure.move rfl)) ?_
        refine Any.take 2 rfl (by kernel_rfl) rfl (QOp.pure (Pure.idxN sl41 (RdL.own 0 rfl) rfl rfl (by first | assumption | omega | (simp; omega)))) ?_
        refine Any.take 3 rfl (by kernel_rfl) rfl (QOp.pure (Pure.ldA cell74 rfl (RdL.own 0 rfl) (seg_get encE_len (by omega) (0, 0)) rfl (by decide))) ?_
        refine Any.take 4 rfl (by kernel_rfl) rfl (QOp.pure (Pure.move rfl)) ?_
        refine Any.take 5 rfl (by kernel_rfl) rfl (QOp.pure (Pure.move rfl)) ?_
        refine Any.take 6 rfl (by kernel_rfl) rfl (QOp.pure (Pure.idxN sl41 (RdL.own 2 rfl) rfl rfl (by first | assumption | omega | (simp; omega)))) ?_
        refine Any.take 7 rfl (by kernel_rfl) rfl (QOp.pure (Pure.ldA cell74 rfl (RdL.own 2 rfl) (seg_get encE_len (by omega) (0, 0)) rfl (by decide))) ?_
        refine Any.take 8 rfl (by kernel_rfl) rfl (QOp.pure (Pure.neq2 eqs74 rfl rfl)) ?_
        refine Any.take 9 rfl (by kernel_rfl) rfl (QOp.pure (Pure.move rfl)) ?_
        refine Any.takeY 10 rfl (by kernel_rfl) rfl rfl rfl rfl (by simp) (QOp.pure (Pure.move rfl)) ?_
        refine Any.takeY 11 rfl (by kernel_rfl) rfl rfl rfl rfl (by simp) (QOp.pure (Pure.move rfl)) ?_
        refine Any.takeY 12 rfl (by kernel_rfl) rfl rfl rfl rfl (by simp) (QOp.pure (Pure.idxN sl41 (RdL.own 1 rfl) rfl rfl (by first | assumption | omega | (simp; omega)))) ?_
        refine Any.takeY 13 rfl (by kernel_rfl) rfl rfl rfl rfl (by simp) (QOp.pure (Pure.ldA cell74 rfl (RdL.own 1 rfl) (seg_get encE_len (by omega) (0, 0)) rfl (by decide))) ?_
        refine Any.takeY 14 rfl (by kernel_rfl) rfl rfl rfl rfl (by simp) (QOp.pure (Pure.move rfl)) ?_
        refine Any.takeY 15 rfl (by kernel_rfl) rfl rfl rfl rfl (by simp) (QOp.pure (Pure.move rfl)) ?_
        refine Any.takeY 16 rfl (by kernel_rfl) rfl rfl rfl rfl (by simp) (QOp.pure (Pure.idxN sl41 (RdL.own 2 rfl) rfl rfl (by first | assumption | omega | (simp; omega)))) ?_
        refine Any.takeY 17 rfl (by kernel_rfl) rfl rfl rfl rfl (by simp) (QOp.pure (Pure.ldA cell74 rfl (RdL.own 2 rfl) (seg_get encE_len (by omega) (0, 0)) rfl (by decide))) ?_
        refine Any.takeY 18 rfl (by kernel_rfl) rfl rfl rfl rfl (by simp) (QOp.pure (Pure.neq2 eqs74 rfl rfl)) ?_
        refine Any.take 19 rfl (by kernel_rfl) rfl (QOp.pure (Pure.pickF rfl (by simp) rfl)) ?_
        refine Any.done (by kernel_rfl) ?_
        refine Run.condEF rfl (by simp) ?_
        refine Run.skip ?_
        refine Run.blk ?_
        refine Run.region ?_
        refine Ops.pure rfl (Pure.move rfl) ?_
        refine Ops.pure rfl (Pure.add rfl rfl (by omega) (by omega)) ?_
        refine Ops.pure rfl (Pure.assign rfl) ?_
        refine Ops.nil ?_
        refine Run.asrt ?_
        exact ⟨k + 1, ⟨by omega, by omega⟩, ⟨rfl, rfl, rfl, rfl, trivial⟩, Ext.refl _⟩
      · skip
        replace c121 := dF c121
        refine Run.exit rfl ?_
        refine Run.seq ?_
        refine Run.region ?_
        refine Ops.pure rfl (Pure.assign rfl) ?_
        refine Ops.nil ?_
        refine Run.ret1 rfl rfl ?_
        rfl

end Go.Proofs.Ytkplanpcmkbfiaa
