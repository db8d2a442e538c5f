/- Contracts of functions, printed by program from annotations. -/
import Derived.Test.YtmfinopdokkjcaaAwv
import Derived.Test.YtmfinopdokkjcaaMpM
namespace Go.Proofs.Ytmfinopdokkjcaa
open Go Go.AW Go.RowKit
set_option linter.unusedVariables false
set_option linter.unusedSimpArgs false

set_option maxRecDepth 4000 in
/-- (impl.Panel).mapPoint -/
theorem f_i_Panel_mapPoint (w : World) (a : Int) (b : Int) (v : Value) (x : Int) (y : Int) (s : Nat) (hs : SizeOk a b) (hpt : PtOk a b x y) (h8 : s < 8) : RetV Try.prog 218 [.agg #[.int .i64 a, .int .i64 b, v], .agg #[.int .i64 x, .int .i64 y], .int .i64 s] w (.agg #[.int .i64 (mpX s a b x y), .int .i64 (mpY s a b x y)]) := by
  obtain ⟨hs1, hs2, hs3, hs4⟩ := id hs
  have hpb : 0 ≤ x ∧ x ≤ 16 ∧ 0 ≤ y ∧ y ≤ 16 := by unfold PtOk at hpt; omega
  refine Ret.enter Try.func218 rfl Try.ntmps218 rfl ?_
  refine Run.seq ?_
  refine Run.region ?_
  refine Ops.go rfl (Loud.box rfl rfl) ?_
  rintro _ _ ⟨b3, rfl, rfl⟩
  refine Ops.go rfl (Loud.box rfl rfl) ?_
  rintro _ _ ⟨b4, rfl, rfl⟩
  refine Ops.go rfl (Loud.alloc zero72 rfl) ?_
  rintro _ _ ⟨b6, rfl, rfl⟩
  refine Ops.nil ?_
  refine Run.seq ?_
  refine AnyK.start ([.box b3 35 [.int .i64 a, .int .i64 b, v]]) follows (by first | exact Ext.take 2 rfl (Ext.nil _) | exact Ext.take 1 rfl (Ext.nil _)) ?_
  refine AnyK.take 0 rfl (by kernel_rfl) rfl (QOp.pure (Pure.fieldAddrB fld35_0 rfl)) ?_
  refine AnyK.take 1 rfl (by kernel_rfl) rfl (QOp.pure (Pure.ldB 0 rfl cell2 rfl rfl)) ?_
  refine AnyK.take 2 rfl (by kernel_rfl) rfl (QOp.pure (Pure.fieldAddrB fld35_1 rfl)) ?_
  refine AnyK.take 3 rfl (by kernel_rfl) rfl (QOp.pure (Pure.ldB 0 rfl cell2 rfl rfl)) ?_
  refine AnyK.take 4 rfl (by kernel_rfl) rfl (QOp.pure (Pure.assign rfl)) ?_
  refine AnyK.take 5 rfl (by kernel_rfl) rfl (QOp.pure (Pure.assign rfl)) ?_
  refine AnyK.done (by kernel_rfl) ?_
  refine Run.seq ?_
  refine Run.seq ?_
  refine Run.region ?_
  refine Ops.pure rfl (Pure.move rfl) ?_
  refine Ops.pure rfl (Pure.geq rfl rfl) ?_
  refine Ops.nil ?_
  refine Run.cond rfl (fun c14 => ?_) (fun c14 => ?_)
  · skip
    replace c14 := dT c14
    refine Run.region ?_
    refine Ops.pure rfl (Pure.fieldAddrB fld72_1 rfl) ?_
    refine Ops.pure rfl (Pure.ldB 1 rfl cell2 rfl rfl) ?_
    refine Ops.pure rfl (Pure.fieldAddrB fld72_0 rfl) ?_
    refine Ops.pure rfl (Pure.ldB 1 rfl cell2 rfl rfl) ?_
    refine Ops.pure rfl (Pure.move rfl) ?_
    refine Ops.pure rfl (Pure.move rfl) ?_
    refine Ops.pure rfl (Pure.fieldAddrB fld72_0 rfl) ?_
    refine Ops.store (Stores.box 1 rfl rfl rfl size2 (allOne rfl) rfl rfl) ?_
    refine Ops.pure rfl (Pure.fieldAddrB fld72_1 rfl) ?_
    refine Ops.store (Stores.box 1 rfl rfl rfl size2 (allOne rfl) rfl rfl) ?_
    refine Ops.pure rfl (Pure.assign rfl) ?_
    refine Ops.pure rfl (Pure.assign rfl) ?_
    refine Ops.nil ?_
    refine Run.seq ?_
    refine Run.seq ?_
    refine Run.region ?_
    refine Ops.pure rfl (Pure.move rfl) ?_
    refine Ops.pure rfl (Pure.bit1 rfl rfl h8) ?_
    refine Ops.pure rfl (Pure.eql rfl rfl) ?_
    refine Ops.nil ?_
    refine Run.cond rfl (fun c25 => ?_) (fun c25 => ?_)
    · skip
      replace c25 := dT c25
      refine Run.region ?_
      refine Ops.pure rfl (Pure.move rfl) ?_
      refine Ops.pure rfl (Pure.mul rfl rfl (by omega) (by omega)) ?_
      refine Ops.pure rfl (Pure.fieldAddrB fld72_0 rfl) ?_
      refine Ops.pure rfl (Pure.ldB 1 rfl cell2 rfl rfl) ?_
      refine Ops.pure rfl (Pure.sub rfl rfl (by omega) (by omega)) ?_
      refine Ops.pure rfl (Pure.fieldAddrB fld72_0 rfl) ?_
      refine Ops.store (Stores.box 1 rfl rfl rfl size2 (allOne rfl) rfl rfl) ?_
      refine Ops.nil ?_
      refine Run.seq ?_
      refine Run.seq ?_
      refine Run.region ?_
      refine Ops.pure rfl (Pure.move rfl) ?_
      refine Ops.pure rfl (Pure.shr1 rfl rfl) ?_
      refine Ops.pure rfl (Pure.bit1 rfl rfl (by omega)) ?_
      refine Ops.pure rfl (Pure.eql rfl rfl) ?_
      refine Ops.nil ?_
      refine Run.cond rfl (fun c35 => ?_) (fun c35 => ?_)
      · skip
        replace c35 := dT c35
        refine Run.region ?_
        refine Ops.pure rfl (Pure.move rfl) ?_
        refine Ops.pure rfl (Pure.mul rfl rfl (by omega) (by omega)) ?_
        refine Ops.pure rfl (Pure.fieldAddrB fld72_1 rfl) ?_
        refine Ops.pure rfl (Pure.ldB 1 rfl cell2 rfl rfl) ?_
        refine Ops.pure rfl (Pure.sub rfl rfl (by omega) (by omega)) ?_
        refine Ops.pure rfl (Pure.fieldAddrB fld72_1 rfl) ?_
        refine Ops.store (Stores.box 1 rfl rfl rfl size2 (allOne rfl) rfl rfl) ?_
        refine Ops.nil ?_
        refine Run.seq ?_
        refine Run.region ?_
        refine Ops.pure rfl (Pure.ldBA 1 rfl cell72 rfl rfl rfl) ?_
        refine Ops.store (Stores.box 0 rfl rfl rfl size72 (allOne rfl) rfl rfl) ?_
        refine Ops.nil ?_
        refine Run.retC 0 rfl rfl rfl cell72 rfl ?_
        unfold mpX mpY mpA mpB
        first
          | rfl
          | (split <;> split <;> split <;> first | rfl | (exfalso; omega))
          | (repeat (first | rw [if_pos (by omega)] | rw [if_neg (by omega)]))
      · skip
        replace c35 := dF c35
        refine Run.skip ?_
        refine Run.seq ?_
        refine Run.region ?_
        refine Ops.pure rfl (Pure.ldBA 1 rfl cell72 rfl rfl rfl) ?_
        refine Ops.store (Stores.box 0 rfl rfl rfl size72 (allOne rfl) rfl rfl) ?_
        refine Ops.nil ?_
        refine Run.retC 0 rfl rfl rfl cell72 rfl ?_
        unfold mpX mpY mpA mpB
        first
          | rfl
          | (split <;> split <;> split <;> first | rfl | (exfalso; omega))
          | (repeat (first | rw [if_pos (by omega)] | rw [if_neg (by omega)]))
    · skip
      replace c25 := dF c25
      refine Run.skip ?_
      refine Run.seq ?_
      refine Run.seq ?_
      refine Run.region ?_
      refine Ops.pure rfl (Pure.move rfl) ?_
      refine Ops.pure rfl (Pure.shr1 rfl rfl) ?_
      refine Ops.pure rfl (Pure.bit1 rfl rfl (by omega)) ?_
      refine Ops.pure rfl (Pure.eql rfl rfl) ?_
      refine Ops.nil ?_
      refine Run.cond rfl (fun c35 => ?_) (fun c35 => ?_)
      · skip
        replace c35 := dT c35
        refine Run.region ?_
        refine Ops.pure rfl (Pure.move rfl) ?_
        refine Ops.pure rfl (Pure.mul rfl rfl (by omega) (by omega)) ?_
        refine Ops.pure rfl (Pure.fieldAddrB fld72_1 rfl) ?_
        refine Ops.pure rfl (Pure.ldB 1 rfl cell2 rfl rfl) ?_
        refine Ops.pure rfl (Pure.sub rfl rfl (by omega) (by omega)) ?_
        refine Ops.pure rfl (Pure.fieldAddrB fld72_1 rfl) ?_
        refine Ops.store (Stores.box 1 rfl rfl rfl size2 (allOne rfl) rfl rfl) ?_
        refine Ops.nil ?_
        refine Run.seq ?_
        refine Run.region ?_
        refine Ops.pure rfl (Pure.ldBA 1 rfl cell72 rfl rfl rfl) ?_
        refine Ops.store (Stores.box 0 rfl rfl rfl size72 (allOne rfl) rfl rfl) ?_
        refine Ops.nil ?_
        refine Run.retC 0 rfl rfl rfl cell72 rfl ?_
        unfold mpX mpY mpA mpB
        first
          | rfl
          | (split <;> split <;> split <;> first | rfl | (exfalso; omega))
          | (repeat (first | rw [if_pos (by omega)] | rw [if_neg (by omega)]))
      · skip
        replace c35 := dF c35
        refine Run.skip ?_
        refine Run.seq ?_
        refine Run.region ?_
        refine Ops.pure rfl (Pure.ldBA 1 rfl cell72 rfl rfl rfl) ?_
        refine Ops.store (Stores.box 0 rfl rfl rfl size72 (allOne rfl) rfl rfl) ?_
        refine Ops.nil ?_
        refine Run.retC 0 rfl rfl rfl cell72 rfl ?_
        unfold mpX mpY mpA mpB
        first
          | rfl
          | (split <;> split <;> split <;> first | rfl | (exfalso; omega))
          | (repeat (first | rw [if_pos (by omega)] | rw [if_neg (by omega)]))
  · skip
    replace c14 := dF c14
    refine Run.skip ?_
    refine Run.seq ?_
    refine Run.seq ?_
    refine Run.region ?_
    refine Ops.pure rfl (Pure.move rfl) ?_
    refine Ops.pure rfl (Pure.bit1 rfl rfl h8) ?_
    refine Ops.pure rfl (Pure.eql rfl rfl) ?_
    refine Ops.nil ?_
    refine Run.cond rfl (fun c25 => ?_) (fun c25 => ?_)
    · skip
      replace c25 := dT c25
      refine Run.region ?_
      refine Ops.pure rfl (Pure.move rfl) ?_
      refine Ops.pure rfl (Pure.mul rfl rfl (by omega) (by omega)) ?_
      refine Ops.pure rfl (Pure.fieldAddrB fld72_0 rfl) ?_
      refine Ops.pure rfl (Pure.ldB 1 rfl cell2 rfl rfl) ?_
      refine Ops.pure rfl (Pure.sub rfl rfl (by omega) (by omega)) ?_
      refine Ops.pure rfl (Pure.fieldAddrB fld72_0 rfl) ?_
      refine Ops.store (Stores.box 1 rfl rfl rfl size2 (allOne rfl) rfl rfl) ?_
      refine Ops.nil ?_
      refine Run.seq ?_
      refine Run.seq ?_
      refine Run.region ?_
      refine Ops.pure rfl (Pure.move rfl) ?_
      refine Ops.pure rfl (Pure.shr1 rfl rfl) ?_
      refine Ops.pure rfl (Pure.bit1 rfl rfl (by omega)) ?_
      refine Ops.pure rfl (Pure.eql rfl rfl) ?_
      refine Ops.nil ?_
      refine Run.cond rfl (fun c35 => ?_) (fun c35 => ?_)
      · skip
        replace c35 := dT c35
        refine Run.region ?_
        refine Ops.pure rfl (Pure.move rfl) ?_
        refine Ops.pure rfl (Pure.mul rfl rfl (by omega) (by omega)) ?_
        refine Ops.pure rfl (Pure.fieldAddrB fld72_1 rfl) ?_
        refine Ops.pure rfl (Pure.ldB 1 rfl cell2 rfl rfl) ?_
        refine Ops.pure rfl (Pure.sub rfl rfl (by omega) (by omega)) ?_
        refine Ops.pure rfl (Pure.fieldAddrB fld72_1 rfl) ?_
        refine Ops.store (Stores.box 1 rfl rfl rfl size2 (allOne rfl) rfl rfl) ?_
        refine Ops.nil ?_
        refine Run.seq ?_
        refine Run.region ?_
        refine Ops.pure rfl (Pure.ldBA 1 rfl cell72 rfl rfl rfl) ?_
        refine Ops.store (Stores.box 0 rfl rfl rfl size72 (allOne rfl) rfl rfl) ?_
        refine Ops.nil ?_
        refine Run.retC 0 rfl rfl rfl cell72 rfl ?_
        unfold mpX mpY mpA mpB
        first
          | rfl
          | (split <;> split <;> split <;> first | rfl | (exfalso; omega))
          | (repeat (first | rw [if_pos (by omega)] | rw [if_neg (by omega)]))
      · skip
        replace c35 := dF c35
        refine Run.skip ?_
        refine Run.seq ?_
        refine Run.region ?_
        refine Ops.pure rfl (Pure.ldBA 1 rfl cell72 rfl rfl rfl) ?_
        refine Ops.store (Stores.box 0 rfl rfl rfl size72 (allOne rfl) rfl rfl) ?_
        refine Ops.nil ?_
        refine Run.retC 0 rfl rfl rfl cell72 rfl ?_
        unfold mpX mpY mpA mpB
        first
          | rfl
          | (split <;> split <;> split <;> first | rfl | (exfalso; omega))
          | (repeat (first | rw [if_pos (by omega)] | rw [if_neg (by omega)]))
    · skip
      replace c25 := dF c25
      refine Run.skip ?_
      refine Run.seq ?_
      refine Run.seq ?_
      refine Run.region ?_
      refine Ops.pure rfl (Pure.move rfl) ?_
      refine Ops.pure rfl (Pure.shr1 rfl rfl) ?_
      refine Ops.pure rfl (Pure.bit1 rfl rfl (by omega)) ?_
      refine Ops.pure rfl (Pure.eql rfl rfl) ?_
      refine Ops.nil ?_
      refine Run.cond rfl (fun c35 => ?_) (fun c35 => ?_)
      · skip
        replace c35 := dT c35
        refine Run.region ?_
        refine Ops.pure rfl (Pure.move rfl) ?_
        refine Ops.pure rfl (Pure.mul rfl rfl (by omega) (by omega)) ?_
        refine Ops.pure rfl (Pure.fieldAddrB fld72_1 rfl) ?_
        refine Ops.pure rfl (Pure.ldB 1 rfl cell2 rfl rfl) ?_
        refine Ops.pure rfl (Pure.sub rfl rfl (by omega) (by omega)) ?_
        refine Ops.pure rfl (Pure.fieldAddrB fld72_1 rfl) ?_
        refine Ops.store (Stores.box 1 rfl rfl rfl size2 (allOne rfl) rfl rfl) ?_
        refine Ops.nil ?_
        refine Run.seq ?_
        refine Run.region ?_
        refine Ops.pure rfl (Pure.ldBA 1 rfl cell72 rfl rfl rfl) ?_
        refine Ops.store (Stores.box 0 rfl rfl rfl size72 (allOne rfl) rfl rfl) ?_
        refine Ops.nil ?_
        refine Run.retC 0 rfl rfl rfl cell72 rfl ?_
        unfold mpX mpY mpA mpB
        first
          | rfl
          | (split <;> split <;> split <;> first | rfl | (exfalso; omega))
          | (repeat (first | rw [if_pos (by omega)] | rw [if_neg (by omega)]))
      · skip
        replace c35 := dF c35
        refine Run.skip ?_
        refine Run.seq ?_
        refine Run.region ?_
        refine Ops.pure rfl (Pure.ldBA 1 rfl cell72 rfl rfl rfl) ?_
        refine Ops.store (Stores.box 0 rfl rfl rfl size72 (allOne rfl) rfl rfl) ?_
        refine Ops.nil ?_
        refine Run.retC 0 rfl rfl rfl cell72 rfl ?_
        unfold mpX mpY mpA mpB
        first
          | rfl
          | (split <;> split <;> split <;> first | rfl | (exfalso; omega))
          | (repeat (first | rw [if_pos (by omega)] | rw [if_neg (by omega)]))

set_option maxRecDepth 4000 in
/-- impl.mapBreak -/
theorem f_i_mapBreak (w : World) (k : Int) (s : Nat) (h8 : s < 8) (k0 : 0 ≤ k) (k1 : k ≤ 2) : RetV Try.prog 217 [.int .i64 k, .int .i64 s] w (.int .i64 (mk s k)) := by
  refine Ret.enter Try.func217 rfl Try.ntmps217 rfl ?_
  refine Run.seq ?_
  refine Run.region ?_
  refine Ops.pure rfl (Pure.assign rfl) ?_
  refine Ops.nil ?_
  refine Run.seq ?_
  refine Run.seq ?_
  refine Run.region ?_
  refine Ops.pure rfl (Pure.move rfl) ?_
  refine Ops.pure rfl (Pure.geq rfl rfl) ?_
  refine Ops.pure rfl (Pure.move rfl) ?_
  refine Ops.guard rfl rfl rfl rfl (fun c7 => ?_) (fun c7 => ?_)
  · skip
    have c7' := dT c7
    refine Ops.pure rfl (Pure.move rfl) ?_
    refine Ops.guardY rfl rfl rfl c7 ?_
    refine Ops.pure rfl (Pure.neq rfl rfl) ?_
    refine Ops.pure rfl (Pure.pickT rfl c7 rfl) ?_
    refine Ops.nil ?_
    refine Run.cond rfl (fun c10 => ?_) (fun c10 => ?_)
    · skip
      replace c10 := nT c10
      refine Run.seq ?_
      refine Run.region ?_
      refine Ops.pure rfl (Pure.move rfl) ?_
      refine Ops.pure rfl (Pure.sub rfl rfl (by omega) (by omega)) ?_
      refine Ops.pure rfl (Pure.assign rfl) ?_
      refine Ops.nil ?_
      refine Run.ret1 rfl rfl ?_
      unfold mk
      first
        | rfl
        | (split <;> first | rfl | (exfalso; simp_all; done) | (exfalso; omega))
    · skip
      replace c10 := nF c10
      refine Run.skip ?_
      refine Run.seq ?_
      refine Run.region ?_
      refine Ops.pure rfl (Pure.move rfl) ?_
      refine Ops.pure rfl (Pure.assign rfl) ?_
      refine Ops.nil ?_
      refine Run.ret1 rfl rfl ?_
      unfold mk
      first
        | rfl
        | (split <;> first | rfl | (exfalso; simp_all; done) | (exfalso; omega))
  · skip
    replace c7 := Bool.eq_false_of_ne c7
    have c7' := dF c7
    refine Ops.guardN rfl rfl rfl rfl (by rw [c7]; decide) ?_
    refine Ops.pure rfl (Pure.pickF rfl c7 rfl) ?_
    refine Ops.nil ?_
    refine Run.condEF rfl rfl ?_
    refine Run.skip ?_
    refine Run.seq ?_
    refine Run.region ?_
    refine Ops.pure rfl (Pure.move rfl) ?_
    refine Ops.pure rfl (Pure.assign rfl) ?_
    refine Ops.nil ?_
    refine Run.ret1 rfl rfl ?_
    unfold mk
    first
      | rfl
      | (split <;> first | rfl | (exfalso; simp_all; done) | (exfalso; omega))

set_option maxRecDepth 4000 in
/-- spec.l06Kind -/
theorem f_s_l06Kind (w : World) (k : Int) (s : Nat) (h8 : s < 8) (k0 : 0 ≤ k) (k1 : k ≤ 2) : RetV Try.prog 186 [.int .i64 k, .int .i64 s] w (.int .i64 (mk s k)) := by
  refine Ret.enter Try.func186 rfl Try.ntmps186 rfl ?_
  refine Run.seq ?_
  refine Run.region ?_
  refine Ops.pure rfl (Pure.assign rfl) ?_
  refine Ops.nil ?_
  refine Run.seq ?_
  refine Run.seq ?_
  refine Run.region ?_
  refine Ops.pure rfl (Pure.move rfl) ?_
  refine Ops.pure rfl (Pure.bit4 rfl rfl h8) ?_
  refine Ops.pure rfl (Pure.neq rfl rfl) ?_
  refine Ops.pure rfl (Pure.move rfl) ?_
  refine Ops.guard rfl rfl rfl rfl (fun c8 => ?_) (fun c8 => ?_)
  · skip
    have c8' := nT c8
    refine Ops.pure rfl (Pure.move rfl) ?_
    refine Ops.guardY rfl rfl rfl c8 ?_
    refine Ops.pure rfl (Pure.neq rfl rfl) ?_
    refine Ops.pure rfl (Pure.pickT rfl c8 rfl) ?_
    refine Ops.nil ?_
    refine Run.cond rfl (fun c11 => ?_) (fun c11 => ?_)
    · skip
      replace c11 := nT c11
      refine Run.seq ?_
      refine Run.region ?_
      refine Ops.pure rfl (Pure.move rfl) ?_
      refine Ops.pure rfl (Pure.sub rfl rfl (by omega) (by omega)) ?_
      refine Ops.pure rfl (Pure.assign rfl) ?_
      refine Ops.nil ?_
      refine Run.ret1 rfl rfl ?_
      unfold mk
      first
        | rfl
        | (split <;> first | rfl | (exfalso; omega) | (exfalso; simp_all; omega))
    · skip
      replace c11 := nF c11
      refine Run.skip ?_
      refine Run.seq ?_
      refine Run.region ?_
      refine Ops.pure rfl (Pure.move rfl) ?_
      refine Ops.pure rfl (Pure.assign rfl) ?_
      refine Ops.nil ?_
      refine Run.ret1 rfl rfl ?_
      unfold mk
      first
        | rfl
        | (split <;> first | rfl | (exfalso; omega) | (exfalso; simp_all; omega))
  · skip
    replace c8 := Bool.eq_false_of_ne c8
    have c8' := nF c8
    refine Ops.guardN rfl rfl rfl rfl (by rw [c8]; decide) ?_
    refine Ops.pure rfl (Pure.pickF rfl c8 rfl) ?_
    refine Ops.nil ?_
    refine Run.condEF rfl rfl ?_
    refine Run.skip ?_
    refine Run.seq ?_
    refine Run.region ?_
    refine Ops.pure rfl (Pure.move rfl) ?_
    refine Ops.pure rfl (Pure.assign rfl) ?_
    refine Ops.nil ?_
    refine Run.ret1 rfl rfl ?_
    unfold mk
    first
      | rfl
      | (split <;> first | rfl | (exfalso; omega) | (exfalso; simp_all; omega))

set_option maxRecDepth 4000 in
/-- spec.l06Point -/
theorem f_s_l06Point (w : World) (a : Int) (b : Int) (x : Int) (y : Int) (s : Nat) (hs : SizeOk a b) (hpt : PtOk a b x y) (h8 : s < 8) : RetV Try.prog 184 [.int .i64 a, .int .i64 b, .agg #[.int .i64 x, .int .i64 y], .int .i64 s] w (.agg #[.int .i64 (mpX s a b x y), .int .i64 (mpY s a b x y)]) := by
  obtain ⟨hs1, hs2, hs3, hs4⟩ := id hs
  have hpb : 0 ≤ x ∧ x ≤ 16 ∧ 0 ≤ y ∧ y ≤ 16 := by unfold PtOk at hpt; omega
  refine Ret.enter Try.func184 rfl Try.ntmps184 rfl ?_
  refine Run.seq ?_
  refine Run.region ?_
  refine Ops.go rfl (Loud.box rfl rfl) ?_
  rintro _ _ ⟨b6, rfl, rfl⟩
  refine Ops.go rfl (Loud.alloc zero72 rfl) ?_
  rintro _ _ ⟨b8, rfl, rfl⟩
  refine Ops.nil ?_
  refine Run.seq ?_
  refine Run.region ?_
  refine Ops.pure rfl (Pure.ldBA 1 rfl cell72 rfl rfl rfl) ?_
  refine Ops.go rfl (Loud.alloc zero72 rfl) ?_
  rintro _ _ ⟨b9, rfl, rfl⟩
  refine Ops.store (Stores.box 0 rfl rfl rfl size72 (allOne rfl) rfl rfl) ?_
  refine Ops.nil ?_
  refine Run.seq ?_
  refine Run.seq ?_
  refine Run.region ?_
  refine Ops.pure rfl (Pure.move rfl) ?_
  refine Ops.pure rfl (Pure.bit4 rfl rfl h8) ?_
  refine Ops.pure rfl (Pure.neq rfl rfl) ?_
  refine Ops.nil ?_
  refine Run.cond rfl (fun c13 => ?_) (fun c13 => ?_)
  · skip
    replace c13 := nT c13
    refine Run.seq ?_
    refine Run.region ?_
    refine Ops.pure rfl (Pure.fieldAddrB fld72_1 rfl) ?_
    refine Ops.pure rfl (Pure.ldB 2 rfl cell2 rfl rfl) ?_
    refine Ops.pure rfl (Pure.fieldAddrB fld72_0 rfl) ?_
    refine Ops.pure rfl (Pure.ldB 2 rfl cell2 rfl rfl) ?_
    refine Ops.pure rfl (Pure.build rfl (bld72_2 _ _ (by first | rfl | assumption) (by first | rfl | assumption))) ?_
    refine Ops.store (Stores.box 0 rfl rfl rfl size72 (allOne rfl) rfl rfl) ?_
    refine Ops.nil ?_
    refine Run.region ?_
    refine Ops.pure rfl (Pure.move rfl) ?_
    refine Ops.pure rfl (Pure.move rfl) ?_
    refine Ops.pure rfl (Pure.assign rfl) ?_
    refine Ops.pure rfl (Pure.assign rfl) ?_
    refine Ops.nil ?_
    refine Run.seq ?_
    refine Run.seq ?_
    refine Run.region ?_
    refine Ops.pure rfl (Pure.move rfl) ?_
    refine Ops.pure rfl (Pure.bit1 rfl rfl h8) ?_
    refine Ops.pure rfl (Pure.neq rfl rfl) ?_
    refine Ops.nil ?_
    refine Run.cond rfl (fun c23 => ?_) (fun c23 => ?_)
    · skip
      replace c23 := nT c23
      refine Run.region ?_
      refine Ops.pure rfl (Pure.move rfl) ?_
      refine Ops.pure rfl (Pure.mul rfl rfl (by omega) (by omega)) ?_
      refine Ops.pure rfl (Pure.fieldAddrB fld72_0 rfl) ?_
      refine Ops.pure rfl (Pure.ldB 0 rfl cell2 rfl rfl) ?_
      refine Ops.pure rfl (Pure.sub rfl rfl (by omega) (by omega)) ?_
      refine Ops.pure rfl (Pure.fieldAddrB fld72_0 rfl) ?_
      refine Ops.store (Stores.box 0 rfl rfl rfl size2 (allOne rfl) rfl rfl) ?_
      refine Ops.nil ?_
      refine Run.seq ?_
      refine Run.seq ?_
      refine Run.region ?_
      refine Ops.pure rfl (Pure.move rfl) ?_
      refine Ops.pure rfl (Pure.bit2 rfl rfl h8) ?_
      refine Ops.pure rfl (Pure.neq rfl rfl) ?_
      refine Ops.nil ?_
      refine Run.cond rfl (fun c32 => ?_) (fun c32 => ?_)
      · skip
        replace c32 := nT c32
        refine Run.region ?_
        refine Ops.pure rfl (Pure.move rfl) ?_
        refine Ops.pure rfl (Pure.mul rfl rfl (by omega) (by omega)) ?_
        refine Ops.pure rfl (Pure.fieldAddrB fld72_1 rfl) ?_
        refine Ops.pure rfl (Pure.ldB 0 rfl cell2 rfl rfl) ?_
        refine Ops.pure rfl (Pure.sub rfl rfl (by omega) (by omega)) ?_
        refine Ops.pure rfl (Pure.fieldAddrB fld72_1 rfl) ?_
        refine Ops.store (Stores.box 0 rfl rfl rfl size2 (allOne rfl) rfl rfl) ?_
        refine Ops.nil ?_
        refine Run.seq ?_
        refine Run.region ?_
        refine Ops.pure rfl (Pure.ldBA 0 rfl cell72 rfl rfl rfl) ?_
        refine Ops.store (Stores.box 1 rfl rfl rfl size72 (allOne rfl) rfl rfl) ?_
        refine Ops.nil ?_
        refine Run.retC 1 rfl rfl rfl cell72 rfl ?_
        unfold mpX mpY mpA mpB
        first
          | rfl
          | (split <;> split <;> split <;> first | rfl | (exfalso; omega))
          | (repeat (first | rw [if_pos (by omega)] | rw [if_neg (by omega)]))
      · skip
        replace c32 := nF c32
        refine Run.skip ?_
        refine Run.seq ?_
        refine Run.region ?_
        refine Ops.pure rfl (Pure.ldBA 0 rfl cell72 rfl rfl rfl) ?_
        refine Ops.store (Stores.box 1 rfl rfl rfl size72 (allOne rfl) rfl rfl) ?_
        refine Ops.nil ?_
        refine Run.retC 1 rfl rfl rfl cell72 rfl ?_
        unfold mpX mpY mpA mpB
        first
          | rfl
          | (split <;> split <;> split <;> first | rfl | (exfalso; omega))
          | (repeat (first | rw [if_pos (by omega)] | rw [if_neg (by omega)]))
    · skip
      replace c23 := nF c23
      refine Run.skip ?_
      refine Run.seq ?_
      refine Run.seq ?_
      refine Run.region ?_
      refine Ops.pure rfl (Pure.move rfl) ?_
      refine Ops.pure rfl (Pure.bit2 rfl rfl h8) ?_
      refine Ops.pure rfl (Pure.neq rfl rfl) ?_
      refine Ops.nil ?_
      refine Run.cond rfl (fun c32 => ?_) (fun c32 => ?_)
      · skip
        replace c32 := nT c32
        refine Run.region ?_
        refine Ops.pure rfl (Pure.move rfl) ?_
        refine Ops.pure rfl (Pure.mul rfl rfl (by omega) (by omega)) ?_
        refine Ops.pure rfl (Pure.fieldAddrB fld72_1 rfl) ?_
        refine Ops.pure rfl (Pure.ldB 0 rfl cell2 rfl rfl) ?_
        refine Ops.pure rfl (Pure.sub rfl rfl (by omega) (by omega)) ?_
        refine Ops.pure rfl (Pure.fieldAddrB fld72_1 rfl) ?_
        refine Ops.store (Stores.box 0 rfl rfl rfl size2 (allOne rfl) rfl rfl) ?_
        refine Ops.nil ?_
        refine Run.seq ?_
        refine Run.region ?_
        refine Ops.pure rfl (Pure.ldBA 0 rfl cell72 rfl rfl rfl) ?_
        refine Ops.store (Stores.box 1 rfl rfl rfl size72 (allOne rfl) rfl rfl) ?_
        refine Ops.nil ?_
        refine Run.retC 1 rfl rfl rfl cell72 rfl ?_
        unfold mpX mpY mpA mpB
        first
          | rfl
          | (split <;> split <;> split <;> first | rfl | (exfalso; omega))
          | (repeat (first | rw [if_pos (by omega)] | rw [if_neg (by omega)]))
      · skip
        replace c32 := nF c32
        refine Run.skip ?_
        refine Run.seq ?_
        refine Run.region ?_
        refine Ops.pure rfl (Pure.ldBA 0 rfl cell72 rfl rfl rfl) ?_
        refine Ops.store (Stores.box 1 rfl rfl rfl size72 (allOne rfl) rfl rfl) ?_
        refine Ops.nil ?_
        refine Run.retC 1 rfl rfl rfl cell72 rfl ?_
        unfold mpX mpY mpA mpB
        first
          | rfl
          | (split <;> split <;> split <;> first | rfl | (exfalso; omega))
          | (repeat (first | rw [if_pos (by omega)] | rw [if_neg (by omega)]))
  · skip
    replace c13 := nF c13
    refine Run.skip ?_
    refine Run.seq ?_
    refine Run.seq ?_
    refine Run.region ?_
    refine Ops.pure rfl (Pure.move rfl) ?_
    refine Ops.pure rfl (Pure.bit1 rfl rfl h8) ?_
    refine Ops.pure rfl (Pure.neq rfl rfl) ?_
    refine Ops.nil ?_
    refine Run.cond rfl (fun c23 => ?_) (fun c23 => ?_)
    · skip
      replace c23 := nT c23
      refine Run.region ?_
      refine Ops.pure rfl (Pure.move rfl) ?_
      refine Ops.pure rfl (Pure.mul rfl rfl (by omega) (by omega)) ?_
      refine Ops.pure rfl (Pure.fieldAddrB fld72_0 rfl) ?_
      refine Ops.pure rfl (Pure.ldB 0 rfl cell2 rfl rfl) ?_
      refine Ops.pure rfl (Pure.sub rfl rfl (by omega) (by omega)) ?_
      refine Ops.pure rfl (Pure.fieldAddrB fld72_0 rfl) ?_
      refine Ops.store (Stores.box 0 rfl rfl rfl size2 (allOne rfl) rfl rfl) ?_
      refine Ops.nil ?_
      refine Run.seq ?_
      refine Run.seq ?_
      refine Run.region ?_
      refine Ops.pure rfl (Pure.move rfl) ?_
      refine Ops.pure rfl (Pure.bit2 rfl rfl h8) ?_
      refine Ops.pure rfl (Pure.neq rfl rfl) ?_
      refine Ops.nil ?_
      refine Run.cond rfl (fun c32 => ?_) (fun c32 => ?_)
      · skip
        replace c32 := nT c32
        refine Run.region ?_
        refine Ops.pure rfl (Pure.move rfl) ?_
        refine Ops.pure rfl (Pure.mul rfl rfl (by omega) (by omega)) ?_
        refine Ops.pure rfl (Pure.fieldAddrB fld72_1 rfl) ?_
        refine Ops.pure rfl (Pure.ldB 0 rfl cell2 rfl rfl) ?_
        refine Ops.pure rfl (Pure.sub rfl rfl (by omega) (by omega)) ?_
        refine Ops.pure rfl (Pure.fieldAddrB fld72_1 rfl) ?_
        refine Ops.store (Stores.box 0 rfl rfl rfl size2 (allOne rfl) rfl rfl) ?_
        refine Ops.nil ?_
        refine Run.seq ?_
        refine Run.region ?_
        refine Ops.pure rfl (Pure.ldBA 0 rfl cell72 rfl rfl rfl) ?_
        refine Ops.store (Stores.box 1 rfl rfl rfl size72 (allOne rfl) rfl rfl) ?_
        refine Ops.nil ?_
        refine Run.retC 1 rfl rfl rfl cell72 rfl ?_
        unfold mpX mpY mpA mpB
        first
          | rfl
          | (split <;> split <;> split <;> first | rfl | (exfalso; omega))
          | (repeat (first | rw [if_pos (by omega)] | rw [if_neg (by omega)]))
      · skip
        replace c32 := nF c32
        refine Run.skip ?_
        refine Run.seq ?_
        refine Run.region ?_
        refine Ops.pure rfl (Pure.ldBA 0 rfl cell72 rfl rfl rfl) ?_
        refine Ops.store (Stores.box 1 rfl rfl rfl size72 (allOne rfl) rfl rfl) ?_
        refine Ops.nil ?_
        refine Run.retC 1 rfl rfl rfl cell72 rfl ?_
        unfold mpX mpY mpA mpB
        first
          | rfl
          | (split <;> split <;> split <;> first | rfl | (exfalso; omega))
          | (repeat (first | rw [if_pos (by omega)] | rw [if_neg (by omega)]))
    · skip
      replace c23 := nF c23
      refine Run.skip ?_
      refine Run.seq ?_
      refine Run.seq ?_
      refine Run.region ?_
      refine Ops.pure rfl (Pure.move rfl) ?_
      refine Ops.pure rfl (Pure.bit2 rfl rfl h8) ?_
      refine Ops.pure rfl (Pure.neq rfl rfl) ?_
      refine Ops.nil ?_
      refine Run.cond rfl (fun c32 => ?_) (fun c32 => ?_)
      · skip
        replace c32 := nT c32
        refine Run.region ?_
        refine Ops.pure rfl (Pure.move rfl) ?_
        refine Ops.pure rfl (Pure.mul rfl rfl (by omega) (by omega)) ?_
        refine Ops.pure rfl (Pure.fieldAddrB fld72_1 rfl) ?_
        refine Ops.pure rfl (Pure.ldB 0 rfl cell2 rfl rfl) ?_
        refine Ops.pure rfl (Pure.sub rfl rfl (by omega) (by omega)) ?_
        refine Ops.pure rfl (Pure.fieldAddrB fld72_1 rfl) ?_
        refine Ops.store (Stores.box 0 rfl rfl rfl size2 (allOne rfl) rfl rfl) ?_
        refine Ops.nil ?_
        refine Run.seq ?_
        refine Run.region ?_
        refine Ops.pure rfl (Pure.ldBA 0 rfl cell72 rfl rfl rfl) ?_
        refine Ops.store (Stores.box 1 rfl rfl rfl size72 (allOne rfl) rfl rfl) ?_
        refine Ops.nil ?_
        refine Run.retC 1 rfl rfl rfl cell72 rfl ?_
        unfold mpX mpY mpA mpB
        first
          | rfl
          | (split <;> split <;> split <;> first | rfl | (exfalso; omega))
          | (repeat (first | rw [if_pos (by omega)] | rw [if_neg (by omega)]))
      · skip
        replace c32 := nF c32
        refine Run.skip ?_
        refine Run.seq ?_
        refine Run.region ?_
        refine Ops.pure rfl (Pure.ldBA 0 rfl cell72 rfl rfl rfl) ?_
        refine Ops.store (Stores.box 1 rfl rfl rfl size72 (allOne rfl) rfl rfl) ?_
        refine Ops.nil ?_
        refine Run.retC 1 rfl rfl rfl cell72 rfl ?_
        unfold mpX mpY mpA mpB
        first
          | rfl
          | (split <;> split <;> split <;> first | rfl | (exfalso; omega))
          | (repeat (first | rw [if_pos (by omega)] | rw [if_neg (by omega)]))

set_option maxRecDepth 4000 in
set_option maxHeartbeats 1000000 in
/-- impl.mapPanel -/
theorem f_i_mapPanel (w : World) (a : Int) (b : Int) (v : Value) (l : List Int) (s : Nat) (hv : Rd w v 1 l.length (ints l)) (hk : okP a b l = true) (h8 : s < 8) : Ret Try.prog 187 [.agg #[.int .i64 a, .int .i64 b, v], .int .i64 s] w (fun u L => ∃ x, x.oneCell' = true ∧ u = .agg #[.int .i64 (mpA s a b), .int .i64 (mpB s a b), x] ∧ L = [.row 2 1 x (inn a b) (ints (mapL s a b l))]) := by
  have hs := okP_size hk
  obtain ⟨hs1, hs2, hs3, hs4⟩ := id hs
  have hib := (inn_eq hs).2.1
  have hli := okP_inn hk
  refine Ret.enter Try.func187 rfl Try.ntmps187 rfl ?_
  refine Run.seq ?_
  refine Run.region ?_
  refine Ops.go rfl (Loud.box rfl rfl) ?_
  rintro _ _ ⟨b2, rfl, rfl⟩
  refine Ops.go rfl (Loud.alloc zero35 rfl) ?_
  rintro _ _ ⟨b4, rfl, rfl⟩
  refine Ops.nil ?_
  refine Run.seq ?_
  refine Run.region ?_
  refine Ops.pure rfl (Pure.fieldAddrB fld35_0 rfl) ?_
  refine Ops.pure rfl (Pure.ldB 1 rfl cell2 rfl rfl) ?_
  refine Ops.pure rfl (Pure.fieldAddrB fld35_1 rfl) ?_
  refine Ops.pure rfl (Pure.ldB 1 rfl cell2 rfl rfl) ?_
  refine Ops.go rfl (Loud.callR fn189 rfl (fun w hw => f_i_newPanel w a b hs)) ?_
  rintro v12 _ ⟨L12, hQ12, rfl⟩
  obtain ⟨x12, h12, rfl, rfl⟩ := hQ12
  refine Ops.go rfl (Loud.alloc zero35 rfl) ?_
  rintro _ _ ⟨b5, rfl, rfl⟩
  refine Ops.store (Stores.box 0 rfl rfl rfl size35 (one3 h12) rfl rfl) ?_
  refine Ops.nil ?_
  refine Run.seq ?_
  refine Run.seq ?_
  refine Run.region ?_
  refine Ops.pure rfl (Pure.move rfl) ?_
  refine Ops.pure rfl (Pure.geq rfl rfl) ?_
  refine Ops.nil ?_
  refine Run.cond rfl (fun c14 => ?_) (fun c14 => ?_)
  · skip
    replace c14 := dT c14
    have hA : mpA s a b = b := if_pos (by omega)
    have hB : mpB s a b = a := if_pos (by omega)
    refine Run.region ?_
    refine Ops.pure rfl (Pure.fieldAddrB fld35_1 rfl) ?_
    refine Ops.pure rfl (Pure.ldB 3 rfl cell2 rfl rfl) ?_
    refine Ops.pure rfl (Pure.fieldAddrB fld35_0 rfl) ?_
    refine Ops.pure rfl (Pure.ldB 3 rfl cell2 rfl rfl) ?_
    refine Ops.go rfl (Loud.callR fn189 rfl (fun w hw => f_i_newPanel w b a (by unfold SizeOk; omega))) ?_
    rintro v19 _ ⟨L19, hQ19, rfl⟩
    obtain ⟨x19, h19, rfl, rfl⟩ := hQ19
    rw [inn_swap a b]
    refine Ops.store (Stores.box 1 rfl rfl rfl size35 (one3 h19) rfl rfl) ?_
    refine Ops.nil ?_
    refine Run.seq ?_
    refine Run.seq ?_
    refine Run.region ?_
    refine Ops.pure rfl (Pure.ldBA 4 rfl cell35 rfl rfl rfl) ?_
    refine Ops.go rfl (Loud.callR fn192 rfl (fun w hw => f_i_Panel_points w a b v l hs)) ?_
    rintro v21 _ ⟨L21, hQ21, rfl⟩
    subst hQ21
    refine Ops.pure rfl (Pure.len sl134 (RdL.own 0 rfl) rfl) ?_
    refine Ops.pure rfl (Pure.move rfl) ?_
    refine Ops.nil ?_
    refine Run.block ?_
    refine Run.loop2 (X := Nat) (Y := Value) (fun k xo => [(1, .int .i64 (s : Int)), (2, .pointer (some ⟨b2, 0, none⟩)), (4, .pointer (some ⟨b4, 0, none⟩)), (5, .pointer (some ⟨b5, 0, none⟩)), (21, v21), (22, .int .i64 ((inn a b : Nat) : Int)), (23, .int .i64 k)]) (fun k xo => [.box b5 35 [.int .i64 (mpA s a b), .int .i64 (mpB s a b), xo], .row 2 1 xo (inn a b) (ints (mapTo s a b l k)), .row 72 2 v21 (inn a b) (pnts (pnL a (inn a b))), .box b2 35 [.int .i64 a, .int .i64 b, v], .box b4 35 [.int .i64 0, .int .i64 0, .slice none 0 0]]) (fun k xo => xo.oneCell' = true ∧ k ≤ inn a b) (fun k xo => inn a b - k) 0 x19 ?_ ?_ ?_ ?_
    · exact ⟨by assumption, Nat.zero_le _⟩
    · exact ⟨rfl, rfl, rfl, rfl, rfl, rfl, rfl, trivial⟩
    · rw [hA, hB]
      first
        | exact Ext.take 2 rfl (Ext.take 1 rfl (Ext.take 0 rfl (Ext.take 2 rfl (Ext.take 1 rfl (Ext.nil _)))))
        | exact Ext.take 1 rfl (Ext.take 1 rfl (Ext.take 0 rfl (Ext.take 1 rfl (Ext.take 0 rfl (Ext.nil _)))))
    · intro k xo hinv0
      obtain ⟨hxo, hkn⟩ := id hinv0
      have hpl := length_pnL a (inn a b)
      have hmm := length_mapTo s a b l k
      have hml : (ints (mapTo s a b l k)).length = inn a b := by rw [ints, List.length_map]; exact hmm
      refine Run.seq ?_
      refine Run.region ?_
      refine Ops.pure rfl (Pure.lss rfl rfl) ?_
      refine Ops.nil ?_
      refine Run.seq ?_
      refine Run.cond rfl (fun c24 => ?_) (fun c24 => ?_)
      · skip
        replace c24 := dT c24
        refine Run.skip ?_
        refine Run.seq ?_
        refine Run.block ?_
        refine Run.seq ?_
        refine Run.region ?_
        refine Ops.pure rfl (Pure.move rfl) ?_
        refine Ops.pure rfl (Pure.idxN sl134 (RdL.own 2 rfl) rfl rfl (by first | assumption | omega | (simp; omega))) ?_
        refine Ops.pure rfl (Pure.ldA cell72 rfl (RdL.own 2 rfl) (seg_get encQ_len (by omega) (0, 0)) rfl (by decide)) ?_
        refine Ops.go rfl (Loud.alloc zero72 rfl) ?_
        rintro _ _ ⟨b7, rfl, rfl⟩
        refine Ops.pure rfl (Pure.assign rfl) ?_
        refine Ops.store (Stores.box 0 rfl rfl rfl size72 (allOne rfl) rfl rfl) ?_
        refine Ops.nil ?_
        have hki : k < inn a b := by omega
        rw [pnL_get hki]
        obtain ⟨hpt, hne, -⟩ := pt_spec (k := (k : Int)) hs (by omega) (by omega)
        obtain ⟨hq1, hq2⟩ := mp_pt h8 hpt hne
        have hnb := num_bd (mp_size (s := s) hs) hq1 hq2
        rw [mp_inn] at hnb
        have hmk := okP_get hk hki
        refine AnyK.start ([.box b7 72 [.int .i64 (ptX a k), .int .i64 (ptY a k)], .box b5 35 [.int .i64 (mpA s a b), .int .i64 (mpB s a b), xo], .box b2 35 [.int .i64 a, .int .i64 b, v]]) follows (Ext.take 0 rfl (Ext.take 0 rfl (Ext.take 2 rfl (Ext.nil _)))) ?_
        refine AnyK.take 0 rfl (by kernel_rfl) rfl (QOp.pure (Pure.fieldAddrB fld35_2 rfl)) ?_
        refine AnyK.take 1 rfl (by kernel_rfl) rfl (QOp.pure (Pure.ldB 1 rfl cell32 rfl rfl)) ?_
        refine AnyK.take 2 rfl (by kernel_rfl) rfl (QOp.pure (Pure.ldBA 1 rfl cell35 rfl rfl rfl)) ?_
        refine AnyK.take 3 rfl (by kernel_rfl) rfl (QOp.pure (Pure.ldBA 2 rfl cell35 rfl rfl rfl)) ?_
        refine AnyK.take 4 rfl (by kernel_rfl) rfl (QOp.pure (Pure.ldBA 0 rfl cell72 rfl rfl rfl)) ?_
        refine AnyK.take 5 rfl (by kernel_rfl) rfl (QOp.pure (Pure.move rfl)) ?_
        refine AnyK.take 6 rfl (by kernel_rfl) rfl (QOp.call fn218 rfl (fun w hw => f_i_Panel_mapPoint w a b v (ptX a k) (ptY a k) s hs hpt h8)) ?_
        refine AnyK.take 7 rfl (by kernel_rfl) rfl (QOp.call fn141 rfl (fun w hw => f_i_Panel_number w (mpA s a b) (mpB s a b) xo (mpX s a b (ptX a k) (ptY a k)) (mpY s a b (ptX a k) (ptY a k)) (mp_size hs) hq1 hq2)) ?_
        refine AnyK.take 8 rfl (by kernel_rfl) rfl (QOp.pure (Pure.fieldAddrB fld35_2 rfl)) ?_
        refine AnyK.take 9 rfl (by kernel_rfl) rfl (QOp.pure (Pure.ldB 2 rfl cell32 rfl rfl)) ?_
        refine AnyK.take 10 rfl (by kernel_rfl) rfl (QOp.pure (Pure.move rfl)) ?_
        refine AnyK.take 11 rfl (by kernel_rfl) rfl (QOp.pure (Pure.idx1N sl32 (RdL.old hv) rfl rfl (by first | assumption | omega | (simp; omega)))) ?_
        refine AnyK.take 12 rfl (by kernel_rfl) rfl (QOp.pure (Pure.ld cell2 rfl (RdL.old hv) (by first | exact ints_get (by omega) | exact bools_get (by omega) | exact strs_get (by omega) | exact vals_get (by first | omega | (simp; omega))))) ?_
        refine AnyK.take 13 rfl (by kernel_rfl) rfl (QOp.pure (Pure.move rfl)) ?_
        refine AnyK.take 14 rfl (by kernel_rfl) rfl (QOp.call fn217 rfl (fun w hw => f_i_mapBreak w (l.getD k 0) s h8 hmk.1 hmk.2)) ?_
        refine AnyK.one 15 (by kernel_rfl) ?_
        refine OneK.q rfl rfl (QOp.pure (Pure.idx1 sl32 (RdL.own 2 rfl) rfl rfl (by first | assumption | omega | (simp; omega)) (by first | assumption | omega | (simp; omega)))) ?_
        refine AnyK.one 16 (by kernel_rfl) ?_
        refine OneK.store rfl (Stores.row1 2 rfl size2 rfl rfl rfl (by first | assumption | omega | (simp; omega))) (Ext.take 0 rfl (Ext.take 0 rfl (Ext.take 2 rfl (Ext.nil _)))) ?_
        refine AnyK.done (by kernel_rfl) ?_
        refine Run.blk ?_
        refine Run.region ?_
        refine Ops.pure rfl (Pure.add rfl rfl (by omega) (by omega)) ?_
        refine Ops.pure rfl (Pure.move rfl) ?_
        refine Ops.nil ?_
        refine Run.asrt ?_
        refine ⟨k + 1, xo, ⟨⟨hxo, by omega⟩, by omega⟩, ⟨rfl, rfl, rfl, rfl, rfl, rfl, rfl, trivial⟩, ?_⟩
        rw [show mapTo s a b l (k + 1) = (mapTo s a b l k).set (tgt s a b k) (mk s (l.getD k 0)) from rfl, ints, ints, List.map_set]
        exact Ext.right [_] _
      · skip
        replace c24 := dF c24
        refine Run.exit rfl ?_
        refine Run.seq ?_
        have e : k = inn a b := by omega
        subst e
        refine Run.region ?_
        refine Ops.pure rfl (Pure.ldBA 0 rfl cell35 rfl rfl rfl) ?_
        refine Ops.store (Stores.box 4 rfl rfl rfl size35 (one3 hxo) rfl rfl) ?_
        refine Ops.nil ?_
        refine Run.retCx 4 rfl rfl rfl cell35 rfl (Ext.take 1 rfl (Ext.nil _)) ?_
        exact ⟨xo, hxo, rfl, rfl⟩
  · skip
    replace c14 := dF c14
    have hA : mpA s a b = a := if_neg (by omega)
    have hB : mpB s a b = b := if_neg (by omega)
    refine Run.skip ?_
    refine Run.seq ?_
    refine Run.seq ?_
    refine Run.region ?_
    refine Ops.pure rfl (Pure.ldBA 3 rfl cell35 rfl rfl rfl) ?_
    refine Ops.go rfl (Loud.callR fn192 rfl (fun w hw => f_i_Panel_points w a b v l hs)) ?_
    rintro v21 _ ⟨L21, hQ21, rfl⟩
    subst hQ21
    refine Ops.pure rfl (Pure.len sl134 (RdL.own 0 rfl) rfl) ?_
    refine Ops.pure rfl (Pure.move rfl) ?_
    refine Ops.nil ?_
    refine Run.block ?_
    refine Run.loop2 (X := Nat) (Y := Value) (fun k xo => [(1, .int .i64 (s : Int)), (2, .pointer (some ⟨b2, 0, none⟩)), (4, .pointer (some ⟨b4, 0, none⟩)), (5, .pointer (some ⟨b5, 0, none⟩)), (21, v21), (22, .int .i64 ((inn a b : Nat) : Int)), (23, .int .i64 k)]) (fun k xo => [.box b5 35 [.int .i64 (mpA s a b), .int .i64 (mpB s a b), xo], .row 2 1 xo (inn a b) (ints (mapTo s a b l k)), .row 72 2 v21 (inn a b) (pnts (pnL a (inn a b))), .box b2 35 [.int .i64 a, .int .i64 b, v], .box b4 35 [.int .i64 0, .int .i64 0, .slice none 0 0]]) (fun k xo => xo.oneCell' = true ∧ k ≤ inn a b) (fun k xo => inn a b - k) 0 x12 ?_ ?_ ?_ ?_
    · exact ⟨by assumption, Nat.zero_le _⟩
    · exact ⟨rfl, rfl, rfl, rfl, rfl, rfl, rfl, trivial⟩
    · rw [hA, hB]
      first
        | exact Ext.take 2 rfl (Ext.take 1 rfl (Ext.take 0 rfl (Ext.take 2 rfl (Ext.take 1 rfl (Ext.nil _)))))
        | exact Ext.take 1 rfl (Ext.take 1 rfl (Ext.take 0 rfl (Ext.take 1 rfl (Ext.take 0 rfl (Ext.nil _)))))
    · intro k xo hinv0
      obtain ⟨hxo, hkn⟩ := id hinv0
      have hpl := length_pnL a (inn a b)
      have hmm := length_mapTo s a b l k
      have hml : (ints (mapTo s a b l k)).length = inn a b := by rw [ints, List.length_map]; exact hmm
      refine Run.seq ?_
      refine Run.region ?_
      refine Ops.pure rfl (Pure.lss rfl rfl) ?_
      refine Ops.nil ?_
      refine Run.seq ?_
      refine Run.cond rfl (fun c24 => ?_) (fun c24 => ?_)
      · skip
        replace c24 := dT c24
        refine Run.skip ?_
        refine Run.seq ?_
        refine Run.block ?_
        refine Run.seq ?_
        refine Run.region ?_
        refine Ops.pure rfl (Pure.move rfl) ?_
        refine Ops.pure rfl (Pure.idxN sl134 (RdL.own 2 rfl) rfl rfl (by first | assumption | omega | (simp; omega))) ?_
        refine Ops.pure rfl (Pure.ldA cell72 rfl (RdL.own 2 rfl) (seg_get encQ_len (by omega) (0, 0)) rfl (by decide)) ?_
        refine Ops.go rfl (Loud.alloc zero72 rfl) ?_
        rintro _ _ ⟨b7, rfl, rfl⟩
        refine Ops.pure rfl (Pure.assign rfl) ?_
        refine Ops.store (Stores.box 0 rfl rfl rfl size72 (allOne rfl) rfl rfl) ?_
        refine Ops.nil ?_
        have hki : k < inn a b := by omega
        rw [pnL_get hki]
        obtain ⟨hpt, hne, -⟩ := pt_spec (k := (k : Int)) hs (by omega) (by omega)
        obtain ⟨hq1, hq2⟩ := mp_pt h8 hpt hne
        have hnb := num_bd (mp_size (s := s) hs) hq1 hq2
        rw [mp_inn] at hnb
        have hmk := okP_get hk hki
        refine AnyK.start ([.box b7 72 [.int .i64 (ptX a k), .int .i64 (ptY a k)], .box b5 35 [.int .i64 (mpA s a b), .int .i64 (mpB s a b), xo], .box b2 35 [.int .i64 a, .int .i64 b, v]]) follows (Ext.take 0 rfl (Ext.take 0 rfl (Ext.take 2 rfl (Ext.nil _)))) ?_
        refine AnyK.take 0 rfl (by kernel_rfl) rfl (QOp.pure (Pure.fieldAddrB fld35_2 rfl)) ?_
        refine AnyK.take 1 rfl (by kernel_rfl) rfl (QOp.pure (Pure.ldB 1 rfl cell32 rfl rfl)) ?_
        refine AnyK.take 2 rfl (by kernel_rfl) rfl (QOp.pure (Pure.ldBA 1 rfl cell35 rfl rfl rfl)) ?_
        refine AnyK.take 3 rfl (by kernel_rfl) rfl (QOp.pure (Pure.ldBA 2 rfl cell35 rfl rfl rfl)) ?_
        refine AnyK.take 4 rfl (by kernel_rfl) rfl (QOp.pure (Pure.ldBA 0 rfl cell72 rfl rfl rfl)) ?_
        refine AnyK.take 5 rfl (by kernel_rfl) rfl (QOp.pure (Pure.move rfl)) ?_
        refine AnyK.take 6 rfl (by kernel_rfl) rfl (QOp.call fn218 rfl (fun w hw => f_i_Panel_mapPoint w a b v (ptX a k) (ptY a k) s hs hpt h8)) ?_
        refine AnyK.take 7 rfl (by kernel_rfl) rfl (QOp.call fn141 rfl (fun w hw => f_i_Panel_number w (mpA s a b) (mpB s a b) xo (mpX s a b (ptX a k) (ptY a k)) (mpY s a b (ptX a k) (ptY a k)) (mp_size hs) hq1 hq2)) ?_
        refine AnyK.take 8 rfl (by kernel_rfl) rfl (QOp.pure (Pure.fieldAddrB fld35_2 rfl)) ?_
        refine AnyK.take 9 rfl (by kernel_rfl) rfl (QOp.pure (Pure.ldB 2 rfl cell32 rfl rfl)) ?_
        refine AnyK.take 10 rfl (by kernel_rfl) rfl (QOp.pure (Pure.move rfl)) ?_
        refine AnyK.take 11 rfl (by kernel_rfl) rfl (QOp.pure (Pure.idx1N sl32 (RdL.old hv) rfl rfl (by first | assumption | omega | (simp; omega)))) ?_
        refine AnyK.take 12 rfl (by kernel_rfl) rfl (QOp.pure (Pure.ld cell2 rfl (RdL.old hv) (by first | exact ints_get (by omega) | exact bools_get (by omega) | exact strs_get (by omega) | exact vals_get (by first | omega | (simp; omega))))) ?_
        refine AnyK.take 13 rfl (by kernel_rfl) rfl (QOp.pure (Pure.move rfl)) ?_
        refine AnyK.take 14 rfl (by kernel_rfl) rfl (QOp.call fn217 rfl (fun w hw => f_i_mapBreak w (l.getD k 0) s h8 hmk.1 hmk.2)) ?_
        refine AnyK.one 15 (by kernel_rfl) ?_
        refine OneK.q rfl rfl (QOp.pure (Pure.idx1 sl32 (RdL.own 2 rfl) rfl rfl (by first | assumption | omega | (simp; omega)) (by first | assumption | omega | (simp; omega)))) ?_
        refine AnyK.one 16 (by kernel_rfl) ?_
        refine OneK.store rfl (Stores.row1 2 rfl size2 rfl rfl rfl (by first | assumption | omega | (simp; omega))) (Ext.take 0 rfl (Ext.take 0 rfl (Ext.take 2 rfl (Ext.nil _)))) ?_
        refine AnyK.done (by kernel_rfl) ?_
        refine Run.blk ?_
        refine Run.region ?_
        refine Ops.pure rfl (Pure.add rfl rfl (by omega) (by omega)) ?_
        refine Ops.pure rfl (Pure.move rfl) ?_
        refine Ops.nil ?_
        refine Run.asrt ?_
        refine ⟨k + 1, xo, ⟨⟨hxo, by omega⟩, by omega⟩, ⟨rfl, rfl, rfl, rfl, rfl, rfl, rfl, trivial⟩, ?_⟩
        rw [show mapTo s a b l (k + 1) = (mapTo s a b l k).set (tgt s a b k) (mk s (l.getD k 0)) from rfl, ints, ints, List.map_set]
        exact Ext.right [_] _
      · skip
        replace c24 := dF c24
        refine Run.exit rfl ?_
        refine Run.seq ?_
        have e : k = inn a b := by omega
        subst e
        refine Run.region ?_
        refine Ops.pure rfl (Pure.ldBA 0 rfl cell35 rfl rfl rfl) ?_
        refine Ops.store (Stores.box 4 rfl rfl rfl size35 (one3 hxo) rfl rfl) ?_
        refine Ops.nil ?_
        refine Run.retCx 4 rfl rfl rfl cell35 rfl (Ext.take 1 rfl (Ext.nil _)) ?_
        exact ⟨xo, hxo, rfl, rfl⟩

end Go.Proofs.Ytmfinopdokkjcaa
