/- Contracts of functions, printed by program from annotations. -/
import Derived.Test.YtkplanpcmkbfiaaDrw2
import Derived.Test.YtkplanpcmkbfiaaWlk
namespace Go.Proofs.Ytkplanpcmkbfiaa
open Go Go.AW Go.RowKit
set_option linter.unusedVariables false
set_option linter.unusedSimpArgs false

theorem passing {a b x y dx dy : Int} {l : List Int} (hs : SizeOk a b) (hk : okP a b l = true) (hw : VW a b (x, y, dx, dy)) (hc : CrAt a b l (x + dx) (y + dy)) :
    poE a b l x y dx dy = 0 ∧ poE a b l (x + dx + dx) (y + dy + dy) (-dx) (-dy) = 0 ∧ poE a b l (x + dx - dx) (y + dy + dy) dx (-dy) = 0 ∧ crE a b l (x + dx) (y + dy) = 0 ∧
    (poB a b l (x + dx + dx) (y + dy + dy) (-dx) (-dy) == poB a b l x y dx dy) = true ∧ (!(poB a b l (x + dx - dx) (y + dy + dy) dx (-dy) == poB a b l x y dx dy)) = true ∧ (poB a b l x y dx dy == decide (slE a b l (x + dx) (y + dy) = dx * dy)) = true := by
  obtain ⟨h1, h2, h3, h4⟩ := VW_mk.1 hw
  have he := hc.1
  have p1 : VW a b (x + dx + dx, y + dy + dy, -dx, -dy) := by
    rw [VW_mk]
    unfold PtOk Edge at *
    omega
  have p2 : VW a b (x + dx - dx, y + dy + dy, dx, -dy) := by
    rw [VW_mk]
    unfold PtOk Edge at *
    omega
  have e1 : x + dx + dx + -dx = x + dx := by omega
  have e2 : y + dy + dy + -dy = y + dy := by omega
  have e3 : x + dx - dx + dx = x + dx := by omega
  have q0 := po_ok ⟨hk, hw⟩ hc
  have q1 := po_ok (x := x + dx + dx) (y := y + dy + dy) (dx := -dx) (dy := -dy) ⟨hk, p1⟩ (by rw [e1, e2]; exact hc)
  have q2 := po_ok (x := x + dx - dx) (y := y + dy + dy) (dx := dx) (dy := -dy) ⟨hk, p2⟩ (by rw [e3, e2]; exact hc)
  have q3 := crE_ok hk h4 hc
  refine ⟨q0.1, q1.1, q2.1, q3, ?_, ?_, ?_⟩
  · rw [q1.2, q0.2, e1, Int.neg_mul_neg]
    exact beq_self_eq_true _
  · rw [q2.2, q0.2, e3]
    rcases h1 with rfl | rfl <;> rcases h2 with rfl | rfl <;> rcases slp_bd (x + 1) with h | h <;> rcases slp_bd (x + -1) with h' | h' <;> rw [] <;> simp [h, h']
  · rw [q0.2, slE_ok q3]
    exact beq_self_eq_true _

set_option maxRecDepth 4000 in
/-- laws.FnPassing -/
theorem f_l_FnPassing (w : World) (vc : Value) (co : List Int) (hc : Rd w vc 1 co.length (AW.bytes co)) (hcl : co.length ≤ 9223372036854775807) (hb : ∀ x ∈ co, 0 ≤ x ∧ x ≤ 255) : RetV Try.prog 9 [vc] w (.bool true) := by
  refine Ret.enter Try.func9 rfl Try.ntmps9 rfl ?_
  refine Run.seq ?_
  refine Run.region ?_
  refine Ops.pure rfl (Pure.assign rfl) ?_
  refine Ops.nil ?_
  refine Run.seq ?_
  refine Run.seq ?_
  refine Run.region ?_
  refine Ops.pure rfl (Pure.move rfl) ?_
  refine Ops.q rfl (QOp.call fn31 rfl (fun w hw => f_l_a2Long w vc _ _ _ 0 [] (RdL.old hc w hw) (Rd_nil w 1))) ?_
  refine Ops.nil ?_
  refine Run.cond rfl (fun c17 => ?_) (fun c17 => ?_)
  · skip
    replace c17 := dT c17
    refine Run.seq ?_
    refine Run.region ?_
    refine Ops.pure rfl (Pure.assign rfl) ?_
    refine Ops.nil ?_
    refine Run.ret1 rfl rfl ?_
    rfl
  · skip
    replace c17 := dF c17
    have hcl2 : co.length ≤ 1000000000 := by omega
    refine Run.skip ?_
    refine Run.seq ?_
    refine Run.region ?_
    refine Ops.pure rfl (Pure.move rfl) ?_
    refine Ops.go rfl (Loud.callR fn36 rfl (fun w hw => f_s_A2Walker w vc co (RdL.old hc w hw) hb hcl2)) ?_
    rintro v20 _ ⟨L20, hQ20, rfl⟩
    obtain ⟨a20, c20, l20, v20, x20, y20, dx20, dy20, ha20, hA20, hc20, hC20, hk20, h20, hvw20, rfl, rfl⟩ := hQ20
    refine Ops.pure rfl (Pure.move rfl) ?_
    refine Ops.pure rfl (Pure.extract rfl rfl) ?_
    refine Ops.pure rfl (Pure.extract rfl rfl) ?_
    refine Ops.go rfl (Loud.alloc zero28 rfl) ?_
    rintro _ _ ⟨b3, rfl, rfl⟩
    refine Ops.go rfl (Loud.alloc zero57 rfl) ?_
    rintro _ _ ⟨b4, rfl, rfl⟩
    refine Ops.store (Stores.box 1 rfl rfl rfl size28 (one3 h20) rfl rfl) ?_
    refine Ops.store (Stores.box 0 rfl rfl rfl size57 (allOne rfl) rfl rfl) ?_
    refine Ops.nil ?_
    refine Run.seq ?_
    have hs : SizeOk a20 c20 := by unfold SizeOk; omega
    have hli := okP_inn hk20
    have hib := (inn_eq hs).2.1
    have hmid := VW_mid hs hvw20
    have hpt := (VW_mk.1 hvw20).2.2.2
    refine Run.region ?_
    refine Ops.pure rfl (Pure.ldBA 1 rfl cell28 rfl rfl rfl) ?_
    refine Ops.pure rfl (Pure.ldBA 0 rfl cell57 rfl rfl rfl) ?_
    refine Ops.q rfl (QOp.call fn37 rfl (fun w hw => f_i_PassesOver w a20 c20 v20 l20 x20 y20 dx20 dy20 (RdL.own 2 rfl w hw) (by omega) (by omega) (by omega) (by omega) (by omega))) ?_
    refine Ops.pure rfl (Pure.move rfl) ?_
    refine Ops.pure rfl (Pure.extract rfl rfl) ?_
    refine Ops.pure rfl (Pure.extract rfl rfl) ?_
    refine Ops.pure rfl (Pure.assign rfl) ?_
    refine Ops.pure rfl (Pure.assign rfl) ?_
    refine Ops.nil ?_
    refine Run.seq ?_
    refine Run.region ?_
    refine Ops.pure rfl (Pure.fieldAddrB fld57_0 rfl) ?_
    refine Ops.pure rfl (Pure.fieldAddrB fld55_0 rfl) ?_
    refine Ops.pure rfl (Pure.ldB 0 rfl cell2 rfl rfl) ?_
    refine Ops.pure rfl (Pure.fieldAddrB fld57_1 rfl) ?_
    refine Ops.pure rfl (Pure.ldB 0 rfl cell2 rfl rfl) ?_
    refine Ops.pure rfl (Pure.add rfl rfl (by omega) (by omega)) ?_
    refine Ops.pure rfl (Pure.fieldAddrB fld57_0 rfl) ?_
    refine Ops.pure rfl (Pure.fieldAddrB fld55_1 rfl) ?_
    refine Ops.pure rfl (Pure.ldB 0 rfl cell2 rfl rfl) ?_
    refine Ops.pure rfl (Pure.fieldAddrB fld57_2 rfl) ?_
    refine Ops.pure rfl (Pure.ldB 0 rfl cell2 rfl rfl) ?_
    refine Ops.pure rfl (Pure.add rfl rfl (by omega) (by omega)) ?_
    refine Ops.pure rfl (Pure.build rfl (bld55_2 _ _ (by first | rfl | assumption) (by first | rfl | assumption))) ?_
    refine Ops.go rfl (Loud.alloc zero55 rfl) ?_
    rintro _ _ ⟨b7, rfl, rfl⟩
    refine Ops.store (Stores.box 0 rfl rfl rfl size55 (allOne rfl) rfl rfl) ?_
    refine Ops.nil ?_
    refine Run.seq ?_
    refine Run.seq ?_
    refine Run.region ?_
    refine Ops.pure rfl (Pure.ldBA 2 rfl cell28 rfl rfl rfl) ?_
    refine Ops.pure rfl (Pure.ldBA 0 rfl cell55 rfl rfl rfl) ?_
    refine Ops.q rfl (QOp.call fn38 rfl (fun w hw => f_s_IsCrossing w a20 c20 v20 l20 (x20 + dx20) (y20 + dy20) (RdL.own 3 rfl w hw) (by omega) (by omega) (by omega) (by omega) (by omega))) ?_
    refine Ops.pure rfl (Pure.not rfl) ?_
    refine Ops.nil ?_
    refine Run.cond rfl (fun c45 => ?_) (fun c45 => ?_)
    · skip
      replace c45 := nT c45
      refine Run.seq ?_
      refine Run.region ?_
      refine Ops.pure rfl (Pure.move rfl) ?_
      refine Ops.pure rfl (Pure.eql rfl rfl) ?_
      refine Ops.pure rfl (Pure.assign rfl) ?_
      refine Ops.nil ?_
      refine Run.ret1 rfl rfl ?_
      rw [(po_no ⟨hk20, hvw20⟩ (fun h => c45 ⟨hk20, hpt, h⟩)).1]
      rfl
    · skip
      replace c45 := nF c45
      obtain ⟨hp1, hp2, hp3, hp4, hp5, hp6, hp7⟩ := passing hs hk20 hvw20 c45.2.2
      refine Run.skip ?_
      refine Run.seq ?_
      refine Run.region ?_
      refine Ops.pure rfl (Pure.fieldAddrB fld55_0 rfl) ?_
      refine Ops.pure rfl (Pure.ldB 0 rfl cell2 rfl rfl) ?_
      refine Ops.pure rfl (Pure.fieldAddrB fld57_1 rfl) ?_
      refine Ops.pure rfl (Pure.ldB 1 rfl cell2 rfl rfl) ?_
      refine Ops.pure rfl (Pure.add rfl rfl (by omega) (by omega)) ?_
      refine Ops.pure rfl (Pure.fieldAddrB fld55_1 rfl) ?_
      refine Ops.pure rfl (Pure.ldB 0 rfl cell2 rfl rfl) ?_
      refine Ops.pure rfl (Pure.fieldAddrB fld57_2 rfl) ?_
      refine Ops.pure rfl (Pure.ldB 1 rfl cell2 rfl rfl) ?_
      refine Ops.pure rfl (Pure.add rfl rfl (by omega) (by omega)) ?_
      refine Ops.pure rfl (Pure.build rfl (bld55_2 _ _ (by first | rfl | assumption) (by first | rfl | assumption))) ?_
      refine Ops.pure rfl (Pure.fieldAddrB fld57_1 rfl) ?_
      refine Ops.pure rfl (Pure.ldB 1 rfl cell2 rfl rfl) ?_
      refine Ops.pure rfl (Pure.neg rfl (by omega) (by omega)) ?_
      refine Ops.pure rfl (Pure.fieldAddrB fld57_2 rfl) ?_
      refine Ops.pure rfl (Pure.ldB 1 rfl cell2 rfl rfl) ?_
      refine Ops.pure rfl (Pure.neg rfl (by omega) (by omega)) ?_
      refine Ops.pure rfl (Pure.build rfl (bld57_3 _ _ _ _ (by first | rfl | assumption) (by first | rfl | assumption))) ?_
      refine Ops.go rfl (Loud.alloc zero57 rfl) ?_
      rintro _ _ ⟨b8, rfl, rfl⟩
      refine Ops.store (Stores.box 0 rfl rfl rfl size57 (allOne rfl) rfl rfl) ?_
      refine Ops.nil ?_
      refine Run.seq ?_
      refine Run.region ?_
      refine Ops.pure rfl (Pure.fieldAddrB fld55_0 rfl) ?_
      refine Ops.pure rfl (Pure.ldB 1 rfl cell2 rfl rfl) ?_
      refine Ops.pure rfl (Pure.fieldAddrB fld57_1 rfl) ?_
      refine Ops.pure rfl (Pure.ldB 2 rfl cell2 rfl rfl) ?_
      refine Ops.pure rfl (Pure.sub rfl rfl (by omega) (by omega)) ?_
      refine Ops.pure rfl (Pure.fieldAddrB fld55_1 rfl) ?_
      refine Ops.pure rfl (Pure.ldB 1 rfl cell2 rfl rfl) ?_
      refine Ops.pure rfl (Pure.fieldAddrB fld57_2 rfl) ?_
      refine Ops.pure rfl (Pure.ldB 2 rfl cell2 rfl rfl) ?_
      refine Ops.pure rfl (Pure.add rfl rfl (by omega) (by omega)) ?_
      refine Ops.pure rfl (Pure.build rfl (bld55_2 _ _ (by first | rfl | assumption) (by first | rfl | assumption))) ?_
      refine Ops.pure rfl (Pure.fieldAddrB fld57_1 rfl) ?_
      refine Ops.pure rfl (Pure.ldB 2 rfl cell2 rfl rfl) ?_
      refine Ops.pure rfl (Pure.fieldAddrB fld57_2 rfl) ?_
      refine Ops.pure rfl (Pure.ldB 2 rfl cell2 rfl rfl) ?_
      refine Ops.pure rfl (Pure.neg rfl (by omega) (by omega)) ?_
      refine Ops.pure rfl (Pure.build rfl (bld57_3 _ _ _ _ (by first | rfl | assumption) (by first | rfl | assumption))) ?_
      refine Ops.go rfl (Loud.alloc zero57 rfl) ?_
      rintro _ _ ⟨b9, rfl, rfl⟩
      refine Ops.store (Stores.box 0 rfl rfl rfl size57 (allOne rfl) rfl rfl) ?_
      refine Ops.nil ?_
      refine Run.seq ?_
      refine Run.region ?_
      refine Ops.pure rfl (Pure.ldBA 4 rfl cell28 rfl rfl rfl) ?_
      refine Ops.pure rfl (Pure.ldBA 1 rfl cell57 rfl rfl rfl) ?_
      refine Ops.q rfl (QOp.call fn37 rfl (fun w hw => f_i_PassesOver w a20 c20 v20 l20 (x20 + dx20 + dx20) (y20 + dy20 + dy20) (-dx20) (-dy20) (RdL.own 5 rfl w hw) (by omega) (by omega) (by omega) (by omega) (by omega))) ?_
      refine Ops.pure rfl (Pure.move rfl) ?_
      refine Ops.pure rfl (Pure.extract rfl rfl) ?_
      refine Ops.pure rfl (Pure.extract rfl rfl) ?_
      refine Ops.pure rfl (Pure.assign rfl) ?_
      refine Ops.pure rfl (Pure.assign rfl) ?_
      refine Ops.nil ?_
      refine Run.seq ?_
      refine Run.region ?_
      refine Ops.pure rfl (Pure.ldBA 4 rfl cell28 rfl rfl rfl) ?_
      refine Ops.pure rfl (Pure.ldBA 0 rfl cell57 rfl rfl rfl) ?_
      refine Ops.q rfl (QOp.call fn37 rfl (fun w hw => f_i_PassesOver w a20 c20 v20 l20 (x20 + dx20 - dx20) (y20 + dy20 + dy20) dx20 (-dy20) (RdL.own 5 rfl w hw) (by omega) (by omega) (by omega) (by omega) (by omega))) ?_
      refine Ops.pure rfl (Pure.move rfl) ?_
      refine Ops.pure rfl (Pure.extract rfl rfl) ?_
      refine Ops.pure rfl (Pure.extract rfl rfl) ?_
      refine Ops.pure rfl (Pure.assign rfl) ?_
      refine Ops.pure rfl (Pure.assign rfl) ?_
      refine Ops.nil ?_
      refine Run.seq ?_
      refine Run.region ?_
      refine Ops.pure rfl (Pure.ldBA 4 rfl cell28 rfl rfl rfl) ?_
      refine Ops.pure rfl (Pure.ldBA 2 rfl cell55 rfl rfl rfl) ?_
      refine Ops.q rfl (QOp.call fn39 rfl (fun w hw => f_i_OverSlope w a20 c20 v20 l20 (x20 + dx20) (y20 + dy20) (RdL.own 5 rfl w hw) (by omega) (by omega) (by omega) (by omega) (by omega))) ?_
      refine Ops.pure rfl (Pure.move rfl) ?_
      refine Ops.pure rfl (Pure.extract rfl rfl) ?_
      refine Ops.pure rfl (Pure.extract rfl rfl) ?_
      refine Ops.pure rfl (Pure.assign rfl) ?_
      refine Ops.pure rfl (Pure.assign rfl) ?_
      refine Ops.nil ?_
      refine Run.seq ?_
      refine Run.region ?_
      refine Ops.pure rfl (Pure.move rfl) ?_
      refine Ops.pure rfl (Pure.eql rfl rfl) ?_
      refine Ops.pure rfl (Pure.move rfl) ?_
      refine Ops.guardY rfl rfl rfl (decide_eq_true hp1) ?_
      refine Ops.pure rfl (Pure.move rfl) ?_
      refine Ops.guardY rfl rfl rfl (decide_eq_true hp1) ?_
      refine Ops.pure rfl (Pure.eql rfl rfl) ?_
      refine Ops.pure rfl (Pure.pickT rfl (decide_eq_true hp1) rfl) ?_
      refine Ops.pure rfl (Pure.move rfl) ?_
      refine Ops.guardY rfl rfl rfl (decide_eq_true hp2) ?_
      refine Ops.pure rfl (Pure.move rfl) ?_
      refine Ops.guardY rfl rfl rfl (decide_eq_true hp2) ?_
      refine Ops.pure rfl (Pure.eql rfl rfl) ?_
      refine Ops.pure rfl (Pure.pickT rfl (decide_eq_true hp2) rfl) ?_
      refine Ops.pure rfl (Pure.move rfl) ?_
      refine Ops.guardY rfl rfl rfl (decide_eq_true hp3) ?_
      refine Ops.pure rfl (Pure.move rfl) ?_
      refine Ops.guardY rfl rfl rfl (decide_eq_true hp3) ?_
      refine Ops.pure rfl (Pure.eql rfl rfl) ?_
      refine Ops.pure rfl (Pure.pickT rfl (decide_eq_true hp3) rfl) ?_
      refine Ops.pure rfl (Pure.move rfl) ?_
      refine Ops.guardY rfl rfl rfl (decide_eq_true hp4) ?_
      refine Ops.pure rfl (Pure.move rfl) ?_
      refine Ops.guardY rfl rfl rfl (decide_eq_true hp4) ?_
      refine Ops.pure rfl (Pure.move rfl) ?_
      refine Ops.guardY rfl rfl rfl (decide_eq_true hp4) ?_
      refine Ops.pure rfl (Pure.eqlB und4 rfl rfl) ?_
      refine Ops.pure rfl (Pure.pickT rfl (decide_eq_true hp4) rfl) ?_
      refine Ops.pure rfl (Pure.move rfl) ?_
      refine Ops.guardY rfl rfl rfl hp5 ?_
      refine Ops.pure rfl (Pure.move rfl) ?_
      refine Ops.guardY rfl rfl rfl hp5 ?_
      refine Ops.pure rfl (Pure.move rfl) ?_
      refine Ops.guardY rfl rfl rfl hp5 ?_
      refine Ops.pure rfl (Pure.neqB und4 rfl rfl) ?_
      refine Ops.pure rfl (Pure.pickT rfl hp5 rfl) ?_
      refine Ops.pure rfl (Pure.move rfl) ?_
      refine Ops.guardY rfl rfl rfl hp6 ?_
      refine Ops.pure rfl (Pure.move rfl) ?_
      refine Ops.guardY rfl rfl rfl hp6 ?_
      refine Ops.pure rfl (Pure.move rfl) ?_
      refine Ops.guardY rfl rfl rfl hp6 ?_
      refine Ops.pure rfl (Pure.fieldAddrB fld57_1 rfl) ?_
      refine Ops.guardY rfl rfl rfl hp6 ?_
      refine Ops.pure rfl (Pure.ldB 3 rfl cell2 rfl rfl) ?_
      refine Ops.guardY rfl rfl rfl hp6 ?_
      refine Ops.pure rfl (Pure.fieldAddrB fld57_2 rfl) ?_
      refine Ops.guardY rfl rfl rfl hp6 ?_
      refine Ops.pure rfl (Pure.ldB 3 rfl cell2 rfl rfl) ?_
      refine Ops.guardY rfl rfl rfl hp6 ?_
      refine Ops.pure rfl (Pure.mul rfl rfl (by omega) (by omega)) ?_
      refine Ops.guardY rfl rfl rfl hp6 ?_
      refine Ops.pure rfl (Pure.eql rfl rfl) ?_
      refine Ops.guardY rfl rfl rfl hp6 ?_
      refine Ops.pure rfl (Pure.eqlB und4 rfl rfl) ?_
      refine Ops.pure rfl (Pure.pickT rfl hp6 rfl) ?_
      refine Ops.pure rfl (Pure.assign rfl) ?_
      refine Ops.nil ?_
      refine Run.ret1 rfl rfl ?_
      rw [hp7]

end Go.Proofs.Ytkplanpcmkbfiaa
