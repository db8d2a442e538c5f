/- The walk of FnTop. -/
import Derived.Test.YtmfinopdokkjcaaTqE
namespace Go.Proofs.Ytmfinopdokkjcaa
open Go Go.AW Go.RowKit
set_option linter.unusedVariables false
set_option linter.unusedSimpArgs false

set_option maxRecDepth 4000 in
/-- impl.CountCurves -/
theorem f_i_CountCurves (w : World) (a : Int) (b : Int) (v : Value) (l : List Int) (hv : Rd w v 1 l.length (ints l)) (hl : l.length ≤ 1073741824) (hk : okP a b l = true) : RetV Try.prog 45 [.agg #[.int .i64 a, .int .i64 b, v]] w (.tuple #[.int .i64 (cnt a b l : Int), .int .i64 0]) := by
  have hs := okP_size hk
  obtain ⟨hs1, hs2, hs3, hs4⟩ := id hs
  refine Ret.enter Try.func45 rfl Try.ntmps45 rfl ?_
  refine Run.seq ?_
  refine Run.region ?_
  refine Ops.go rfl (Loud.box rfl rfl) ?_
  rintro _ _ ⟨b1, rfl, rfl⟩
  refine Ops.pure rfl (Pure.assign rfl) ?_
  refine Ops.pure rfl (Pure.assign rfl) ?_
  refine Ops.nil ?_
  refine Run.seq ?_
  refine Run.seq ?_
  refine Run.region ?_
  refine Ops.pure rfl (Pure.ldBA 0 rfl cell35 rfl rfl rfl) ?_
  refine Ops.q rfl (QOp.call fn96 rfl (fun w hw => f_i_ValidPanel w _ _ _ _ (by exact RdL.old (by assumption) w hw) (by assumption) (by omega) (by omega) (by omega) (by omega))) ?_
  refine Ops.pure rfl (Pure.not rfl) ?_
  refine Ops.nil ?_
  refine Run.condEF rfl ((by rw [hk]; rfl)) ?_
  refine Run.skip ?_
  refine Run.seq ?_
  refine Run.region ?_
  refine Ops.pure rfl (Pure.ldBA 0 rfl cell35 rfl rfl rfl) ?_
  refine Ops.q rfl (QOp.call fn121 rfl (fun w hw => f_i_countCurves w _ _ _ _ (by exact RdL.old (by assumption) w hw) (by assumption))) ?_
  refine Ops.pure rfl (Pure.assign rfl) ?_
  refine Ops.pure rfl (Pure.assign rfl) ?_
  refine Ops.nil ?_
  refine Run.ret2 rfl rfl rfl ?_
  rfl

/-- the passes of a curve alternate -/
theorem pass_alt {a b : Int} {l : List Int} (hk : okP a b l = true) {c : Nat} (hc : c < cnt a b l) : altB (psL a b l c) = true := by
  have hr := row_alt hk hc
  have hbd : ∀ q ∈ psL a b l (c : Int), 0 ≤ q.1 := fun q hq => (psL_bd hq).1
  have hlen : (rowC a b l c).length = (psL a b l c).length := by unfold rowC; rw [List.length_map]
  have hget : ∀ j, j < (psL a b l c).length → decide (0 < (rowC a b l c).getD j 0) = ((psL a b l c).getD j (0, false)).2 := fun j hj => by
    have e : (rowC a b l c).getD j 0 = cdI ((psL a b l c).getD j (0, false)) := by
      unfold rowC
      simp [List.getD, hj]
    rw [e]
    refine pos_cdI (hbd _ ?_)
    rw [List.getD_eq_getElem?_getD, List.getElem?_eq_getElem hj]
    exact List.getElem_mem _
  refine altB_true (k := (psL a b l c).length) (Nat.lt_irrefl _) fun j hj => ?_
  have h1 := hr j (by omega)
  rw [hlen, hget j hj, hget _ (Nat.mod_lt _ (by omega))] at h1
  exact h1

set_option maxRecDepth 4000 in
set_option maxHeartbeats 1000000 in
/-- laws.FnTop -/
theorem f_l_FnTop (w : World) (vc : Value) (co : List Int) (vm : Value) (cm : List Int) (hc : Rd w vc 1 co.length (AW.bytes co)) (hcl : co.length ≤ 9223372036854775807) (hb : ∀ x ∈ co, 0 ≤ x ∧ x ≤ 255) (hc2 : Rd w vm 1 cm.length (AW.bytes cm)) (hcl2 : cm.length ≤ 9223372036854775807) (hb2 : ∀ x ∈ cm, 0 ≤ x ∧ x ≤ 255) : RetV Try.prog 10 [vc, vm] w (.bool true) := by
  refine Ret.enter Try.func10 rfl Try.ntmps10 rfl ?_
  refine Run.seq ?_
  refine Run.region ?_
  refine Ops.pure rfl (Pure.assign rfl) ?_
  refine Ops.nil ?_
  refine Run.seq ?_
  refine Run.seq ?_
  refine Run.region ?_
  refine Ops.pure rfl (Pure.move rfl) ?_
  refine Ops.pure rfl (Pure.move rfl) ?_
  refine Ops.q rfl (QOp.call fn11 rfl (fun w hw => f_l_a2Long w vc _ _ vm _ _ (RdL.old hc w hw) (RdL.old hc2 w hw))) ?_
  refine Ops.nil ?_
  refine Run.cond rfl (fun c19 => ?_) (fun c19 => ?_)
  · skip
    replace c19 := dT c19
    refine Run.seq ?_
    refine Run.region ?_
    refine Ops.pure rfl (Pure.assign rfl) ?_
    refine Ops.nil ?_
    refine Run.ret1 rfl rfl ?_
    rfl
  · skip
    replace c19 := dF c19
    have hcl3 : co.length ≤ 1000000000 := by omega
    refine Run.skip ?_
    refine Run.seq ?_
    refine Run.region ?_
    refine Ops.pure rfl (Pure.move rfl) ?_
    refine Ops.go rfl (Loud.callR fn19 rfl (fun w hw => f_s_A2Panel w vc co (RdL.old hc w hw) hb hcl3)) ?_
    rintro v21 _ ⟨L21, hQ21, rfl⟩
    obtain ⟨a21, c21, l21, x21, ha21, hA21, hc21, hC21, hk21, h21, rfl, rfl⟩ := hQ21
    refine Ops.go rfl (Loud.alloc zero35 rfl) ?_
    rintro _ _ ⟨b5, rfl, rfl⟩
    refine Ops.store (Stores.box 0 rfl rfl rfl size35 (one3 h21) rfl rfl) ?_
    refine Ops.nil ?_
    refine Run.seq ?_
    have hs : SizeOk a21 c21 := okP_size hk21
    have hli := okP_inn hk21
    have hib := (inn_eq hs).2.1
    have hsl := segN_le hs
    have hcp := cnt_pos (l := l21) hs.1 hs.2.2.1
    refine Run.region ?_
    refine Ops.pure rfl (Pure.ldBA 0 rfl cell35 rfl rfl rfl) ?_
    refine Ops.q rfl (QOp.call fn45 rfl (fun w hw => f_i_CountCurves w a21 c21 x21 l21 (RdL.own 1 rfl w hw) (by omega) hk21)) ?_
    refine Ops.pure rfl (Pure.move rfl) ?_
    refine Ops.pure rfl (Pure.extract rfl rfl) ?_
    refine Ops.pure rfl (Pure.extract rfl rfl) ?_
    refine Ops.pure rfl (Pure.assign rfl) ?_
    refine Ops.pure rfl (Pure.assign rfl) ?_
    refine Ops.nil ?_
    refine Run.seq ?_
    refine Run.region ?_
    refine Ops.pure rfl (Pure.ldBA 0 rfl cell35 rfl rfl rfl) ?_
    refine Ops.go rfl (Loud.callR fn79 rfl (fun w hw => f_i_JoinPanel w a21 c21 x21 l21 (RdL.own 1 rfl w hw) hk21)) ?_
    rintro v29 _ ⟨L29, hQ29, rfl⟩
    obtain ⟨vp29, vl29, pr29, lg29, rfl, huf29, hcn29, h129, h229, rfl⟩ := hQ29
    refine Ops.pure rfl (Pure.move rfl) ?_
    refine Ops.pure rfl (Pure.extract rfl rfl) ?_
    refine Ops.pure rfl (Pure.extract rfl rfl) ?_
    refine Ops.go rfl (Loud.alloc zero82 rfl) ?_
    rintro _ _ ⟨b8, rfl, rfl⟩
    refine Ops.store (Stores.box 0 rfl rfl rfl size82 (one2 h129 h229) rfl rfl) ?_
    refine Ops.pure rfl (Pure.assign rfl) ?_
    refine Ops.nil ?_
    refine Run.seq ?_
    refine Run.region ?_
    refine Ops.pure rfl (Pure.ldBA 3 rfl cell35 rfl rfl rfl) ?_
    refine Ops.q rfl (QOp.call fn80 rfl (fun w hw => f_i_CountByColumns w a21 c21 x21 l21 (RdL.own 4 rfl w hw) hk21)) ?_
    refine Ops.pure rfl (Pure.move rfl) ?_
    refine Ops.pure rfl (Pure.extract rfl rfl) ?_
    refine Ops.pure rfl (Pure.extract rfl rfl) ?_
    refine Ops.pure rfl (Pure.assign rfl) ?_
    refine Ops.pure rfl (Pure.assign rfl) ?_
    refine Ops.nil ?_
    refine Run.seq ?_
    refine Run.seq ?_
    refine Run.region ?_
    refine Ops.pure rfl (Pure.move rfl) ?_
    refine Ops.pure rfl (Pure.neq rfl rfl) ?_
    refine Ops.pure rfl (Pure.move rfl) ?_
    refine Ops.guardY rfl rfl rfl (by simp) ?_
    refine Ops.pure rfl (Pure.move rfl) ?_
    refine Ops.guardY rfl rfl rfl (by simp) ?_
    refine Ops.pure rfl (Pure.neq rfl rfl) ?_
    refine Ops.pure rfl (Pure.pickF rfl (by simp) rfl) ?_
    refine Ops.pure rfl (Pure.move rfl) ?_
    refine Ops.guardY rfl rfl rfl (by simp) ?_
    refine Ops.pure rfl (Pure.move rfl) ?_
    refine Ops.guardY rfl rfl rfl (by simp) ?_
    refine Ops.pure rfl (Pure.neq rfl rfl) ?_
    refine Ops.pure rfl (Pure.pickF rfl (by simp) rfl) ?_
    refine Ops.pure rfl (Pure.move rfl) ?_
    refine Ops.guardY rfl rfl rfl (by simp) ?_
    refine Ops.pure rfl (Pure.ldBA 0 rfl cell82 rfl rfl rfl) ?_
    refine Ops.guardY rfl rfl rfl (by simp) ?_
    refine Ops.q rfl (QOp.call fn81 rfl (fun w hw => f_s_ValidJoined w vp29 vl29 (segN a21 c21) pr29 lg29 (RdL.own 1 rfl w hw) (RdL.own 2 rfl w hw) huf29 (by omega) (by omega))) ?_
    refine Ops.guardY rfl rfl rfl (by simp) ?_
    refine Ops.pure rfl (Pure.not rfl) ?_
    refine Ops.pure rfl (Pure.pickF rfl (by simp) rfl) ?_
    refine Ops.nil ?_
    refine Run.condEF rfl rfl ?_
    refine Run.skip ?_
    refine Run.seq ?_
    refine Run.region ?_
    refine Ops.pure rfl (Pure.ldBA 0 rfl cell82 rfl rfl rfl) ?_
    refine Ops.q rfl (QOp.call fn82 rfl (fun w hw => (f_i_CountGroups w vp29 vl29 (segN a21 c21) pr29 lg29 (RdL.own 1 rfl w hw) (RdL.own 2 rfl w hw) huf29 (by omega) (by omega)).cong (show _ = Value.tuple #[Value.int .i64 (cnt a21 c21 l21 : Int), .int .i64 0] by rw [show ((segN a21 c21 : Nat) : Int) - (lg29.length : Int) = (cnt a21 c21 l21 : Int) by omega]))) ?_
    refine Ops.pure rfl (Pure.move rfl) ?_
    refine Ops.pure rfl (Pure.extract rfl rfl) ?_
    refine Ops.pure rfl (Pure.extract rfl rfl) ?_
    refine Ops.pure rfl (Pure.assign rfl) ?_
    refine Ops.pure rfl (Pure.assign rfl) ?_
    refine Ops.nil ?_
    refine Run.seq ?_
    refine Run.seq ?_
    refine Run.region ?_
    refine Ops.pure rfl (Pure.move rfl) ?_
    refine Ops.pure rfl (Pure.neq rfl rfl) ?_
    refine Ops.pure rfl (Pure.move rfl) ?_
    refine Ops.guardY rfl rfl rfl (by simp) ?_
    refine Ops.pure rfl (Pure.move rfl) ?_
    refine Ops.guardY rfl rfl rfl (by simp) ?_
    refine Ops.pure rfl (Pure.move rfl) ?_
    refine Ops.guardY rfl rfl rfl (by simp) ?_
    refine Ops.pure rfl (Pure.neq rfl rfl) ?_
    refine Ops.pure rfl (Pure.pickF rfl (by simp) rfl) ?_
    refine Ops.pure rfl (Pure.move rfl) ?_
    refine Ops.guardY rfl rfl rfl (by simp) ?_
    refine Ops.pure rfl (Pure.move rfl) ?_
    refine Ops.guardY rfl rfl rfl (by simp) ?_
    refine Ops.pure rfl (Pure.move rfl) ?_
    refine Ops.guardY rfl rfl rfl (by simp) ?_
    refine Ops.pure rfl (Pure.neq rfl rfl) ?_
    refine Ops.pure rfl (Pure.pickF rfl (by simp) rfl) ?_
    refine Ops.pure rfl (Pure.move rfl) ?_
    refine Ops.guardY rfl rfl rfl (by simp) ?_
    refine Ops.pure rfl (Pure.move rfl) ?_
    refine Ops.guardY rfl rfl rfl (by simp) ?_
    refine Ops.pure rfl (Pure.ldBA 3 rfl cell35 rfl rfl rfl) ?_
    refine Ops.guardY rfl rfl rfl (by simp) ?_
    refine Ops.q rfl (QOp.call fn83 rfl (fun w hw => f_l_a2Walks w a21 c21 x21 l21 (RdL.own 4 rfl w hw) hk21)) ?_
    refine Ops.guardY rfl rfl rfl (by simp) ?_
    refine Ops.pure rfl (Pure.neq rfl rfl) ?_
    refine Ops.pure rfl (Pure.pickF rfl (by simp) rfl) ?_
    refine Ops.nil ?_
    refine Run.condEF rfl (by simp) ?_
    refine Run.skip ?_
    refine Run.seq ?_
    refine Run.seq ?_
    refine Run.region ?_
    refine Ops.pure rfl (Pure.assign rfl) ?_
    refine Ops.nil ?_
    refine Run.block ?_
    refine Run.loop (X := Nat) (fun k => [(5, .pointer (some ⟨b5, 0, none⟩)), (6, .int .i64 (cnt a21 c21 l21 : Int)), (14, .int .i64 k)]) (fun k => [.box b5 35 [.int .i64 a21, .int .i64 c21, x21], .row 2 1 x21 l21.length (ints l21)]) (fun k => k ≤ cnt a21 c21 l21) (fun k => cnt a21 c21 l21 - k) 0 ?_ ?_ ?_ ?_
    · exact Nat.zero_le _
    · exact ⟨rfl, rfl, rfl, trivial⟩
    · exact Ext.take 3 rfl (Ext.take 3 rfl (Ext.nil _))
    · intro k hinv0
      refine Run.seq ?_
      refine Run.seq ?_
      refine Run.region ?_
      refine Ops.pure rfl (Pure.move rfl) ?_
      refine Ops.pure rfl (Pure.move rfl) ?_
      refine Ops.pure rfl (Pure.lss rfl rfl) ?_
      refine Ops.nil ?_
      refine Run.cond rfl (fun c77 => ?_) (fun c77 => ?_)
      · skip
        replace c77 := dT c77
        refine Run.skip ?_
        refine Run.seq ?_
        refine Run.block ?_
        refine Run.seq ?_
        have hkc : k < cnt a21 c21 l21 := by omega
        have hck : 0 ≤ (k : Int) ∧ (k : Int) ≤ (cnt a21 c21 l21 : Int) - 1 := by omega
        have hps := ps_ok hk21 hck
        have hcl4 : k < (curL a21 c21 l21).length := hkc
        have hpz := length_pasL a21 c21 l21 ((curL a21 c21 l21).getD k [])
        have hcz := cur_len (l := l21) hs hcl4
        have hpl : (psL a21 c21 l21 k).length ≤ 1048576 := by rw [hps.2, Int.toNat_natCast]; omega
        refine Run.region ?_
        refine Ops.pure rfl (Pure.ldBA 0 rfl cell35 rfl rfl rfl) ?_
        refine Ops.pure rfl (Pure.move rfl) ?_
        refine Ops.go rfl (Loud.callR fn84 rfl (fun w hw => f_i_PassesOf w a21 c21 x21 l21 k (RdL.own 1 rfl w hw) (by omega) (by omega) (by omega) (by omega) (by omega) (by omega) (by omega))) ?_
        rintro v83 _ ⟨L83, hQ83, rfl⟩
        rw [hps.1] at hQ83
        obtain ⟨x83, rfl, rfl⟩ := hQ83
        refine Ops.pure rfl (Pure.move rfl) ?_
        refine Ops.pure rfl (Pure.extract rfl rfl) ?_
        refine Ops.pure rfl (Pure.extract rfl rfl) ?_
        refine Ops.pure rfl (Pure.assign rfl) ?_
        refine Ops.pure rfl (Pure.assign rfl) ?_
        refine Ops.nil ?_
        refine Run.seq ?_
        refine Run.region ?_
        refine Ops.pure rfl (Pure.move rfl) ?_
        refine Ops.pure rfl (Pure.neq rfl rfl) ?_
        refine Ops.pure rfl (Pure.move rfl) ?_
        refine Ops.guardY rfl rfl rfl (by simp) ?_
        refine Ops.pure rfl (Pure.move rfl) ?_
        refine Ops.guardY rfl rfl rfl (by simp) ?_
        refine Ops.q rfl (QOp.call fn85 rfl (fun w hw => (f_s_AlternatesOn w x83 (psL a21 c21 l21 k) (RdL.own 0 rfl w hw) hpl).cong (congrArg Value.bool (pass_alt hk21 hkc)))) ?_
        refine Ops.guardY rfl rfl rfl (by simp) ?_
        refine Ops.pure rfl (Pure.not rfl) ?_
        refine Ops.pure rfl (Pure.pickF rfl (by simp) rfl) ?_
        refine Ops.nil ?_
        refine Run.condEF rfl rfl ?_
        refine Run.skip ?_
        refine Run.blk ?_
        refine Run.region ?_
        refine Ops.pure rfl (Pure.move rfl) ?_
        refine Ops.pure rfl (Pure.add rfl rfl (by omega) (by omega)) ?_
        refine Ops.pure rfl (Pure.assign rfl) ?_
        refine Ops.nil ?_
        refine Run.asrt ?_
        exact ⟨k + 1, ⟨by omega, by omega⟩, ⟨rfl, rfl, rfl, trivial⟩, Ext.right [_] _⟩
      · skip
        replace c77 := dF c77
        refine Run.exit rfl ?_
        refine Run.seq ?_
        refine Run.region ?_
        refine Ops.pure rfl (Pure.assign rfl) ?_
        refine Ops.nil ?_
        refine Run.ret1 rfl rfl ?_
        rfl

end Go.Proofs.Ytmfinopdokkjcaa
