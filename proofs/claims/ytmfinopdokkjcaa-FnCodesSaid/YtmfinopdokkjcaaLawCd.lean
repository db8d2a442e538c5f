/- Contracts of functions, printed by program from annotations. -/
import Derived.Test.YtmfinopdokkjcaaCvR
namespace Go.Proofs.Ytmfinopdokkjcaa
open Go Go.AW Go.RowKit
set_option linter.unusedVariables false
set_option linter.unusedSimpArgs false

set_option maxRecDepth 4000 in
/-- spec.CountBreaks -/
theorem f_s_CountBreaks (w : World) (a : Int) (b : Int) (v : Value) (l : List Int) (hv : Rd w v 1 l.length (ints l)) (hl : l.length ≤ 1073741824) (hk : okP a b l = true) : RetV Try.prog 21 [.agg #[.int .i64 a, .int .i64 b, v], .int .i64 0] w (.tuple #[.int .i64 (zlen l l.length : Int), .int .i64 0]) := by
  have hs := okP_size hk
  obtain ⟨hs1, hs2, hs3, hs4⟩ := id hs
  refine Ret.enter Try.func21 rfl Try.ntmps21 rfl ?_
  refine Run.seq ?_
  refine Run.region ?_
  refine Ops.go rfl (Loud.box rfl rfl) ?_
  rintro _ _ ⟨b2, rfl, rfl⟩
  refine Ops.pure rfl (Pure.assign rfl) ?_
  refine Ops.pure rfl (Pure.assign rfl) ?_
  refine Ops.nil ?_
  refine Run.seq ?_
  refine Run.seq ?_
  refine Run.region ?_
  refine Ops.q rfl (QOp.call fn99 rfl (fun w hw => f_s_l02Ok w _ _ _ _ _ (by exact RdL.boxM 0 rfl rfl w hw) (by exact RdL.old (by assumption) w hw) (by assumption) (by omega) (by omega) (by omega) (by omega))) ?_
  refine Ops.pure rfl (Pure.not rfl) ?_
  refine Ops.nil ?_
  refine Run.condEF rfl ((by rw [hk]; rfl)) ?_
  refine Run.skip ?_
  refine Run.seq ?_
  refine Run.seq ?_
  refine Run.region ?_
  refine Ops.pure rfl (Pure.move rfl) ?_
  refine Ops.q rfl (QOp.call fn100 rfl (fun w hw => f_s_l02Kind w _)) ?_
  refine Ops.pure rfl (Pure.not rfl) ?_
  refine Ops.nil ?_
  refine Run.condEF rfl ((by decide)) ?_
  refine Run.skip ?_
  refine Run.seq ?_
  refine Run.region ?_
  refine Ops.pure rfl (Pure.assign rfl) ?_
  refine Ops.nil ?_
  refine Run.seq ?_
  refine Run.seq ?_
  refine Run.region ?_
  refine Ops.pure rfl (Pure.assign rfl) ?_
  refine Ops.nil ?_
  refine Run.block ?_
  refine Run.loop (X := Nat) (fun k => [(1, .int .i64 0), (2, .pointer (some ⟨b2, 0, none⟩)), (6, .int .i64 (zlen l k : Int)), (7, .int .i64 k)]) (fun k => [.box b2 35 [.int .i64 a, .int .i64 b, v]]) (fun k => k ≤ l.length) (fun k => l.length - k) 0 ?_ ?_ ?_ ?_
  · exact Nat.zero_le _
  · exact ⟨rfl, rfl, rfl, rfl, trivial⟩
  · exact Ext.refl _
  · intro k hinv0
    have hzl := zlen_le l k
    refine Run.seq ?_
    refine Run.seq ?_
    refine Run.region ?_
    refine Ops.pure rfl (Pure.move rfl) ?_
    refine Ops.pure rfl (Pure.fieldAddrB fld35_2 rfl) ?_
    refine Ops.pure rfl (Pure.ldB 0 rfl cell32 rfl rfl) ?_
    refine Ops.pure rfl (Pure.len sl32 (RdL.old hv) rfl) ?_
    refine Ops.pure rfl (Pure.lss rfl rfl) ?_
    refine Ops.nil ?_
    refine Run.cond rfl (fun c17 => ?_) (fun c17 => ?_)
    · skip
      replace c17 := dT c17
      refine Run.skip ?_
      refine Run.seq ?_
      refine Run.block ?_
      refine Run.seq ?_
      refine Run.region ?_
      refine Ops.pure rfl (Pure.fieldAddrB fld35_2 rfl) ?_
      refine Ops.pure rfl (Pure.ldB 0 rfl cell32 rfl rfl) ?_
      refine Ops.pure rfl (Pure.move rfl) ?_
      refine Ops.pure rfl (Pure.idx1N sl32 (RdL.old hv) rfl rfl (by first | assumption | omega | (simp; omega))) ?_
      refine Ops.pure rfl (Pure.ld cell2 rfl (RdL.old hv) (by first | exact ints_get (by omega) | exact bools_get (by omega) | exact strs_get (by omega) | exact vals_get (by first | omega | (simp; omega)))) ?_
      refine Ops.pure rfl (Pure.move rfl) ?_
      refine Ops.pure rfl (Pure.eql rfl rfl) ?_
      refine Ops.nil ?_
      refine Run.cond rfl (fun c26 => ?_) (fun c26 => ?_)
      · skip
        replace c26 := dT c26
        refine Run.region ?_
        refine Ops.pure rfl (Pure.move rfl) ?_
        refine Ops.pure rfl (Pure.add rfl rfl (by omega) (by omega)) ?_
        refine Ops.pure rfl (Pure.assign rfl) ?_
        refine Ops.nil ?_
        refine Run.blk ?_
        refine Run.region ?_
        refine Ops.pure rfl (Pure.move rfl) ?_
        refine Ops.pure rfl (Pure.add rfl rfl (by omega) (by omega)) ?_
        refine Ops.pure rfl (Pure.assign rfl) ?_
        refine Ops.nil ?_
        refine Run.asrt ?_
        first
          | exact ⟨k + 1, ⟨by omega, by omega⟩, ⟨rfl, rfl, by rw [zlen_yes c26]; rfl, rfl, trivial⟩, Ext.refl _⟩
          | exact ⟨k + 1, ⟨by omega, by omega⟩, ⟨rfl, rfl, by rw [zlen_no c26]; rfl, rfl, trivial⟩, Ext.refl _⟩
      · skip
        replace c26 := dF c26
        refine Run.skip ?_
        refine Run.blk ?_
        refine Run.region ?_
        refine Ops.pure rfl (Pure.move rfl) ?_
        refine Ops.pure rfl (Pure.add rfl rfl (by omega) (by omega)) ?_
        refine Ops.pure rfl (Pure.assign rfl) ?_
        refine Ops.nil ?_
        refine Run.asrt ?_
        first
          | exact ⟨k + 1, ⟨by omega, by omega⟩, ⟨rfl, rfl, by rw [zlen_yes c26]; rfl, rfl, trivial⟩, Ext.refl _⟩
          | exact ⟨k + 1, ⟨by omega, by omega⟩, ⟨rfl, rfl, by rw [zlen_no c26]; rfl, rfl, trivial⟩, Ext.refl _⟩
    · skip
      replace c17 := dF c17
      refine Run.exit rfl ?_
      refine Run.seq ?_
      have e : k = l.length := by omega
      subst e
      refine Run.region ?_
      refine Ops.pure rfl (Pure.move rfl) ?_
      refine Ops.pure rfl (Pure.assign rfl) ?_
      refine Ops.pure rfl (Pure.assign rfl) ?_
      refine Ops.nil ?_
      refine Run.ret2 rfl rfl rfl ?_
      rfl

set_option maxRecDepth 4000 in
/-- laws.a2Has -/
theorem f_l_a2Has (w : World) (v : Value) (l : List Int) (x : Int) (hv : Rd w v 1 l.length (ints l)) (hl : l.length ≤ 1073741824) : RetV Try.prog 28 [v, .int .i64 x] w (.bool (decide (x ∈ l))) := by
  refine Ret.enter Try.func28 rfl Try.ntmps28 rfl ?_
  refine Run.seq ?_
  refine Run.region ?_
  refine Ops.pure rfl (Pure.assign rfl) ?_
  refine Ops.nil ?_
  refine Run.seq ?_
  refine Run.seq ?_
  refine Run.region ?_
  refine Ops.pure rfl (Pure.assign rfl) ?_
  refine Ops.nil ?_
  refine Run.block ?_
  refine Run.loop (X := Nat) (fun k => [(0, v), (1, .int .i64 x), (5, .int .i64 k)]) (fun k => []) (fun k => k ≤ l.length ∧ ∀ j, j < k → l.getD j 0 ≠ x) (fun k => l.length - k) 0 ?_ ?_ ?_ ?_
  · exact ⟨by omega, by omega⟩
  · exact ⟨rfl, rfl, rfl, trivial⟩
  · exact Ext.refl _
  · intro k hinv0
    refine Run.seq ?_
    refine Run.seq ?_
    refine Run.region ?_
    refine Ops.pure rfl (Pure.move rfl) ?_
    refine Ops.pure rfl (Pure.move rfl) ?_
    refine Ops.pure rfl (Pure.len sl32 (RdL.old hv) rfl) ?_
    refine Ops.pure rfl (Pure.lss rfl rfl) ?_
    refine Ops.nil ?_
    refine Run.cond rfl (fun c9 => ?_) (fun c9 => ?_)
    · skip
      replace c9 := dT c9
      refine Run.skip ?_
      refine Run.seq ?_
      refine Run.block ?_
      refine Run.seq ?_
      refine Run.region ?_
      refine Ops.pure rfl (Pure.move rfl) ?_
      refine Ops.pure rfl (Pure.move rfl) ?_
      refine Ops.pure rfl (Pure.idx1N sl32 (RdL.old hv) rfl rfl (by first | assumption | omega | (simp; omega))) ?_
      refine Ops.pure rfl (Pure.ld cell2 rfl (RdL.old hv) (by first | exact ints_get (by omega) | exact bools_get (by omega) | exact strs_get (by omega) | exact vals_get (by first | omega | (simp; omega)))) ?_
      refine Ops.pure rfl (Pure.move rfl) ?_
      refine Ops.pure rfl (Pure.eql rfl rfl) ?_
      refine Ops.nil ?_
      refine Run.cond rfl (fun c17 => ?_) (fun c17 => ?_)
      · skip
        replace c17 := dT c17
        refine Run.seq ?_
        refine Run.region ?_
        refine Ops.pure rfl (Pure.assign rfl) ?_
        refine Ops.nil ?_
        refine Run.ret1 rfl rfl ?_
        rw [decide_eq_true (mem_of_getD (by omega) c17)]
      · skip
        replace c17 := dF c17
        refine Run.skip ?_
        refine Run.blk ?_
        refine Run.region ?_
        refine Ops.pure rfl (Pure.move rfl) ?_
        refine Ops.pure rfl (Pure.add rfl rfl (by omega) (by omega)) ?_
        refine Ops.pure rfl (Pure.assign rfl) ?_
        refine Ops.nil ?_
        refine Run.asrt ?_
        exact ⟨k + 1, ⟨⟨by omega, fun j hj => step_lt (p := fun j => l.getD j 0 ≠ x) hj hinv0.2 c17⟩, by omega⟩, ⟨rfl, rfl, rfl, trivial⟩, Ext.nil _⟩
    · skip
      replace c9 := dF c9
      refine Run.exit rfl ?_
      refine Run.seq ?_
      refine Run.region ?_
      refine Ops.pure rfl (Pure.assign rfl) ?_
      refine Ops.nil ?_
      refine Run.ret1 rfl rfl ?_
      rw [decide_eq_false (not_mem_of_getD (k := k) (by omega) hinv0.2)]

theorem Ext.turn2 (A B : List Ent) : Ext (B ++ A) (A ++ B) := ⟨[], by rw [List.append_nil]; exact List.perm_append_comm⟩

set_option maxRecDepth 4000 in
set_option maxHeartbeats 1000000 in
/-- laws.FnCodes -/
theorem f_l_FnCodes (w : World) (vc : Value) (co : List Int) (vd : Value) (mo : List Int) (hc : Rd w vc 1 co.length (AW.bytes co)) (hcl : co.length ≤ 9223372036854775807) (hb : ∀ x ∈ co, 0 ≤ x ∧ x ≤ 255) (hd : Rd w vd 1 mo.length (AW.bytes mo)) (hdl : mo.length ≤ 9223372036854775807) (hbd : ∀ x ∈ mo, 0 ≤ x ∧ x ≤ 255) : RetV Try.prog 4 [vc, vd] w (.bool true) := by
  refine Ret.enter Try.func4 rfl Try.ntmps4 rfl ?_
  refine Run.seq ?_
  refine Run.region ?_
  refine Ops.pure rfl (Pure.assign rfl) ?_
  refine Ops.nil ?_
  refine Run.seq ?_
  refine Run.seq ?_
  refine Run.region ?_
  refine Ops.pure rfl (Pure.move rfl) ?_
  refine Ops.pure rfl (Pure.move rfl) ?_
  refine Ops.q rfl (QOp.call fn11 rfl (fun w hw => f_l_a2Long w vc _ _ vd _ _ (RdL.old hc w hw) (RdL.old hd w hw))) ?_
  refine Ops.nil ?_
  refine Run.cond rfl (fun c23 => ?_) (fun c23 => ?_)
  · skip
    replace c23 := dT c23
    refine Run.seq ?_
    refine Run.region ?_
    refine Ops.pure rfl (Pure.assign rfl) ?_
    refine Ops.nil ?_
    refine Run.ret1 rfl rfl ?_
    rfl
  · skip
    replace c23 := dF c23
    have hcl2 : co.length ≤ 1000000000 := by omega
    have hdl2 : mo.length ≤ 1000000000 := by omega
    refine Run.skip ?_
    refine Run.seq ?_
    refine Run.region ?_
    refine Ops.pure rfl (Pure.move rfl) ?_
    refine Ops.go rfl (Loud.callR fn19 rfl (fun w hw => f_s_A2Panel w vc co (RdL.old hc w hw) hb hcl2)) ?_
    rintro v25 _ ⟨L25, hQ25, rfl⟩
    obtain ⟨a25, c25, l25, x25, ha25, hA25, hc25, hC25, hk25, h25, rfl, rfl⟩ := hQ25
    refine Ops.go rfl (Loud.alloc zero35 rfl) ?_
    rintro _ _ ⟨b5, rfl, rfl⟩
    refine Ops.store (Stores.box 0 rfl rfl rfl size35 (one3 h25) rfl rfl) ?_
    refine Ops.nil ?_
    refine Run.seq ?_
    have hn25 := cnt_5 (l := l25) (okP_size hk25) hA25 hC25
    have hli := okP_inn hk25
    have hib := (inn_eq (okP_size hk25)).2.1
    have hco := co_ok hk25 hn25
    obtain ⟨hva, hta⟩ := cod_valid hk25 hn25
    have hal := cod_alt hk25 hn25
    have hzz := validB_sz hva
    have hzl := zlen_le l25 l25.length
    refine Run.region ?_
    refine Ops.pure rfl (Pure.ldBA 0 rfl cell35 rfl rfl rfl) ?_
    refine Ops.go rfl (Loud.callR fn20 rfl (fun w hw => f_i_CodeOf w a25 c25 x25 l25 (RdL.own 1 rfl w hw) (by omega) (by omega) (by omega) (by omega) (by omega))) ?_
    rintro v28 _ ⟨L28, hQ28, rfl⟩
    rw [hco.1, hco.2] at hQ28
    obtain ⟨x28, us28, hul28, rfl, rfl⟩ := hQ28
    refine Ops.pure rfl (Pure.move rfl) ?_
    refine Ops.pure rfl (Pure.extract rfl rfl) ?_
    refine Ops.pure rfl (Pure.extract rfl rfl) ?_
    refine Ops.pure rfl (Pure.assign rfl) ?_
    refine Ops.pure rfl (Pure.assign rfl) ?_
    refine Ops.nil ?_
    refine Run.seq ?_
    refine Run.ext_ (Ext.turn2 _ _) ?_
    refine Run.region ?_
    refine Ops.pure rfl (Pure.ldBA 0 rfl cell35 rfl rfl rfl) ?_
    refine Ops.q rfl (QOp.call fn21 rfl (fun w hw => f_s_CountBreaks w a25 c25 x25 l25 (RdL.own 1 rfl w hw) (by omega) hk25)) ?_
    refine Ops.pure rfl (Pure.move rfl) ?_
    refine Ops.pure rfl (Pure.extract rfl rfl) ?_
    refine Ops.pure rfl (Pure.extract rfl rfl) ?_
    refine Ops.pure rfl (Pure.assign rfl) ?_
    refine Ops.pure rfl (Pure.assign rfl) ?_
    refine Ops.nil ?_
    refine Run.seq ?_
    refine Run.region ?_
    refine Ops.pure rfl (Pure.move rfl) ?_
    refine Ops.q rfl (QOp.call fn22 rfl (fun w hw => (f_i_CountCoded w x28 (codL a25 c25 l25 (cnt a25 c25 l25)) (RdSS.own (vs := us28) hw hul28 (by repeat (first | exact Ext.left _ _ | exact Ext.refl _ | refine Ext.trans ?_ (Ext.right _ _)))) (by omega)).cong (show _ = Value.tuple #[.int .i64 ((zlen l25 l25.length) : Int), .int .i64 0] by rw [hva, if_pos rfl, if_pos rfl, hta, Nat.mul_div_cancel_left _ (by decide : 0 < 2)]))) ?_
    refine Ops.pure rfl (Pure.move rfl) ?_
    refine Ops.pure rfl (Pure.extract rfl rfl) ?_
    refine Ops.pure rfl (Pure.extract rfl rfl) ?_
    refine Ops.pure rfl (Pure.assign rfl) ?_
    refine Ops.pure rfl (Pure.assign rfl) ?_
    refine Ops.nil ?_
    refine Run.seq ?_
    refine Run.seq ?_
    refine Run.region ?_
    refine Ops.pure rfl (Pure.move rfl) ?_
    refine Ops.pure rfl (Pure.neq rfl rfl) ?_
    refine Ops.pure rfl (Pure.move rfl) ?_
    refine Ops.guardY rfl rfl rfl (by simp) ?_
    refine Ops.pure rfl (Pure.move rfl) ?_
    refine Ops.guardY rfl rfl rfl (by simp) ?_
    refine Ops.pure rfl (Pure.neq rfl rfl) ?_
    refine Ops.pure rfl (Pure.pickF rfl (by simp) rfl) ?_
    refine Ops.pure rfl (Pure.move rfl) ?_
    refine Ops.guardY rfl rfl rfl (by simp) ?_
    refine Ops.pure rfl (Pure.move rfl) ?_
    refine Ops.guardY rfl rfl rfl (by simp) ?_
    refine Ops.pure rfl (Pure.move rfl) ?_
    refine Ops.guardY rfl rfl rfl (by simp) ?_
    refine Ops.pure rfl (Pure.neq rfl rfl) ?_
    refine Ops.pure rfl (Pure.pickF rfl (by simp) rfl) ?_
    refine Ops.pure rfl (Pure.move rfl) ?_
    refine Ops.guardY rfl rfl rfl (by simp) ?_
    refine Ops.pure rfl (Pure.move rfl) ?_
    refine Ops.guardY rfl rfl rfl (by simp) ?_
    refine Ops.q rfl (QOp.call fn23 rfl (fun w hw => (f_i_ValidCode w x28 (codL a25 c25 l25 (cnt a25 c25 l25)) (RdSS.own (vs := us28) hw hul28 (by repeat (first | exact Ext.left _ _ | exact Ext.refl _ | refine Ext.trans ?_ (Ext.right _ _)))) (by omega)).cong (show _ = Value.bool true by rw [hva]))) ?_
    refine Ops.guardY rfl rfl rfl (by simp) ?_
    refine Ops.pure rfl (Pure.not rfl) ?_
    refine Ops.pure rfl (Pure.pickF rfl (by simp) rfl) ?_
    refine Ops.pure rfl (Pure.move rfl) ?_
    refine Ops.guardY rfl rfl rfl rfl ?_
    refine Ops.pure rfl (Pure.move rfl) ?_
    refine Ops.guardY rfl rfl rfl rfl ?_
    refine Ops.q rfl (QOp.call fn24 rfl (fun w hw => (f_i_AlternatingCode w x28 (codL a25 c25 l25 (cnt a25 c25 l25)) (RdSS.own (vs := us28) hw hul28 (by repeat (first | exact Ext.left _ _ | exact Ext.refl _ | refine Ext.trans ?_ (Ext.right _ _)))) (by omega)).cong (show _ = Value.bool true by rw [hal]))) ?_
    refine Ops.guardY rfl rfl rfl rfl ?_
    refine Ops.pure rfl (Pure.not rfl) ?_
    refine Ops.pure rfl (Pure.pickF rfl rfl rfl) ?_
    refine Ops.nil ?_
    refine Run.condEF rfl rfl ?_
    refine Run.skip ?_
    refine Run.seq ?_
    refine Run.region ?_
    refine Ops.pure rfl (Pure.move rfl) ?_
    refine Ops.go rfl (Loud.callR fn12 rfl (fun w hw => f_s_A2Code w vd mo (RdL.old hd w hw) hbd hdl2)) ?_
    rintro v63 _ ⟨L63, hQ63, rfl⟩
    obtain ⟨us63, cs63, hul63, hcv63, rfl⟩ := hQ63
    refine Ops.pure rfl (Pure.assign rfl) ?_
    refine Ops.nil ?_
    refine Run.seq ?_
    have hz63 := validB_sz hcv63
    have hrt := rc_round hcv63
    refine Run.region ?_
    refine Ops.pure rfl (Pure.move rfl) ?_
    refine Ops.q rfl (QOp.call fn26 rfl (fun w hw => f_i_CodeText w v63 cs63 (RdSS.own (vs := us63) hw hul63 (by repeat (first | exact Ext.left _ _ | exact Ext.refl _ | refine Ext.trans ?_ (Ext.right _ _)))) (by omega))) ?_
    refine Ops.go rfl (Loud.callR fn25 rfl (fun w hw => f_i_ReadCode w (codeT cs63) (codeT_size hcv63))) ?_
    rintro v67 _ ⟨L67, hQ67, rfl⟩
    rw [hrt.1, hrt.2] at hQ67
    obtain ⟨x67, us67, hul67, rfl, rfl⟩ := hQ67
    refine Ops.pure rfl (Pure.move rfl) ?_
    refine Ops.pure rfl (Pure.extract rfl rfl) ?_
    refine Ops.pure rfl (Pure.extract rfl rfl) ?_
    refine Ops.pure rfl (Pure.assign rfl) ?_
    refine Ops.pure rfl (Pure.assign rfl) ?_
    refine Ops.nil ?_
    refine Run.seq ?_
    refine Run.seq ?_
    refine Run.region ?_
    refine Ops.pure rfl (Pure.move rfl) ?_
    refine Ops.pure rfl (Pure.not rfl) ?_
    refine Ops.pure rfl (Pure.move rfl) ?_
    refine Ops.guardY rfl rfl rfl rfl ?_
    refine Ops.pure rfl (Pure.move rfl) ?_
    refine Ops.guardY rfl rfl rfl rfl ?_
    refine Ops.pure rfl (Pure.move rfl) ?_
    refine Ops.guardY rfl rfl rfl rfl ?_
    refine Ops.q rfl (QOp.call fn15 rfl (fun w hw => (f_s_SameCode w x67 v63 cs63 cs63 (RdSS.own (vs := us67) hw hul67 (by repeat (first | exact Ext.left _ _ | exact Ext.refl _ | refine Ext.trans ?_ (Ext.right _ _)))) (RdSS.own (vs := us63) hw hul63 (by repeat (first | exact Ext.left _ _ | exact Ext.refl _ | refine Ext.trans ?_ (Ext.right _ _)))) (by omega) (by omega)).cong (show _ = Value.bool true by simp))) ?_
    refine Ops.guardY rfl rfl rfl rfl ?_
    refine Ops.pure rfl (Pure.not rfl) ?_
    refine Ops.pure rfl (Pure.pickF rfl rfl rfl) ?_
    refine Ops.nil ?_
    refine Run.condEF rfl rfl ?_
    refine Run.skip ?_
    refine Run.seq ?_
    refine Run.region ?_
    refine Ops.pure rfl (Pure.move rfl) ?_
    refine Ops.q rfl (QOp.call fn22 rfl (fun w hw => (f_i_CountCoded w v63 cs63 (RdSS.own (vs := us63) hw hul63 (by repeat (first | exact Ext.left _ _ | exact Ext.refl _ | refine Ext.trans ?_ (Ext.right _ _)))) (by omega)).cong (show _ = Value.tuple #[.int .i64 ((tot cs63 / 2 : Nat) : Int), .int .i64 0] by rw [hcv63, if_pos rfl, if_pos rfl]))) ?_
    refine Ops.pure rfl (Pure.move rfl) ?_
    refine Ops.pure rfl (Pure.extract rfl rfl) ?_
    refine Ops.pure rfl (Pure.extract rfl rfl) ?_
    refine Ops.pure rfl (Pure.assign rfl) ?_
    refine Ops.pure rfl (Pure.assign rfl) ?_
    refine Ops.nil ?_
    refine Run.seq ?_
    refine Run.seq ?_
    refine Run.region ?_
    refine Ops.pure rfl (Pure.move rfl) ?_
    refine Ops.pure rfl (Pure.neq rfl rfl) ?_
    refine Ops.nil ?_
    refine Run.condEF rfl (by simp) ?_
    refine Run.skip ?_
    refine Run.seq ?_
    refine Run.seq ?_
    refine Run.region ?_
    refine Ops.pure rfl (Pure.assign rfl) ?_
    refine Ops.nil ?_
    refine Run.block ?_
    refine Run.loop (X := Nat) (fun k => [(12, v63), (15, .int .i64 ((tot cs63 / 2 : Nat) : Int)), (17, .int .i64 k)]) (fun k => ssE v63 us63 cs63) (fun k => k ≤ tot cs63 / 2) (fun k => tot cs63 / 2 - k) 0 ?_ ?_ ?_ ?_
    · exact Nat.zero_le _
    · exact ⟨rfl, rfl, rfl, trivial⟩
    · exact (by repeat (first | exact Ext.left _ _ | exact Ext.refl _ | refine Ext.trans ?_ (Ext.right _ _)))
    · intro k hinv0
      refine Run.seq ?_
      refine Run.seq ?_
      refine Run.region ?_
      refine Ops.pure rfl (Pure.move rfl) ?_
      refine Ops.pure rfl (Pure.move rfl) ?_
      refine Ops.pure rfl (Pure.lss rfl rfl) ?_
      refine Ops.nil ?_
      refine Run.cond rfl (fun c87 => ?_) (fun c87 => ?_)
      · skip
        replace c87 := dT c87
        refine Run.skip ?_
        refine Run.seq ?_
        refine Run.block ?_
        refine Run.seq ?_
        obtain ⟨i, j, hat, hi, hj, hmi, hmj⟩ := at_valid hcv63 (show k < tot cs63 / 2 by omega)
        have hli2 := len_le_tot (ls := cs63) hi
        have hlj2 := len_le_tot (ls := cs63) hj
        refine Run.region ?_
        refine Ops.pure rfl (Pure.move rfl) ?_
        refine Ops.pure rfl (Pure.move rfl) ?_
        refine Ops.q rfl (QOp.call fn27 rfl (fun w hw => (f_i_CurvesAt w v63 cs63 (k : Int) (RdSS.own (vs := us63) hw hul63 (by repeat (first | exact Ext.left _ _ | exact Ext.refl _ | refine Ext.trans ?_ (Ext.right _ _)))) (by omega)).cong (show _ = Value.tuple #[.int .i64 (i : Int), .int .i64 (j : Int), .int .i64 0] by rw [hat]))) ?_
        refine Ops.pure rfl (Pure.move rfl) ?_
        refine Ops.pure rfl (Pure.extract rfl rfl) ?_
        refine Ops.pure rfl (Pure.extract rfl rfl) ?_
        refine Ops.pure rfl (Pure.extract rfl rfl) ?_
        refine Ops.pure rfl (Pure.assign rfl) ?_
        refine Ops.pure rfl (Pure.assign rfl) ?_
        refine Ops.pure rfl (Pure.assign rfl) ?_
        refine Ops.nil ?_
        refine Run.seq ?_
        refine Run.region ?_
        refine Ops.pure rfl (Pure.move rfl) ?_
        refine Ops.pure rfl (Pure.neq rfl rfl) ?_
        refine Ops.pure rfl (Pure.move rfl) ?_
        refine Ops.guardY rfl rfl rfl (by simp) ?_
        refine Ops.pure rfl (Pure.move rfl) ?_
        refine Ops.guardY rfl rfl rfl (by simp) ?_
        refine Ops.pure rfl (Pure.lss rfl rfl) ?_
        refine Ops.pure rfl (Pure.pickF rfl (by simp) rfl) ?_
        refine Ops.pure rfl (Pure.move rfl) ?_
        refine Ops.guardY rfl rfl rfl (decide_eq_false (by omega)) ?_
        refine Ops.pure rfl (Pure.move rfl) ?_
        refine Ops.guardY rfl rfl rfl (decide_eq_false (by omega)) ?_
        refine Ops.pure rfl (Pure.move rfl) ?_
        refine Ops.guardY rfl rfl rfl (decide_eq_false (by omega)) ?_
        refine Ops.pure rfl (Pure.len sl24 (RdL.own 0 rfl) rfl) ?_
        refine Ops.guardY rfl rfl rfl (decide_eq_false (by omega)) ?_
        refine Ops.pure rfl (Pure.geq rfl rfl) ?_
        refine Ops.pure rfl (Pure.pickF rfl (decide_eq_false (by omega)) rfl) ?_
        refine Ops.pure rfl (Pure.move rfl) ?_
        refine Ops.guardY rfl rfl rfl (decide_eq_false (by omega)) ?_
        refine Ops.pure rfl (Pure.move rfl) ?_
        refine Ops.guardY rfl rfl rfl (decide_eq_false (by omega)) ?_
        refine Ops.pure rfl (Pure.lss rfl rfl) ?_
        refine Ops.pure rfl (Pure.pickF rfl (decide_eq_false (by omega)) rfl) ?_
        refine Ops.pure rfl (Pure.move rfl) ?_
        refine Ops.guardY rfl rfl rfl (decide_eq_false (by omega)) ?_
        refine Ops.pure rfl (Pure.move rfl) ?_
        refine Ops.guardY rfl rfl rfl (decide_eq_false (by omega)) ?_
        refine Ops.pure rfl (Pure.move rfl) ?_
        refine Ops.guardY rfl rfl rfl (decide_eq_false (by omega)) ?_
        refine Ops.pure rfl (Pure.len sl24 (RdL.own 0 rfl) rfl) ?_
        refine Ops.guardY rfl rfl rfl (decide_eq_false (by omega)) ?_
        refine Ops.pure rfl (Pure.geq rfl rfl) ?_
        refine Ops.pure rfl (Pure.pickF rfl (decide_eq_false (by omega)) rfl) ?_
        refine Ops.pure rfl (Pure.move rfl) ?_
        refine Ops.guardY rfl rfl rfl (decide_eq_false (by omega)) ?_
        refine Ops.pure rfl (Pure.move rfl) ?_
        refine Ops.guardY rfl rfl rfl (decide_eq_false (by omega)) ?_
        refine Ops.pure rfl (Pure.move rfl) ?_
        refine Ops.guardY rfl rfl rfl (decide_eq_false (by omega)) ?_
        refine Ops.pure rfl (Pure.idx1N sl24 (RdL.own 0 rfl) rfl rfl (by first | assumption | omega | (simp; omega))) ?_
        refine Ops.guardY rfl rfl rfl (decide_eq_false (by omega)) ?_
        refine Ops.pure rfl (Pure.ld cell32 rfl (RdL.own 0 rfl) (by first | exact ints_get (by omega) | exact bools_get (by omega) | exact strs_get (by omega) | exact vals_get (by first | omega | (simp; omega)))) ?_
        refine Ops.guardY rfl rfl rfl (decide_eq_false (by omega)) ?_
        refine Ops.pure rfl (Pure.move rfl) ?_
        refine Ops.guardY rfl rfl rfl (decide_eq_false (by omega)) ?_
        refine Ops.pure rfl (Pure.add rfl rfl (by omega) (by omega)) ?_
        refine Ops.guardY rfl rfl rfl (decide_eq_false (by omega)) ?_
        refine Ops.q rfl (QOp.call fn28 rfl (fun w hw => (f_l_a2Has w (us63.getD i undef) (cs63.getD i []) ((k : Int) + 1) (RdL.mem (List.mem_cons_of_mem _ (inner_mem hul63 hi)) w hw) (by omega)).cong (show _ = Value.bool true by rw [decide_eq_true hmi]))) ?_
        refine Ops.guardY rfl rfl rfl (decide_eq_false (by omega)) ?_
        refine Ops.pure rfl (Pure.not rfl) ?_
        refine Ops.pure rfl (Pure.pickF rfl (decide_eq_false (by omega)) rfl) ?_
        refine Ops.pure rfl (Pure.move rfl) ?_
        refine Ops.guardY rfl rfl rfl rfl ?_
        refine Ops.pure rfl (Pure.move rfl) ?_
        refine Ops.guardY rfl rfl rfl rfl ?_
        refine Ops.pure rfl (Pure.move rfl) ?_
        refine Ops.guardY rfl rfl rfl rfl ?_
        refine Ops.pure rfl (Pure.idx1N sl24 (RdL.own 0 rfl) rfl rfl (by first | assumption | omega | (simp; omega))) ?_
        refine Ops.guardY rfl rfl rfl rfl ?_
        refine Ops.pure rfl (Pure.ld cell32 rfl (RdL.own 0 rfl) (by first | exact ints_get (by omega) | exact bools_get (by omega) | exact strs_get (by omega) | exact vals_get (by first | omega | (simp; omega)))) ?_
        refine Ops.guardY rfl rfl rfl rfl ?_
        refine Ops.pure rfl (Pure.move rfl) ?_
        refine Ops.guardY rfl rfl rfl rfl ?_
        refine Ops.pure rfl (Pure.neg rfl (by omega) (by omega)) ?_
        refine Ops.guardY rfl rfl rfl rfl ?_
        refine Ops.pure rfl (Pure.sub rfl rfl (by omega) (by omega)) ?_
        refine Ops.guardY rfl rfl rfl rfl ?_
        refine Ops.q rfl (QOp.call fn28 rfl (fun w hw => (f_l_a2Has w (us63.getD j undef) (cs63.getD j []) (-(k : Int) - 1) (RdL.mem (List.mem_cons_of_mem _ (inner_mem hul63 hj)) w hw) (by omega)).cong (show _ = Value.bool true by rw [decide_eq_true hmj]))) ?_
        refine Ops.guardY rfl rfl rfl rfl ?_
        refine Ops.pure rfl (Pure.not rfl) ?_
        refine Ops.pure rfl (Pure.pickF rfl rfl rfl) ?_
        refine Ops.nil ?_
        refine Run.condEF rfl rfl ?_
        refine Run.skip ?_
        refine Run.blk ?_
        refine Run.region ?_
        refine Ops.pure rfl (Pure.move rfl) ?_
        refine Ops.pure rfl (Pure.add rfl rfl (by omega) (by omega)) ?_
        refine Ops.pure rfl (Pure.assign rfl) ?_
        refine Ops.nil ?_
        refine Run.asrt ?_
        exact ⟨k + 1, ⟨by omega, by omega⟩, ⟨rfl, rfl, rfl, trivial⟩, Ext.refl _⟩
      · skip
        replace c87 := dF c87
        refine Run.exit rfl ?_
        refine Run.seq ?_
        refine Run.region ?_
        refine Ops.pure rfl (Pure.assign rfl) ?_
        refine Ops.nil ?_
        refine Run.ret1 rfl rfl ?_
        rfl

end Go.Proofs.Ytmfinopdokkjcaa
