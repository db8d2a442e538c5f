/- Contracts of functions, printed by program from annotations. -/
import Derived.Test.YtmfinopdokkjcaaL14
namespace Go.Proofs.Ytmfinopdokkjcaa
open Go Go.AW Go.RowKit
set_option linter.unusedVariables false
set_option linter.unusedSimpArgs false

theorem Ext.pre {A B L : List Ent} (h : Ext B L) : Ext (A ++ B) (A ++ L) := by
  obtain ⟨r, hr⟩ := h
  exact ⟨r, by rw [List.append_assoc]; exact List.Perm.append_left A hr⟩

set_option maxRecDepth 4000 in
set_option maxHeartbeats 1000000 in
/-- laws.FnTurnedCodes -/
theorem f_l_FnTurnedCodes (w : World) (vc : Value) (co : List Int) (vd : Value) (mo : List Int) (hc : Rd w vc 1 co.length (AW.bytes co)) (hcl : co.length ≤ 9223372036854775807) (hb : ∀ x ∈ co, 0 ≤ x ∧ x ≤ 255) (hd : Rd w vd 1 mo.length (AW.bytes mo)) (hdl : mo.length ≤ 9223372036854775807) (hbd : ∀ x ∈ mo, 0 ≤ x ∧ x ≤ 255) : RetV Try.prog 3 [vc, vd] w (.bool true) := by
  refine Ret.enter Try.func3 rfl Try.ntmps3 rfl ?_
  refine Run.seq ?_
  refine Run.region ?_
  refine Ops.pure rfl (Pure.assign rfl) ?_
  refine Ops.nil ?_
  refine Run.seq ?_
  refine Run.seq ?_
  refine Run.region ?_
  refine Ops.pure rfl (Pure.move rfl) ?_
  refine Ops.pure rfl (Pure.move rfl) ?_
  refine Ops.q rfl (QOp.call fn11 rfl (fun w hw => f_l_a2Long w vc _ _ vd _ _ (RdL.old hc w hw) (RdL.old hd w hw))) ?_
  refine Ops.nil ?_
  refine Run.cond rfl (fun c26 => ?_) (fun c26 => ?_)
  · skip
    replace c26 := dT c26
    refine Run.seq ?_
    refine Run.region ?_
    refine Ops.pure rfl (Pure.assign rfl) ?_
    refine Ops.nil ?_
    refine Run.ret1 rfl rfl ?_
    rfl
  · skip
    replace c26 := dF c26
    have hcl2 : co.length ≤ 1000000000 := by omega
    have hdl2 : mo.length ≤ 1000000000 := by omega
    refine Run.skip ?_
    refine Run.seq ?_
    refine Run.region ?_
    refine Ops.pure rfl (Pure.move rfl) ?_
    refine Ops.go rfl (Loud.callR fn12 rfl (fun w hw => f_s_A2Code w vc co (RdL.old hc w hw) hb hcl2)) ?_
    rintro v28 _ ⟨L28, hQ28, rfl⟩
    obtain ⟨us28, cs28, hul28, hcv28, rfl⟩ := hQ28
    refine Ops.pure rfl (Pure.assign rfl) ?_
    refine Ops.nil ?_
    refine Run.seq ?_
    obtain ⟨hm1, hm2, hm0, hm4⟩ := mir_valid hcv28
    have hz28 := validB_sz hcv28
    have hzm := validB_sz hm1
    refine Run.region ?_
    refine Ops.pure rfl (Pure.move rfl) ?_
    refine Ops.go rfl (Loud.callR fn13 rfl (fun w hw => f_i_MirrorCode w v28 cs28 (RdSS.own (vs := us28) hw hul28 (by repeat (first | exact Ext.left _ _ | exact Ext.refl _ | refine Ext.trans ?_ (Ext.right _ _)))) (by omega))) ?_
    rintro v31 _ ⟨L31, hQ31, rfl⟩
    rw [hm0] at hQ31
    obtain ⟨x31, us31, hul31, rfl, rfl⟩ := hQ31
    refine Ops.pure rfl (Pure.move rfl) ?_
    refine Ops.pure rfl (Pure.extract rfl rfl) ?_
    refine Ops.pure rfl (Pure.extract rfl rfl) ?_
    refine Ops.pure rfl (Pure.assign rfl) ?_
    refine Ops.pure rfl (Pure.assign rfl) ?_
    refine Ops.nil ?_
    refine Run.seq ?_
    refine Run.seq ?_
    refine Run.region ?_
    refine Ops.pure rfl (Pure.move rfl) ?_
    refine Ops.pure rfl (Pure.neq rfl rfl) ?_
    refine Ops.pure rfl (Pure.move rfl) ?_
    refine Ops.guardY rfl rfl rfl (by simp) ?_
    refine Ops.pure rfl (Pure.move rfl) ?_
    refine Ops.guardY rfl rfl rfl (by simp) ?_
    refine Ops.q rfl (QOp.call fn14 rfl (fun w hw => (f_s_ValidCode w x31 (mirC cs28) (RdSS.own (vs := us31) hw hul31 (by repeat (first | exact Ext.left _ _ | exact Ext.refl _ | refine Ext.trans ?_ (Ext.right _ _)))) (by have := validB_sz hm1; omega)).cong (show _ = Value.bool true by rw [hm1]))) ?_
    refine Ops.guardY rfl rfl rfl (by simp) ?_
    refine Ops.pure rfl (Pure.not rfl) ?_
    refine Ops.pure rfl (Pure.pickF rfl (by simp) rfl) ?_
    refine Ops.nil ?_
    refine Run.condEF rfl rfl ?_
    refine Run.skip ?_
    refine Run.seq ?_
    refine Run.region ?_
    refine Ops.pure rfl (Pure.move rfl) ?_
    refine Ops.go rfl (Loud.callR fn13 rfl (fun w hw => f_i_MirrorCode w x31 (mirC cs28) (RdSS.own (vs := us31) hw hul31 (by repeat (first | exact Ext.left _ _ | exact Ext.refl _ | refine Ext.trans ?_ (Ext.right _ _)))) (by omega))) ?_
    rintro v43 _ ⟨L43, hQ43, rfl⟩
    rw [hm2, hm4] at hQ43
    obtain ⟨x43, us43, hul43, rfl, rfl⟩ := hQ43
    refine Ops.pure rfl (Pure.move rfl) ?_
    refine Ops.pure rfl (Pure.extract rfl rfl) ?_
    refine Ops.pure rfl (Pure.extract rfl rfl) ?_
    refine Ops.pure rfl (Pure.assign rfl) ?_
    refine Ops.pure rfl (Pure.assign rfl) ?_
    refine Ops.nil ?_
    refine Run.seq ?_
    refine Run.seq ?_
    refine Run.region ?_
    refine Ops.pure rfl (Pure.move rfl) ?_
    refine Ops.pure rfl (Pure.neq rfl rfl) ?_
    refine Ops.pure rfl (Pure.move rfl) ?_
    refine Ops.guardY rfl rfl rfl (by simp) ?_
    refine Ops.pure rfl (Pure.move rfl) ?_
    refine Ops.guardY rfl rfl rfl (by simp) ?_
    refine Ops.pure rfl (Pure.move rfl) ?_
    refine Ops.guardY rfl rfl rfl (by simp) ?_
    refine Ops.q rfl (QOp.call fn15 rfl (fun w hw => (f_s_SameCode w x43 v28 cs28 cs28 (RdSS.own (vs := us43) hw hul43 (by repeat (first | exact Ext.left _ _ | exact Ext.refl _ | refine Ext.trans ?_ (Ext.right _ _)))) (RdSS.own (vs := us28) hw hul28 (by repeat (first | exact Ext.left _ _ | exact Ext.refl _ | refine Ext.trans ?_ (Ext.right _ _)))) (by omega) (by omega)).cong (show _ = Value.bool true by simp))) ?_
    refine Ops.guardY rfl rfl rfl (by simp) ?_
    refine Ops.pure rfl (Pure.not rfl) ?_
    refine Ops.pure rfl (Pure.pickF rfl (by simp) rfl) ?_
    refine Ops.nil ?_
    refine Run.condEF rfl rfl ?_
    refine Run.skip ?_
    refine Run.seq ?_
    refine Run.seq ?_
    refine Run.region ?_
    refine Ops.pure rfl (Pure.move rfl) ?_
    refine Ops.pure rfl (Pure.len sl24 (RdL.mem (List.mem_append_right _ (List.mem_append_right _ (List.mem_cons_self ..)))) rfl) ?_
    refine Ops.pure rfl (Pure.eql rfl rfl) ?_
    refine Ops.nil ?_
    refine Run.cond rfl (fun c56 => ?_) (fun c56 => ?_)
    · skip
      replace c56 := dT c56
      refine Run.seq ?_
      refine Run.region ?_
      refine Ops.pure rfl (Pure.move rfl) ?_
      refine Ops.go rfl (Loud.callR fn16 rfl (fun w hw => f_i_BackCurve w v28 cs28 0 (RdSS.own (vs := us28) hw hul28 (by repeat (first | exact Ext.left _ _ | exact Ext.refl _ | refine Ext.trans ?_ (Ext.right _ _)))) (by omega) (by omega) (by omega))) ?_
      rintro v59 _ ⟨L59, hQ59, rfl⟩
      rw [cdE_empty hcv28 (by omega)] at hQ59
      obtain ⟨x59, us59, hul59, rfl, rfl⟩ := hQ59
      refine Ops.pure rfl (Pure.move rfl) ?_
      refine Ops.pure rfl (Pure.extract rfl rfl) ?_
      refine Ops.pure rfl (Pure.extract rfl rfl) ?_
      refine Ops.pure rfl (Pure.assign rfl) ?_
      refine Ops.pure rfl (Pure.assign rfl) ?_
      refine Ops.nil ?_
      refine Run.seq ?_
      refine Run.region ?_
      refine Ops.pure rfl (Pure.move rfl) ?_
      refine Ops.pure rfl (Pure.eql rfl rfl) ?_
      refine Ops.pure rfl (Pure.assign rfl) ?_
      refine Ops.nil ?_
      refine Run.ret1 rfl rfl ?_
      rfl
    · skip
      replace c56 := dF c56
      refine Run.skip ?_
      refine Run.seq ?_
      refine Run.region ?_
      refine Ops.pure rfl (Pure.move rfl) ?_
      refine Ops.pure rfl (Pure.move rfl) ?_
      refine Ops.pure rfl (Pure.len sl24 (RdL.mem (List.mem_append_right _ (List.mem_append_right _ (List.mem_cons_self ..)))) rfl) ?_
      refine Ops.q rfl (QOp.call fn17 rfl (fun w hw => f_l_a2At w vd mo 0 (cs28.length : Int) (RdL.old hd w hw) hbd hdl2 (by omega))) ?_
      refine Ops.pure rfl (Pure.assign rfl) ?_
      refine Ops.nil ?_
      refine Run.seq ?_
      obtain ⟨hp0, hp1⟩ := atCo_bd (co := mo) (i := 0) (n := (cs28.length : Int)) (by omega)
      obtain ⟨p, hpe⟩ := Int.eq_ofNat_of_zero_le hp0
      rw [hpe]
      have hpl : p < cs28.length := by omega
      obtain ⟨hb1, hb2, hb3, hb4⟩ := back_valid hcv28 hpl
      have hzb := validB_sz hb2
      refine Run.region ?_
      refine Ops.pure rfl (Pure.move rfl) ?_
      refine Ops.pure rfl (Pure.move rfl) ?_
      refine Ops.go rfl (Loud.callR fn16 rfl (fun w hw => f_i_BackCurve w v28 cs28 (p : Int) (RdSS.own (vs := us28) hw hul28 (by repeat (first | exact Ext.left _ _ | exact Ext.refl _ | refine Ext.trans ?_ (Ext.right _ _)))) (by omega) (by omega) (by omega))) ?_
      rintro v71 _ ⟨L71, hQ71, rfl⟩
      rw [hb1] at hQ71
      obtain ⟨x71, us71, hul71, rfl, rfl⟩ := hQ71
      refine Ops.pure rfl (Pure.move rfl) ?_
      refine Ops.pure rfl (Pure.extract rfl rfl) ?_
      refine Ops.pure rfl (Pure.extract rfl rfl) ?_
      refine Ops.pure rfl (Pure.assign rfl) ?_
      refine Ops.pure rfl (Pure.assign rfl) ?_
      refine Ops.nil ?_
      refine Run.seq ?_
      refine Run.seq ?_
      refine Run.region ?_
      refine Ops.pure rfl (Pure.move rfl) ?_
      refine Ops.pure rfl (Pure.neq rfl rfl) ?_
      refine Ops.pure rfl (Pure.move rfl) ?_
      refine Ops.guardY rfl rfl rfl (by simp) ?_
      refine Ops.pure rfl (Pure.move rfl) ?_
      refine Ops.guardY rfl rfl rfl (by simp) ?_
      refine Ops.q rfl (QOp.call fn14 rfl (fun w hw => (f_s_ValidCode w x71 (backC cs28 (p : Int)) (RdSS.own (vs := us71) hw hul71 (by repeat (first | exact Ext.left _ _ | exact Ext.refl _ | refine Ext.trans ?_ (Ext.right _ _)))) (by have := validB_sz hb2; omega)).cong (show _ = Value.bool true by rw [hb2]))) ?_
      refine Ops.guardY rfl rfl rfl (by simp) ?_
      refine Ops.pure rfl (Pure.not rfl) ?_
      refine Ops.pure rfl (Pure.pickF rfl (by simp) rfl) ?_
      refine Ops.nil ?_
      refine Run.condEF rfl rfl ?_
      refine Run.skip ?_
      refine Run.seq ?_
      refine Run.region ?_
      refine Ops.pure rfl (Pure.move rfl) ?_
      refine Ops.pure rfl (Pure.move rfl) ?_
      refine Ops.go rfl (Loud.callR fn16 rfl (fun w hw => f_i_BackCurve w x71 (backC cs28 (p : Int)) (p : Int) (RdSS.own (vs := us71) hw hul71 (by repeat (first | exact Ext.left _ _ | exact Ext.refl _ | refine Ext.trans ?_ (Ext.right _ _)))) (by omega) (by omega) (by omega))) ?_
      rintro v84 _ ⟨L84, hQ84, rfl⟩
      rw [hb4, hb3] at hQ84
      obtain ⟨x84, us84, hul84, rfl, rfl⟩ := hQ84
      refine Ops.pure rfl (Pure.move rfl) ?_
      refine Ops.pure rfl (Pure.extract rfl rfl) ?_
      refine Ops.pure rfl (Pure.extract rfl rfl) ?_
      refine Ops.pure rfl (Pure.assign rfl) ?_
      refine Ops.pure rfl (Pure.assign rfl) ?_
      refine Ops.nil ?_
      refine Run.seq ?_
      refine Run.ext_ (L' := ssE x84 us84 cs28 ++ ssE v28 us28 cs28) (Ext.pre (by repeat (first | exact Ext.left _ _ | exact Ext.refl _ | refine Ext.trans ?_ (Ext.right _ _)))) ?_
      have hln := len_le_tot (ls := cs28) (k := p) hpl
      refine Run.region ?_
      refine Ops.pure rfl (Pure.move rfl) ?_
      refine Ops.pure rfl (Pure.move rfl) ?_
      refine Ops.pure rfl (Pure.idx1N sl24 (RdL.mem (List.mem_append_right _ (List.mem_cons_self ..))) rfl rfl (by first | assumption | omega | (simp; omega))) ?_
      refine Ops.pure rfl (Pure.ld cell32 rfl (RdL.mem (List.mem_append_right _ (List.mem_cons_self ..))) (by first | exact ints_get (by omega) | exact bools_get (by omega) | exact strs_get (by omega) | exact vals_get (by first | omega | (simp; omega)))) ?_
      refine Ops.pure rfl (Pure.len sl32 (RdL.mem (List.mem_append_right _ (List.mem_cons_of_mem _ (inner_mem hul28 hpl)))) rfl) ?_
      refine Ops.pure rfl (Pure.assign rfl) ?_
      refine Ops.nil ?_
      refine Run.seq ?_
      refine Run.region ?_
      refine Ops.pure rfl (Pure.move rfl) ?_
      refine Ops.q rfl (QOp.call fn17 rfl (fun w hw => f_l_a2At w vd mo 1 20 (RdL.old hd w hw) hbd hdl2 (by omega))) ?_
      refine Ops.pure rfl (Pure.assign rfl) ?_
      refine Ops.nil ?_
      refine Run.seq ?_
      obtain ⟨hy0, hy1⟩ := atCo_bd (co := mo) (i := 1) (n := 20) (by omega)
      obtain ⟨y, hye⟩ := Int.eq_ofNat_of_zero_le hy0
      rw [hye]
      obtain ⟨ht1, ht2, ht3, ht4⟩ := turn_valid hcv28 (b := y) hpl (by omega)
      have hzt := validB_sz ht2
      refine Run.region ?_
      refine Ops.pure rfl (Pure.move rfl) ?_
      refine Ops.pure rfl (Pure.move rfl) ?_
      refine Ops.pure rfl (Pure.move rfl) ?_
      refine Ops.go rfl (Loud.callR fn18 rfl (fun w hw => f_i_TurnCurve w v28 cs28 (p : Int) (y : Int) (RdSS.own (vs := us28) hw hul28 (by repeat (first | exact Ext.left _ _ | exact Ext.refl _ | refine Ext.trans ?_ (Ext.right _ _)))) (by omega) (by omega) (by omega) (by omega) (by omega))) ?_
      rintro v98 _ ⟨L98, hQ98, rfl⟩
      rw [ht1] at hQ98
      obtain ⟨x98, us98, hul98, rfl, rfl⟩ := hQ98
      refine Ops.pure rfl (Pure.move rfl) ?_
      refine Ops.pure rfl (Pure.extract rfl rfl) ?_
      refine Ops.pure rfl (Pure.extract rfl rfl) ?_
      refine Ops.pure rfl (Pure.assign rfl) ?_
      refine Ops.pure rfl (Pure.assign rfl) ?_
      refine Ops.nil ?_
      refine Run.seq ?_
      refine Run.seq ?_
      refine Run.region ?_
      refine Ops.pure rfl (Pure.move rfl) ?_
      refine Ops.pure rfl (Pure.neq rfl rfl) ?_
      refine Ops.pure rfl (Pure.move rfl) ?_
      refine Ops.guardY rfl rfl rfl (by simp) ?_
      refine Ops.pure rfl (Pure.move rfl) ?_
      refine Ops.guardY rfl rfl rfl (by simp) ?_
      refine Ops.pure rfl (Pure.move rfl) ?_
      refine Ops.guardY rfl rfl rfl (by simp) ?_
      refine Ops.q rfl (QOp.call fn15 rfl (fun w hw => (f_s_SameCode w x84 v28 cs28 cs28 (RdSS.own (vs := us84) hw hul84 (by repeat (first | exact Ext.left _ _ | exact Ext.refl _ | refine Ext.trans ?_ (Ext.right _ _)))) (RdSS.own (vs := us28) hw hul28 (by repeat (first | exact Ext.left _ _ | exact Ext.refl _ | refine Ext.trans ?_ (Ext.right _ _)))) (by omega) (by omega)).cong (show _ = Value.bool true by simp))) ?_
      refine Ops.guardY rfl rfl rfl (by simp) ?_
      refine Ops.pure rfl (Pure.not rfl) ?_
      refine Ops.pure rfl (Pure.pickF rfl (by simp) rfl) ?_
      refine Ops.pure rfl (Pure.move rfl) ?_
      refine Ops.guardY rfl rfl rfl rfl ?_
      refine Ops.pure rfl (Pure.move rfl) ?_
      refine Ops.guardY rfl rfl rfl rfl ?_
      refine Ops.pure rfl (Pure.neq rfl rfl) ?_
      refine Ops.pure rfl (Pure.pickF rfl rfl rfl) ?_
      refine Ops.pure rfl (Pure.move rfl) ?_
      refine Ops.guardY rfl rfl rfl (by simp) ?_
      refine Ops.pure rfl (Pure.move rfl) ?_
      refine Ops.guardY rfl rfl rfl (by simp) ?_
      refine Ops.q rfl (QOp.call fn14 rfl (fun w hw => (f_s_ValidCode w x98 (turnC cs28 (p : Int) (y : Int)) (RdSS.own (vs := us98) hw hul98 (by repeat (first | exact Ext.left _ _ | exact Ext.refl _ | refine Ext.trans ?_ (Ext.right _ _)))) (by have := validB_sz ht2; omega)).cong (show _ = Value.bool true by rw [ht2]))) ?_
      refine Ops.guardY rfl rfl rfl (by simp) ?_
      refine Ops.pure rfl (Pure.not rfl) ?_
      refine Ops.pure rfl (Pure.pickF rfl (by simp) rfl) ?_
      refine Ops.nil ?_
      refine Run.condEF rfl rfl ?_
      refine Run.skip ?_
      refine Run.seq ?_
      refine Run.region ?_
      refine Ops.pure rfl (Pure.assign rfl) ?_
      refine Ops.nil ?_
      refine Run.seq ?_
      refine Run.seq ?_
      refine Run.region ?_
      refine Ops.pure rfl (Pure.move rfl) ?_
      refine Ops.pure rfl (Pure.gtr rfl rfl) ?_
      refine Ops.nil ?_
      refine Run.cond rfl (fun c119 => ?_) (fun c119 => ?_)
      · skip
        replace c119 := dT c119
        obtain ⟨r, hrd, hr1, hr2⟩ : ∃ r : Nat, r = ((cs28.getD p []).length - y % (cs28.getD p []).length) % (cs28.getD p []).length ∧ r ≤ 1000 ∧ True := ⟨_, rfl, Nat.le_trans (Nat.mod_le _ _) (by omega), trivial⟩
        obtain ⟨hk1, hk2⟩ := turn_back hcv28 (c := r) hpl (show y ≤ 1000 by omega) hr1 (.inr ⟨by omega, hrd⟩)
        have hml := Nat.mod_lt y (show 0 < (cs28.getD p []).length by omega)
        refine Run.region ?_
        refine Ops.pure rfl (Pure.move rfl) ?_
        refine Ops.pure rfl (Pure.move rfl) ?_
        refine Ops.pure rfl (Pure.move rfl) ?_
        refine Ops.pure rfl (Pure.remN rfl rfl (by omega)) ?_
        refine Ops.pure rfl (Pure.sub rfl rfl (by omega) (by omega)) ?_
        refine Ops.pure rfl (Pure.move rfl) ?_
        have hce : (((cs28.getD p []).length : Int) - ((y % (cs28.getD p []).length : Nat) : Int)) % ((cs28.getD p []).length : Int) = ((((cs28.getD p []).length - y % (cs28.getD p []).length) % (cs28.getD p []).length : Nat) : Int) := by rw [← Int.ofNat_sub (Nat.le_of_lt hml), ← Int.natCast_emod]
        refine Ops.pure rfl (Pure.rem rfl rfl (by omega) (by omega)) ?_
        rw [hce]
        refine Ops.pure rfl (Pure.assign rfl) ?_
        refine Ops.nil ?_
        refine Run.seq ?_
        first
          | rw [← hrd]
          | (refine Run.setv 21 rfl (show _ = Value.int .i64 (r : Int) by rw [hrd]; rfl) ?_)
        refine Run.region ?_
        refine Ops.pure rfl (Pure.move rfl) ?_
        refine Ops.pure rfl (Pure.move rfl) ?_
        refine Ops.pure rfl (Pure.move rfl) ?_
        refine Ops.go rfl (Loud.callR fn18 rfl (fun w hw => f_i_TurnCurve w x98 (turnC cs28 (p : Int) (y : Int)) (p : Int) (r : Int) (RdSS.own (vs := us98) hw hul98 (by repeat (first | exact Ext.left _ _ | exact Ext.refl _ | refine Ext.trans ?_ (Ext.right _ _)))) (by omega) (by omega) (by omega) (by omega) (by omega))) ?_
        rintro v131 _ ⟨L131, hQ131, rfl⟩
        rw [hk1, hk2] at hQ131
        obtain ⟨x131, us131, hul131, rfl, rfl⟩ := hQ131
        refine Ops.pure rfl (Pure.move rfl) ?_
        refine Ops.pure rfl (Pure.extract rfl rfl) ?_
        refine Ops.pure rfl (Pure.extract rfl rfl) ?_
        refine Ops.pure rfl (Pure.assign rfl) ?_
        refine Ops.pure rfl (Pure.assign rfl) ?_
        refine Ops.nil ?_
        refine Run.seq ?_
        refine Run.region ?_
        refine Ops.pure rfl (Pure.move rfl) ?_
        refine Ops.pure rfl (Pure.eql rfl rfl) ?_
        refine Ops.pure rfl (Pure.move rfl) ?_
        refine Ops.guardY rfl rfl rfl (by simp) ?_
        refine Ops.pure rfl (Pure.move rfl) ?_
        refine Ops.guardY rfl rfl rfl (by simp) ?_
        refine Ops.pure rfl (Pure.move rfl) ?_
        refine Ops.guardY rfl rfl rfl (by simp) ?_
        refine Ops.q rfl (QOp.call fn15 rfl (fun w hw => (f_s_SameCode w x131 v28 cs28 cs28 (RdSS.own (vs := us131) hw hul131 (by repeat (first | exact Ext.left _ _ | exact Ext.refl _ | refine Ext.trans ?_ (Ext.right _ _)))) (RdSS.own (vs := us28) hw hul28 (by repeat (first | exact Ext.left _ _ | exact Ext.refl _ | refine Ext.trans ?_ (Ext.right _ _)))) (by omega) (by omega)).cong (show _ = Value.bool true by simp))) ?_
        refine Ops.pure rfl (Pure.pickT rfl (by simp) rfl) ?_
        refine Ops.pure rfl (Pure.assign rfl) ?_
        refine Ops.nil ?_
        refine Run.ret1 rfl rfl ?_
        rfl
      · skip
        replace c119 := dF c119
        obtain ⟨r, hrd, hr1⟩ : ∃ r : Nat, r = 0 ∧ r ≤ 1000 := ⟨0, rfl, by omega⟩
        obtain ⟨hk1, hk2⟩ := turn_back hcv28 (c := r) hpl (show y ≤ 1000 by omega) hr1 (.inl ⟨by omega, hrd⟩)
        refine Run.skip ?_
        refine Run.seq ?_
        first
          | rw [← hrd]
          | (refine Run.setv 21 rfl (show _ = Value.int .i64 (r : Int) by rw [hrd]; rfl) ?_)
        refine Run.region ?_
        refine Ops.pure rfl (Pure.move rfl) ?_
        refine Ops.pure rfl (Pure.move rfl) ?_
        refine Ops.pure rfl (Pure.move rfl) ?_
        refine Ops.go rfl (Loud.callR fn18 rfl (fun w hw => f_i_TurnCurve w x98 (turnC cs28 (p : Int) (y : Int)) (p : Int) (r : Int) (RdSS.own (vs := us98) hw hul98 (by repeat (first | exact Ext.left _ _ | exact Ext.refl _ | refine Ext.trans ?_ (Ext.right _ _)))) (by omega) (by omega) (by omega) (by omega) (by omega))) ?_
        rintro v131 _ ⟨L131, hQ131, rfl⟩
        rw [hk1, hk2] at hQ131
        obtain ⟨x131, us131, hul131, rfl, rfl⟩ := hQ131
        refine Ops.pure rfl (Pure.move rfl) ?_
        refine Ops.pure rfl (Pure.extract rfl rfl) ?_
        refine Ops.pure rfl (Pure.extract rfl rfl) ?_
        refine Ops.pure rfl (Pure.assign rfl) ?_
        refine Ops.pure rfl (Pure.assign rfl) ?_
        refine Ops.nil ?_
        refine Run.seq ?_
        refine Run.region ?_
        refine Ops.pure rfl (Pure.move rfl) ?_
        refine Ops.pure rfl (Pure.eql rfl rfl) ?_
        refine Ops.pure rfl (Pure.move rfl) ?_
        refine Ops.guardY rfl rfl rfl (by simp) ?_
        refine Ops.pure rfl (Pure.move rfl) ?_
        refine Ops.guardY rfl rfl rfl (by simp) ?_
        refine Ops.pure rfl (Pure.move rfl) ?_
        refine Ops.guardY rfl rfl rfl (by simp) ?_
        refine Ops.q rfl (QOp.call fn15 rfl (fun w hw => (f_s_SameCode w x131 v28 cs28 cs28 (RdSS.own (vs := us131) hw hul131 (by repeat (first | exact Ext.left _ _ | exact Ext.refl _ | refine Ext.trans ?_ (Ext.right _ _)))) (RdSS.own (vs := us28) hw hul28 (by repeat (first | exact Ext.left _ _ | exact Ext.refl _ | refine Ext.trans ?_ (Ext.right _ _)))) (by omega) (by omega)).cong (show _ = Value.bool true by simp))) ?_
        refine Ops.pure rfl (Pure.pickT rfl (by simp) rfl) ?_
        refine Ops.pure rfl (Pure.assign rfl) ?_
        refine Ops.nil ?_
        refine Run.ret1 rfl rfl ?_
        rfl

end Go.Proofs.Ytmfinopdokkjcaa
