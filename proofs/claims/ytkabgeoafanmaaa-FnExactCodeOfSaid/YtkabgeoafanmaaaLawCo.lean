/- Contracts of functions, printed by program from annotations. -/
import Derived.Test.YtkabgeoafanmaaaCod
namespace Go.Proofs.Ytkabgeoafanmaaa
open Go Go.AW Go.RowKit
set_option linter.unusedVariables false
set_option linter.unusedSimpArgs false

theorem Ext.skipc {A L : List Ent} {e : Ent} (h : Ext A L) : Ext A (e :: L) := by
  obtain ⟨r, hr⟩ := h
  exact ⟨e :: r, List.perm_middle.trans (List.Perm.cons e hr)⟩
theorem Ext.skipa {A B L : List Ent} (h : Ext A L) : Ext A (B ++ L) := Ext.trans h (Ext.right _ _)
theorem Ext.turn (A B : List Ent) : Ext (B ++ A) (A ++ B) := ⟨[], by rw [List.append_nil]; exact List.perm_append_comm⟩
structure Pull (A L F : List Ent) : Prop where
  p : L.Perm (A ++ F)
theorem Pull.here {A F : List Ent} : Pull A (A ++ F) F := ⟨List.Perm.refl _⟩
theorem Pull.self {A : List Ent} : Pull A A [] := ⟨by rw [List.append_nil]⟩
theorem Pull.cons {A L F : List Ent} {e : Ent} (h : Pull A L F) : Pull A (e :: L) (e :: F) := ⟨(List.Perm.cons e h.p).trans List.perm_middle.symm⟩
theorem Pull.app {A B L F : List Ent} (h : Pull A L F) : Pull A (B ++ L) (B ++ F) := ⟨(List.Perm.append_left B h.p).trans (by rw [← List.append_assoc, ← List.append_assoc]; exact List.perm_append_comm.append_right F)⟩
theorem _root_.Go.AW.Sat.pull {w0 w : World} {A L F : List Ent} (hw : Sat w0 w L) (h : Pull A L F) : Sat w0 w (A ++ F) := hw.perm h.p
theorem markSS_markSS : ∀ (ls : List (List Int)) (k : Int), markSS k (markSS k ls) = markSS k ls
  | [], _ => rfl
  | l :: r, k => by simp only [markSS, length_marks]; rw [markSS_markSS r]
theorem heldInt64SS_again (k : Int) (ls : List (List Int)) : (if markSS k ls = markSS k (markSS k ls) then k + (tot (markSS k ls) : Int) else -1) = k + tot ls := by
  rw [if_pos (markSS_markSS ls k).symm, tot_markSS]

set_option maxRecDepth 4000 in
/-- laws.FnExactCodeOf -/
theorem f_l_FnExactCodeOf (w : World) (al : Int) (bl : Int) (vl : Value) (l : List Int) (hsl : Rd w vl 1 l.length (ints l)) (hal : l.length ≤ 9223372036854775807) (ha0l : -9223372036854775808 ≤ al) (ha1l : al ≤ 9223372036854775807) (hb0l : -9223372036854775808 ≤ bl) (hb1l : bl ≤ 9223372036854775807) : RetV Try.prog 10 [.agg #[.int .i64 al, .int .i64 bl, vl]] w (.bool true) := by
  refine Ret.enter Try.func10 rfl Try.ntmps10 rfl ?_
  refine Run.seq ?_
  refine Run.region ?_
  refine Ops.go rfl (Loud.box rfl rfl) ?_
  rintro _ _ ⟨b1, rfl, rfl⟩
  refine Ops.pure rfl (Pure.assign rfl) ?_
  refine Ops.nil ?_
  refine Run.seq ?_
  refine Run.region ?_
  refine Ops.pure rfl (Pure.assign rfl) ?_
  refine Ops.nil ?_
  refine Run.seq ?_
  refine Run.region ?_
  refine Ops.pure rfl (Pure.ldBA 0 rfl cell42 rfl rfl rfl) ?_
  refine Ops.pure rfl (Pure.move rfl) ?_
  refine Ops.q rfl (QOp.call fn32 rfl (fun w hw => f_l_szPanel w _ _ _ _ _ (by exact RdL.old (by assumption) w hw) (by omega) (by omega) (by assumption))) ?_
  refine Ops.pure rfl (Pure.assign rfl) ?_
  refine Ops.nil ?_
  refine Run.seq ?_
  refine Run.seq ?_
  by_cases hz0 : (l.length : Int) ≤ 1048576
  · skip
    rw [if_pos hz0]
    refine Run.region ?_
    refine Ops.pure rfl (Pure.move rfl) ?_
    refine Ops.pure rfl (Pure.lss rfl rfl) ?_
    refine Ops.nil ?_
    refine Run.condEF rfl (decide_eq_false (by omega)) ?_
    refine Run.skip ?_
    refine Run.seq ?_
    have hmz := coL_size al bl l
    refine Run.region ?_
    refine Ops.pure rfl (Pure.ldBA 0 rfl cell42 rfl rfl rfl) ?_
    refine Ops.go rfl (Loud.callR fn34 rfl (fun w hw => f_l_toPanel w _ _ _ _ (by exact RdL.old (by assumption) w hw) (by omega))) ?_
    rintro v21 _ ⟨L21, hQ21, rfl⟩
    obtain ⟨x21, h21, rfl, rfl⟩ := hQ21
    refine Ops.go rfl (Loud.callR fn41 rfl (fun w hw => f_s_CodeOf w _ _ _ _ (by exact RdL.own 0 rfl w hw) (by omega) (by assumption) (by assumption) (by assumption) (by assumption))) ?_
    rintro v22 _ ⟨L22, hQ22, rfl⟩
    obtain ⟨x22, us22, hul22, rfl, rfl⟩ := hQ22
    refine Ops.pure rfl (Pure.move rfl) ?_
    refine Ops.pure rfl (Pure.extract rfl rfl) ?_
    refine Ops.pure rfl (Pure.extract rfl rfl) ?_
    refine Ops.pure rfl (Pure.assign rfl) ?_
    refine Ops.pure rfl (Pure.assign rfl) ?_
    refine Ops.nil ?_
    refine Run.seq ?_
    refine Run.ext_ (Ext.turn _ _) ?_
    refine Run.region ?_
    refine Ops.pure rfl (Pure.ldBA 1 rfl cell42 rfl rfl rfl) ?_
    refine Ops.go rfl (Loud.callR fn34 rfl (fun w hw => f_l_toPanel w _ _ _ _ (by exact RdL.old (by assumption) w hw) (by omega))) ?_
    rintro v26 _ ⟨L26, hQ26, rfl⟩
    obtain ⟨x26, h26, rfl, rfl⟩ := hQ26
    refine Ops.go rfl (Loud.alloc zero31 rfl) ?_
    rintro _ _ ⟨b6, rfl, rfl⟩
    refine Ops.store (Stores.box 0 rfl rfl rfl size31 (one3 h26) rfl rfl) ?_
    refine Ops.nil ?_
    refine Run.seq ?_
    refine Run.region ?_
    refine Ops.pure rfl (Pure.ldBA 0 rfl cell31 rfl rfl rfl) ?_
    refine Ops.go rfl (Loud.callR fn42 rfl (fun w hw => f_i_CodeOf w _ _ _ _ (by exact RdL.own 1 rfl w hw) (by omega) (by assumption) (by assumption) (by assumption) (by assumption))) ?_
    rintro v29 _ ⟨L29, hQ29, rfl⟩
    obtain ⟨x29, us29, hul29, rfl, rfl⟩ := hQ29
    refine Ops.pure rfl (Pure.move rfl) ?_
    refine Ops.pure rfl (Pure.extract rfl rfl) ?_
    refine Ops.pure rfl (Pure.extract rfl rfl) ?_
    refine Ops.pure rfl (Pure.assign rfl) ?_
    refine Ops.pure rfl (Pure.assign rfl) ?_
    refine Ops.nil ?_
    refine Run.seq ?_
    refine Run.seq ?_
    refine Run.ext_ (Ext.turn _ _) ?_
    refine Run.region ?_
    refine Ops.pure rfl (Pure.move rfl) ?_
    refine Ops.pure rfl (Pure.move rfl) ?_
    refine Ops.q rfl (QOp.call fn43 rfl (fun w hw => f_l_eqInt64SS w x29 x22 (coL al bl l) (coL al bl l) (RdSS.own (vs := us29) hw hul29 (by (try simp only [List.set_cons_zero, List.set_cons_succ, List.cons_append, List.append_assoc, List.nil_append, List.eraseIdx_cons_zero, List.eraseIdx_cons_succ, List.append_nil]); repeat (first | exact Ext.left _ _ | exact Ext.refl _ | apply Ext.skipa | apply Ext.skipc))) (RdSS.own (vs := us22) hw hul22 (by (try simp only [List.set_cons_zero, List.set_cons_succ, List.cons_append, List.append_assoc, List.nil_append, List.eraseIdx_cons_zero, List.eraseIdx_cons_succ, List.append_nil]); repeat (first | exact Ext.left _ _ | exact Ext.refl _ | apply Ext.skipa | apply Ext.skipc))) (by omega) (by omega))) ?_
    refine Ops.pure rfl (Pure.not rfl) ?_
    refine Ops.pure rfl (Pure.move rfl) ?_
    refine Ops.guardY rfl rfl rfl (by simp) ?_
    refine Ops.pure rfl (Pure.move rfl) ?_
    refine Ops.guardY rfl rfl rfl (by simp) ?_
    refine Ops.pure rfl (Pure.move rfl) ?_
    refine Ops.guardY rfl rfl rfl (by simp) ?_
    refine Ops.pure rfl (Pure.neq rfl rfl) ?_
    refine Ops.pure rfl (Pure.pickF rfl (by simp) rfl) ?_
    refine Ops.nil ?_
    refine Run.condEF rfl (by simp) ?_
    refine Run.skip ?_
    refine Run.seq ?_
    refine Run.seq ?_
    refine Any.start follows ?_
    refine Any.take 0 rfl (by kernel_rfl) rfl (QOp.pure (Pure.ldBA 0 rfl cell31 rfl rfl rfl)) ?_
    refine Any.take 1 rfl (by kernel_rfl) rfl (QOp.pure (Pure.ldBA 3 rfl cell42 rfl rfl rfl)) ?_
    refine Any.one 2 (by kernel_rfl) ?_
    refine OneL.loud rfl rfl (Loud.callR fn34 rfl (fun w hw => f_l_toPanel w _ _ _ _ (by exact RdL.old (by assumption) w hw) (by omega))) ?_
    rintro v43 _ ⟨L43, hQ43, rfl⟩
    obtain ⟨x43, h43, rfl, rfl⟩ := hQ43
    refine ⟨.inr (by first | exact Ext.right _ _ | exact Ext.right [_] _ | exact Ext.refl _), ?_⟩
    refine Any.take 3 rfl (by kernel_rfl) rfl (QOp.call fn22 rfl (fun w hw => f_l_eqPanel w _ _ _ _ _ _ _ _ (by exact RdL.own 2 rfl w hw) (by exact RdL.own 0 rfl w hw) (by omega) (by omega))) ?_
    refine Any.take 4 rfl (by kernel_rfl) rfl (QOp.pure (Pure.not rfl)) ?_
    refine Any.done (by kernel_rfl) ?_
    refine Run.condEF rfl (by simp) ?_
    refine Run.skip ?_
    refine Run.seq ?_
    refine Run.region ?_
    refine Ops.pure rfl (Pure.assign rfl) ?_
    refine Ops.nil ?_
    refine Run.seq ?_
    refine Run.region ?_
    refine Ops.pure rfl (Pure.ldBA 1 rfl cell31 rfl rfl rfl) ?_
    refine Ops.pure rfl (Pure.move rfl) ?_
    refine Ops.go rfl (Loud.callO fn23 rfl (fun w hw => f_l_markPanel _ w _ _ _ _ _ _ (by exact Sat.front 2 rfl hw) (by omega) (by omega) (by omega))) ?_
    rintro v48 L48 hQ48
    obtain ⟨rfl, rfl⟩ := hQ48
    refine Ops.pure rfl (Pure.assign rfl) ?_
    refine Ops.nil ?_
    refine Run.seq ?_
    refine Run.seq ?_
    refine Run.region ?_
    refine Ops.pure rfl (Pure.move rfl) ?_
    refine Ops.pure rfl (Pure.lss rfl rfl) ?_
    refine Ops.pure rfl (Pure.move rfl) ?_
    refine Ops.guardY rfl rfl rfl (decide_eq_false (by omega)) ?_
    refine Ops.pure rfl (Pure.move rfl) ?_
    refine Ops.guardY rfl rfl rfl (decide_eq_false (by omega)) ?_
    refine Ops.pure rfl (Pure.move rfl) ?_
    refine Ops.guardY rfl rfl rfl (decide_eq_false (by omega)) ?_
    refine Ops.q rfl (QOp.call fn43 rfl (fun w hw => f_l_eqInt64SS w x29 x22 (coL al bl l) (coL al bl l) (RdSS.own (vs := us29) hw hul29 (by (try simp only [List.set_cons_zero, List.set_cons_succ, List.cons_append, List.append_assoc, List.nil_append, List.eraseIdx_cons_zero, List.eraseIdx_cons_succ, List.append_nil]); repeat (first | exact Ext.left _ _ | exact Ext.refl _ | apply Ext.skipa | apply Ext.skipc))) (RdSS.own (vs := us22) hw hul22 (by (try simp only [List.set_cons_zero, List.set_cons_succ, List.cons_append, List.append_assoc, List.nil_append, List.eraseIdx_cons_zero, List.eraseIdx_cons_succ, List.append_nil]); repeat (first | exact Ext.left _ _ | exact Ext.refl _ | apply Ext.skipa | apply Ext.skipc))) (by omega) (by omega))) ?_
    refine Ops.guardY rfl rfl rfl (decide_eq_false (by omega)) ?_
    refine Ops.pure rfl (Pure.not rfl) ?_
    refine Ops.pure rfl (Pure.pickF rfl (decide_eq_false (by omega)) rfl) ?_
    refine Ops.pure rfl (Pure.move rfl) ?_
    refine Ops.guardY rfl rfl rfl (by simp) ?_
    refine Ops.pure rfl (Pure.move rfl) ?_
    refine Ops.guardY rfl rfl rfl (by simp) ?_
    refine Ops.pure rfl (Pure.move rfl) ?_
    refine Ops.guardY rfl rfl rfl (by simp) ?_
    refine Ops.pure rfl (Pure.neq rfl rfl) ?_
    refine Ops.pure rfl (Pure.pickF rfl (by simp) rfl) ?_
    refine Ops.nil ?_
    refine Run.condEF rfl (by simp) ?_
    refine Run.skip ?_
    refine Run.seq ?_
    refine Run.region ?_
    refine Ops.pure rfl (Pure.assign rfl) ?_
    refine Ops.nil ?_
    refine Run.seq ?_
    refine Run.region ?_
    refine Ops.pure rfl (Pure.move rfl) ?_
    refine Ops.pure rfl (Pure.move rfl) ?_
    refine Ops.go rfl (Loud.callO fn44 rfl (fun w hw => f_l_markInt64SS _ w x29 us29 (coL al bl l) _ _ (Sat.pull hw (by (try simp only [List.set_cons_zero, List.set_cons_succ, List.cons_append, List.append_assoc, List.nil_append, List.eraseIdx_cons_zero, List.eraseIdx_cons_succ, List.append_nil]); repeat (first | exact Pull.here | exact Pull.self | apply Pull.app | apply Pull.cons))) hul29 (by omega) (by omega) (by omega))) ?_
    rintro v64 L64 hQ64
    obtain ⟨rfl, rfl⟩ := hQ64
    refine Ops.pure rfl (Pure.assign rfl) ?_
    refine Ops.nil ?_
    refine Run.seq ?_
    refine Run.ext_ (Ext.turn _ _) ?_
    refine Run.region ?_
    refine Ops.pure rfl (Pure.assign rfl) ?_
    refine Ops.nil ?_
    refine Run.seq ?_
    refine Run.region ?_
    refine Ops.pure rfl (Pure.move rfl) ?_
    refine Ops.pure rfl (Pure.move rfl) ?_
    refine Ops.q rfl (QOp.call fn45 rfl (fun w hw => (f_l_heldInt64SS w x29 (markSS 1 (coL al bl l)) 1 (RdSS.own (vs := us29) hw (by rw [length_markSS]; exact hul29) (by (try simp only [List.set_cons_zero, List.set_cons_succ, List.cons_append, List.append_assoc, List.nil_append, List.eraseIdx_cons_zero, List.eraseIdx_cons_succ, List.append_nil]); repeat (first | exact Ext.left _ _ | exact Ext.refl _ | apply Ext.skipa | apply Ext.skipc))) (by rw [length_markSS, tot_markSS]; omega) (by omega) (by omega)).cong (by rw [heldInt64SS_again]))) ?_
    refine Ops.pure rfl (Pure.assign rfl) ?_
    refine Ops.nil ?_
    refine Run.seq ?_
    refine Run.seq ?_
    refine Run.region ?_
    refine Ops.pure rfl (Pure.move rfl) ?_
    refine Ops.pure rfl (Pure.lss rfl rfl) ?_
    refine Ops.nil ?_
    refine Run.condEF rfl (decide_eq_false (by omega)) ?_
    refine Run.skip ?_
    refine Run.seq ?_
    refine Run.seq ?_
    refine Run.region ?_
    refine Ops.pure rfl (Pure.move rfl) ?_
    refine Ops.pure rfl (Pure.move rfl) ?_
    refine Ops.pure rfl (Pure.neq rfl rfl) ?_
    refine Ops.nil ?_
    refine Run.condEF rfl (by simp) ?_
    refine Run.skip ?_
    refine Run.seq ?_
    refine Run.region ?_
    refine Ops.pure rfl (Pure.ldBA 4 rfl cell42 rfl rfl rfl) ?_
    refine Ops.go rfl (Loud.callR fn34 rfl (fun w hw => f_l_toPanel w _ _ _ _ (by exact RdL.old (by assumption) w hw) (by omega))) ?_
    rintro v75 _ ⟨L75, hQ75, rfl⟩
    obtain ⟨x75, h75, rfl, rfl⟩ := hQ75
    refine Ops.go rfl (Loud.callR fn42 rfl (fun w hw => f_i_CodeOf w _ _ _ _ (by exact RdL.own 0 rfl w hw) (by omega) (by assumption) (by assumption) (by assumption) (by assumption))) ?_
    rintro v76 _ ⟨L76, hQ76, rfl⟩
    obtain ⟨x76, us76, hul76, rfl, rfl⟩ := hQ76
    refine Ops.pure rfl (Pure.move rfl) ?_
    refine Ops.pure rfl (Pure.extract rfl rfl) ?_
    refine Ops.pure rfl (Pure.extract rfl rfl) ?_
    refine Ops.pure rfl (Pure.assign rfl) ?_
    refine Ops.pure rfl (Pure.assign rfl) ?_
    refine Ops.nil ?_
    refine Run.seq ?_
    refine Run.seq ?_
    refine Run.ext_ (Ext.turn _ _) ?_
    refine Run.region ?_
    refine Ops.pure rfl (Pure.move rfl) ?_
    refine Ops.pure rfl (Pure.move rfl) ?_
    refine Ops.q rfl (QOp.call fn43 rfl (fun w hw => f_l_eqInt64SS w x76 x22 (coL al bl l) (coL al bl l) (RdSS.own (vs := us76) hw hul76 (by (try simp only [List.set_cons_zero, List.set_cons_succ, List.cons_append, List.append_assoc, List.nil_append, List.eraseIdx_cons_zero, List.eraseIdx_cons_succ, List.append_nil]); repeat (first | exact Ext.left _ _ | exact Ext.refl _ | apply Ext.skipa | apply Ext.skipc))) (RdSS.own (vs := us22) hw hul22 (by (try simp only [List.set_cons_zero, List.set_cons_succ, List.cons_append, List.append_assoc, List.nil_append, List.eraseIdx_cons_zero, List.eraseIdx_cons_succ, List.append_nil]); repeat (first | exact Ext.left _ _ | exact Ext.refl _ | apply Ext.skipa | apply Ext.skipc))) (by omega) (by omega))) ?_
    refine Ops.pure rfl (Pure.not rfl) ?_
    refine Ops.pure rfl (Pure.move rfl) ?_
    refine Ops.guardY rfl rfl rfl (by simp) ?_
    refine Ops.pure rfl (Pure.move rfl) ?_
    refine Ops.guardY rfl rfl rfl (by simp) ?_
    refine Ops.pure rfl (Pure.move rfl) ?_
    refine Ops.guardY rfl rfl rfl (by simp) ?_
    refine Ops.pure rfl (Pure.neq rfl rfl) ?_
    refine Ops.pure rfl (Pure.pickF rfl (by simp) rfl) ?_
    refine Ops.nil ?_
    refine Run.condEF rfl (by simp) ?_
    refine Run.skip ?_
    refine Run.seq ?_
    refine Run.region ?_
    refine Ops.pure rfl (Pure.assign rfl) ?_
    refine Ops.nil ?_
    refine Run.seq ?_
    refine Run.region ?_
    refine Ops.pure rfl (Pure.move rfl) ?_
    refine Ops.pure rfl (Pure.move rfl) ?_
    refine Ops.q rfl (QOp.call fn45 rfl (fun w hw => (f_l_heldInt64SS w x29 (markSS 1 (coL al bl l)) 1 (RdSS.own (vs := us29) hw (by rw [length_markSS]; exact hul29) (by (try simp only [List.set_cons_zero, List.set_cons_succ, List.cons_append, List.append_assoc, List.nil_append, List.eraseIdx_cons_zero, List.eraseIdx_cons_succ, List.append_nil]); repeat (first | exact Ext.left _ _ | exact Ext.refl _ | apply Ext.skipa | apply Ext.skipc))) (by rw [length_markSS, tot_markSS]; omega) (by omega) (by omega)).cong (by rw [heldInt64SS_again]))) ?_
    refine Ops.pure rfl (Pure.assign rfl) ?_
    refine Ops.nil ?_
    refine Run.seq ?_
    refine Run.seq ?_
    refine Run.region ?_
    refine Ops.pure rfl (Pure.move rfl) ?_
    refine Ops.pure rfl (Pure.lss rfl rfl) ?_
    refine Ops.nil ?_
    refine Run.condEF rfl (decide_eq_false (by omega)) ?_
    refine Run.skip ?_
    refine Run.seq ?_
    refine Run.seq ?_
    refine Run.region ?_
    refine Ops.pure rfl (Pure.move rfl) ?_
    refine Ops.pure rfl (Pure.move rfl) ?_
    refine Ops.pure rfl (Pure.neq rfl rfl) ?_
    refine Ops.nil ?_
    refine Run.condEF rfl (by simp) ?_
    refine Run.skip ?_
    refine Run.seq ?_
    refine Run.region ?_
    refine Ops.pure rfl (Pure.assign rfl) ?_
    refine Ops.nil ?_
    refine Run.ret1 rfl rfl ?_
    rfl
  · skip
    rw [if_neg hz0]
    refine Run.region ?_
    refine Ops.pure rfl (Pure.move rfl) ?_
    refine Ops.pure rfl (Pure.lss rfl rfl) ?_
    refine Ops.nil ?_
    refine Run.condE rfl (decide_eq_true (by omega)) ?_
    refine Run.seq ?_
    refine Run.region ?_
    refine Ops.pure rfl (Pure.assign rfl) ?_
    refine Ops.nil ?_
    refine Run.ret1 rfl rfl ?_
    rfl

end Go.Proofs.Ytkabgeoafanmaaa
