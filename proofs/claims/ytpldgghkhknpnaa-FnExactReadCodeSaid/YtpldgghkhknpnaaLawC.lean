/- Contracts of functions, printed by program from annotations. -/
import Derived.Test.YtpldgghkhknpnaaCodes
namespace Go.Proofs.Ytpldgghkhknpnaa
open Go Go.AW Go.RowKit
set_option linter.unusedVariables false
set_option linter.unusedSimpArgs false

theorem RdSS.o0 {w0 w : World} {C : List Ent} {v : Value} {vs : List Value} {ls : List (List Int)} (hw : Sat w0 w (ssE v vs ls ++ C)) (h : vs.length = ls.length) : RdSS w v ls := RdSS.own hw h (Ext.left _ _)
theorem RdSS.oS {w0 w : World} {C : List Ent} {v : Value} {vs : List Value} {ls : List (List Int)} (hw : Sat w0 w (ssE v vs ls)) (h : vs.length = ls.length) : RdSS w v ls := RdSS.own hw h (Ext.refl _)
theorem RdSS.o1 {w0 w : World} {A C : List Ent} {v : Value} {vs : List Value} {ls : List (List Int)} (hw : Sat w0 w (A ++ (ssE v vs ls ++ C))) (h : vs.length = ls.length) : RdSS w v ls := RdSS.own hw h ((Ext.left _ _).trans (Ext.right _ _))
theorem RdSS.o2 {w0 w : World} {A B C : List Ent} {v : Value} {vs : List Value} {ls : List (List Int)} (hw : Sat w0 w (A ++ (B ++ (ssE v vs ls ++ C)))) (h : vs.length = ls.length) : RdSS w v ls := RdSS.o1 (hw.ext (Ext.right _ _)) h
theorem RdSS.o3 {w0 w : World} {A B C D : List Ent} {v : Value} {vs : List Value} {ls : List (List Int)} (hw : Sat w0 w (A ++ (B ++ (D ++ (ssE v vs ls ++ C))))) (h : vs.length = ls.length) : RdSS w v ls := RdSS.o2 (hw.ext (Ext.right _ _)) h
theorem RdSS.o4 {w0 w : World} {A B C D E : List Ent} {v : Value} {vs : List Value} {ls : List (List Int)} (hw : Sat w0 w (A ++ (B ++ (D ++ (E ++ (ssE v vs ls ++ C)))))) (h : vs.length = ls.length) : RdSS w v ls := RdSS.o3 (hw.ext (Ext.right _ _)) h
theorem RdSS.o5 {w0 w : World} {A B C D E F : List Ent} {v : Value} {vs : List Value} {ls : List (List Int)} (hw : Sat w0 w (A ++ (B ++ (D ++ (E ++ (F ++ (ssE v vs ls ++ C))))))) (h : vs.length = ls.length) : RdSS w v ls := RdSS.o4 (hw.ext (Ext.right _ _)) h
theorem _root_.Go.AW.Sat.swap2 {w0 w : World} {A B C : List Ent} (h : Sat w0 w (A ++ (B ++ C))) : Sat w0 w (B ++ (A ++ C)) :=
  h.perm (by rw [← List.append_assoc, ← List.append_assoc]; exact List.perm_append_comm.append_right C)
theorem _root_.Go.AW.Sat.swap3 {w0 w : World} {A B C D : List Ent} (h : Sat w0 w (A ++ (B ++ (C ++ D)))) : Sat w0 w (C ++ (A ++ (B ++ D))) :=
  h.perm (by rw [← List.append_assoc, ← List.append_assoc A B D, ← List.append_assoc, ← List.append_assoc C]; exact List.perm_append_comm.append_right D)
theorem _root_.Go.AW.Sat.swap4 {w0 w : World} {A B C D E : List Ent} (h : Sat w0 w (A ++ (B ++ (C ++ (D ++ E))))) : Sat w0 w (D ++ (A ++ (B ++ (C ++ E)))) := by
  have h2 := h.perm (List.Perm.append_left A (List.Perm.append_left B (show (C ++ (D ++ E)).Perm (D ++ (C ++ E)) by rw [← List.append_assoc, ← List.append_assoc]; exact List.perm_append_comm.append_right E)))
  exact h2.swap3
theorem marks_getD_nil (k : Int) (n : Nat) : (marks k n).length = n := length_marks k n
theorem markSS_markSS : ∀ (ls : List (List Int)) (k : Int), markSS k (markSS k ls) = markSS k ls
  | [], _ => rfl
  | l :: r, k => by simp only [markSS, length_marks]; rw [markSS_markSS r]
theorem heldInt64SS_again (k : Int) (ls : List (List Int)) : (if markSS k ls = markSS k (markSS k ls) then k + (tot (markSS k ls) : Int) else -1) = k + tot ls := by
  rw [if_pos (markSS_markSS ls k).symm, tot_markSS]

set_option maxRecDepth 4000 in
/-- laws.FnExactValidCode -/
theorem f_l_FnExactValidCode (w : World) (vls : Value) (ls : List (List Int)) (hsls : RdSS w vls ls) (hals : ls.length ≤ 9223372036854775807) (hbls : ∀ i, i < ls.length → (ls.getD i []).length ≤ 9223372036854775807) : RetV Try.prog 6 [vls] w (.bool true) := by
  refine Ret.enter Try.func6 rfl Try.ntmps6 rfl ?_
  refine Run.seq ?_
  refine Run.region ?_
  refine Ops.pure rfl (Pure.assign rfl) ?_
  refine Ops.nil ?_
  refine Run.seq ?_
  refine Run.region ?_
  refine Ops.pure rfl (Pure.assign rfl) ?_
  refine Ops.nil ?_
  refine Run.seq ?_
  refine Run.region ?_
  refine Ops.pure rfl (Pure.move rfl) ?_
  refine Ops.pure rfl (Pure.move rfl) ?_
  refine Ops.q rfl (QOp.call fn22 rfl (fun w hw => f_l_szInt64SS w _ _ _ (by exact RdSS.old (by assumption) hw) (by omega) (by omega) (by assumption) (by assumption))) ?_
  refine Ops.pure rfl (Pure.assign rfl) ?_
  refine Ops.nil ?_
  refine Run.seq ?_
  refine Run.seq ?_
  by_cases hz0 : ((ls.length + tot ls : Nat) : Int) ≤ 1048576
  · skip
    rw [if_pos hz0]
    refine Run.region ?_
    refine Ops.pure rfl (Pure.move rfl) ?_
    refine Ops.pure rfl (Pure.lss rfl rfl) ?_
    refine Ops.nil ?_
    refine Run.condEF rfl (decide_eq_false (by omega)) ?_
    refine Run.skip ?_
    refine Run.seq ?_
    refine Run.region ?_
    refine Ops.pure rfl (Pure.move rfl) ?_
    refine Ops.go rfl (Loud.callR fn24 rfl (fun w hw => f_l_toInt64SS w _ _ (by exact RdSS.old (by assumption) hw) (by omega))) ?_
    rintro v13 _ ⟨L13, hQ13, rfl⟩
    obtain ⟨us13, hul13, rfl⟩ := hQ13
    refine Ops.q rfl (QOp.call fn27 rfl (fun w hw => f_s_ValidCode w _ _ (by exact RdSS.o0 hw (by first | assumption | (rw [length_markSS]; assumption))) (by omega))) ?_
    refine Ops.pure rfl (Pure.assign rfl) ?_
    refine Ops.nil ?_
    refine Run.seq ?_
    refine Run.region ?_
    refine Ops.pure rfl (Pure.move rfl) ?_
    refine Ops.go rfl (Loud.callR fn24 rfl (fun w hw => f_l_toInt64SS w _ _ (by exact RdSS.old (by assumption) hw) (by omega))) ?_
    rintro v16 _ ⟨L16, hQ16, rfl⟩
    obtain ⟨us16, hul16, rfl⟩ := hQ16
    refine Ops.pure rfl (Pure.assign rfl) ?_
    refine Ops.nil ?_
    refine Run.seq ?_
    refine Run.region ?_
    refine Ops.pure rfl (Pure.move rfl) ?_
    refine Ops.q rfl (QOp.call fn28 rfl (fun w hw => f_i_ValidCode w _ _ (by exact RdSS.o0 hw (by first | assumption | (rw [length_markSS]; assumption))) (by omega))) ?_
    refine Ops.pure rfl (Pure.assign rfl) ?_
    refine Ops.nil ?_
    refine Run.seq ?_
    refine Run.seq ?_
    refine Run.region ?_
    refine Ops.pure rfl (Pure.move rfl) ?_
    refine Ops.pure rfl (Pure.move rfl) ?_
    refine Ops.pure rfl (Pure.neqB und4 rfl rfl) ?_
    refine Ops.nil ?_
    refine Run.condEF rfl (by simp) ?_
    refine Run.skip ?_
    refine Run.seq ?_
    refine Run.seq ?_
    refine Run.region ?_
    refine Ops.pure rfl (Pure.move rfl) ?_
    refine Ops.pure rfl (Pure.move rfl) ?_
    refine Ops.go rfl (Loud.callR fn24 rfl (fun w hw => f_l_toInt64SS w _ _ (by exact RdSS.old (by assumption) hw) (by omega))) ?_
    rintro v24 _ ⟨L24, hQ24, rfl⟩
    obtain ⟨us24, hul24, rfl⟩ := hQ24
    refine Ops.q rfl (QOp.call fn26 rfl (fun w hw => f_l_eqInt64SS w _ _ _ _ (by exact RdSS.o1 hw (by first | assumption | (rw [length_markSS]; assumption))) (by exact RdSS.o0 hw (by first | assumption | (rw [length_markSS]; assumption))) (by omega) (by omega))) ?_
    refine Ops.pure rfl (Pure.not rfl) ?_
    refine Ops.nil ?_
    refine Run.condEF rfl (by simp) ?_
    refine Run.skip ?_
    refine Run.seq ?_
    refine Run.region ?_
    refine Ops.pure rfl (Pure.assign rfl) ?_
    refine Ops.nil ?_
    refine Run.ret1 rfl rfl ?_
    rfl
  · skip
    rw [if_neg hz0]
    refine Run.region ?_
    refine Ops.pure rfl (Pure.move rfl) ?_
    refine Ops.pure rfl (Pure.lss rfl rfl) ?_
    refine Ops.nil ?_
    refine Run.condE rfl (decide_eq_true (by omega)) ?_
    refine Run.seq ?_
    refine Run.region ?_
    refine Ops.pure rfl (Pure.assign rfl) ?_
    refine Ops.nil ?_
    refine Run.ret1 rfl rfl ?_
    rfl

set_option maxRecDepth 4000 in
/-- laws.FnExactCountCoded -/
theorem f_l_FnExactCountCoded (w : World) (vls : Value) (ls : List (List Int)) (hsls : RdSS w vls ls) (hals : ls.length ≤ 9223372036854775807) (hbls : ∀ i, i < ls.length → (ls.getD i []).length ≤ 9223372036854775807) : RetV Try.prog 7 [vls] w (.bool true) := by
  refine Ret.enter Try.func7 rfl Try.ntmps7 rfl ?_
  refine Run.seq ?_
  refine Run.region ?_
  refine Ops.pure rfl (Pure.assign rfl) ?_
  refine Ops.nil ?_
  refine Run.seq ?_
  refine Run.region ?_
  refine Ops.pure rfl (Pure.assign rfl) ?_
  refine Ops.nil ?_
  refine Run.seq ?_
  refine Run.region ?_
  refine Ops.pure rfl (Pure.move rfl) ?_
  refine Ops.pure rfl (Pure.move rfl) ?_
  refine Ops.q rfl (QOp.call fn22 rfl (fun w hw => f_l_szInt64SS w _ _ _ (by exact RdSS.old (by assumption) hw) (by omega) (by omega) (by assumption) (by assumption))) ?_
  refine Ops.pure rfl (Pure.assign rfl) ?_
  refine Ops.nil ?_
  refine Run.seq ?_
  refine Run.seq ?_
  by_cases hz0 : ((ls.length + tot ls : Nat) : Int) ≤ 1048576
  · skip
    rw [if_pos hz0]
    refine Run.region ?_
    refine Ops.pure rfl (Pure.move rfl) ?_
    refine Ops.pure rfl (Pure.lss rfl rfl) ?_
    refine Ops.nil ?_
    refine Run.condEF rfl (decide_eq_false (by omega)) ?_
    refine Run.skip ?_
    refine Run.seq ?_
    refine Run.region ?_
    refine Ops.pure rfl (Pure.move rfl) ?_
    refine Ops.go rfl (Loud.callR fn24 rfl (fun w hw => f_l_toInt64SS w _ _ (by exact RdSS.old (by assumption) hw) (by omega))) ?_
    rintro v16 _ ⟨L16, hQ16, rfl⟩
    obtain ⟨us16, hul16, rfl⟩ := hQ16
    refine Ops.q rfl (QOp.call fn29 rfl (fun w hw => f_s_CountCoded w _ _ (by exact RdSS.o0 hw (by first | assumption | (rw [length_markSS]; assumption))) (by omega))) ?_
    refine Ops.pure rfl (Pure.move rfl) ?_
    refine Ops.pure rfl (Pure.extract rfl rfl) ?_
    refine Ops.pure rfl (Pure.extract rfl rfl) ?_
    refine Ops.pure rfl (Pure.assign rfl) ?_
    refine Ops.pure rfl (Pure.assign rfl) ?_
    refine Ops.nil ?_
    refine Run.seq ?_
    refine Run.region ?_
    refine Ops.pure rfl (Pure.move rfl) ?_
    refine Ops.go rfl (Loud.callR fn24 rfl (fun w hw => f_l_toInt64SS w _ _ (by exact RdSS.old (by assumption) hw) (by omega))) ?_
    rintro v21 _ ⟨L21, hQ21, rfl⟩
    obtain ⟨us21, hul21, rfl⟩ := hQ21
    refine Ops.pure rfl (Pure.assign rfl) ?_
    refine Ops.nil ?_
    refine Run.seq ?_
    refine Run.region ?_
    refine Ops.pure rfl (Pure.move rfl) ?_
    refine Ops.q rfl (QOp.call fn30 rfl (fun w hw => f_i_CountCoded w _ _ (by exact RdSS.o0 hw (by first | assumption | (rw [length_markSS]; assumption))) (by omega))) ?_
    refine Ops.pure rfl (Pure.move rfl) ?_
    refine Ops.pure rfl (Pure.extract rfl rfl) ?_
    refine Ops.pure rfl (Pure.extract rfl rfl) ?_
    refine Ops.pure rfl (Pure.assign rfl) ?_
    refine Ops.pure rfl (Pure.assign rfl) ?_
    refine Ops.nil ?_
    refine Run.seq ?_
    refine Run.seq ?_
    refine Run.region ?_
    refine Ops.pure rfl (Pure.move rfl) ?_
    refine Ops.pure rfl (Pure.move rfl) ?_
    refine Ops.pure rfl (Pure.neq rfl rfl) ?_
    refine Ops.pure rfl (Pure.move rfl) ?_
    refine Ops.guardY rfl rfl rfl (by simp) ?_
    refine Ops.pure rfl (Pure.move rfl) ?_
    refine Ops.guardY rfl rfl rfl (by simp) ?_
    refine Ops.pure rfl (Pure.move rfl) ?_
    refine Ops.guardY rfl rfl rfl (by simp) ?_
    refine Ops.pure rfl (Pure.neq rfl rfl) ?_
    refine Ops.pure rfl (Pure.pickF rfl (by simp) rfl) ?_
    refine Ops.nil ?_
    refine Run.condEF rfl (by simp) ?_
    refine Run.skip ?_
    refine Run.seq ?_
    refine Run.seq ?_
    refine Run.region ?_
    refine Ops.pure rfl (Pure.move rfl) ?_
    refine Ops.pure rfl (Pure.move rfl) ?_
    refine Ops.go rfl (Loud.callR fn24 rfl (fun w hw => f_l_toInt64SS w _ _ (by exact RdSS.old (by assumption) hw) (by omega))) ?_
    rintro v37 _ ⟨L37, hQ37, rfl⟩
    obtain ⟨us37, hul37, rfl⟩ := hQ37
    refine Ops.q rfl (QOp.call fn26 rfl (fun w hw => f_l_eqInt64SS w _ _ _ _ (by exact RdSS.o1 hw (by first | assumption | (rw [length_markSS]; assumption))) (by exact RdSS.o0 hw (by first | assumption | (rw [length_markSS]; assumption))) (by omega) (by omega))) ?_
    refine Ops.pure rfl (Pure.not rfl) ?_
    refine Ops.nil ?_
    refine Run.condEF rfl (by simp) ?_
    refine Run.skip ?_
    refine Run.seq ?_
    refine Run.region ?_
    refine Ops.pure rfl (Pure.assign rfl) ?_
    refine Ops.nil ?_
    refine Run.ret1 rfl rfl ?_
    rfl
  · skip
    rw [if_neg hz0]
    refine Run.region ?_
    refine Ops.pure rfl (Pure.move rfl) ?_
    refine Ops.pure rfl (Pure.lss rfl rfl) ?_
    refine Ops.nil ?_
    refine Run.condE rfl (decide_eq_true (by omega)) ?_
    refine Run.seq ?_
    refine Run.region ?_
    refine Ops.pure rfl (Pure.assign rfl) ?_
    refine Ops.nil ?_
    refine Run.ret1 rfl rfl ?_
    rfl

set_option maxRecDepth 4000 in
/-- laws.FnExactAlternatingCode -/
theorem f_l_FnExactAlternatingCode (w : World) (vls : Value) (ls : List (List Int)) (hsls : RdSS w vls ls) (hals : ls.length ≤ 9223372036854775807) (hbls : ∀ i, i < ls.length → (ls.getD i []).length ≤ 9223372036854775807) : RetV Try.prog 8 [vls] w (.bool true) := by
  refine Ret.enter Try.func8 rfl Try.ntmps8 rfl ?_
  refine Run.seq ?_
  refine Run.region ?_
  refine Ops.pure rfl (Pure.assign rfl) ?_
  refine Ops.nil ?_
  refine Run.seq ?_
  refine Run.region ?_
  refine Ops.pure rfl (Pure.assign rfl) ?_
  refine Ops.nil ?_
  refine Run.seq ?_
  refine Run.region ?_
  refine Ops.pure rfl (Pure.move rfl) ?_
  refine Ops.pure rfl (Pure.move rfl) ?_
  refine Ops.q rfl (QOp.call fn22 rfl (fun w hw => f_l_szInt64SS w _ _ _ (by exact RdSS.old (by assumption) hw) (by omega) (by omega) (by assumption) (by assumption))) ?_
  refine Ops.pure rfl (Pure.assign rfl) ?_
  refine Ops.nil ?_
  refine Run.seq ?_
  refine Run.seq ?_
  by_cases hz0 : ((ls.length + tot ls : Nat) : Int) ≤ 1048576
  · skip
    rw [if_pos hz0]
    refine Run.region ?_
    refine Ops.pure rfl (Pure.move rfl) ?_
    refine Ops.pure rfl (Pure.lss rfl rfl) ?_
    refine Ops.nil ?_
    refine Run.condEF rfl (decide_eq_false (by omega)) ?_
    refine Run.skip ?_
    refine Run.seq ?_
    refine Run.region ?_
    refine Ops.pure rfl (Pure.move rfl) ?_
    refine Ops.go rfl (Loud.callR fn24 rfl (fun w hw => f_l_toInt64SS w _ _ (by exact RdSS.old (by assumption) hw) (by omega))) ?_
    rintro v13 _ ⟨L13, hQ13, rfl⟩
    obtain ⟨us13, hul13, rfl⟩ := hQ13
    refine Ops.q rfl (QOp.call fn31 rfl (fun w hw => f_s_AlternatingCode w _ _ (by exact RdSS.o0 hw (by first | assumption | (rw [length_markSS]; assumption))) (by omega))) ?_
    refine Ops.pure rfl (Pure.assign rfl) ?_
    refine Ops.nil ?_
    refine Run.seq ?_
    refine Run.region ?_
    refine Ops.pure rfl (Pure.move rfl) ?_
    refine Ops.go rfl (Loud.callR fn24 rfl (fun w hw => f_l_toInt64SS w _ _ (by exact RdSS.old (by assumption) hw) (by omega))) ?_
    rintro v16 _ ⟨L16, hQ16, rfl⟩
    obtain ⟨us16, hul16, rfl⟩ := hQ16
    refine Ops.pure rfl (Pure.assign rfl) ?_
    refine Ops.nil ?_
    refine Run.seq ?_
    refine Run.region ?_
    refine Ops.pure rfl (Pure.move rfl) ?_
    refine Ops.q rfl (QOp.call fn32 rfl (fun w hw => f_i_AlternatingCode w _ _ (by exact RdSS.o0 hw (by first | assumption | (rw [length_markSS]; assumption))) (by omega))) ?_
    refine Ops.pure rfl (Pure.assign rfl) ?_
    refine Ops.nil ?_
    refine Run.seq ?_
    refine Run.seq ?_
    refine Run.region ?_
    refine Ops.pure rfl (Pure.move rfl) ?_
    refine Ops.pure rfl (Pure.move rfl) ?_
    refine Ops.pure rfl (Pure.neqB und4 rfl rfl) ?_
    refine Ops.nil ?_
    refine Run.condEF rfl (by simp) ?_
    refine Run.skip ?_
    refine Run.seq ?_
    refine Run.seq ?_
    refine Run.region ?_
    refine Ops.pure rfl (Pure.move rfl) ?_
    refine Ops.pure rfl (Pure.move rfl) ?_
    refine Ops.go rfl (Loud.callR fn24 rfl (fun w hw => f_l_toInt64SS w _ _ (by exact RdSS.old (by assumption) hw) (by omega))) ?_
    rintro v24 _ ⟨L24, hQ24, rfl⟩
    obtain ⟨us24, hul24, rfl⟩ := hQ24
    refine Ops.q rfl (QOp.call fn26 rfl (fun w hw => f_l_eqInt64SS w _ _ _ _ (by exact RdSS.o1 hw (by first | assumption | (rw [length_markSS]; assumption))) (by exact RdSS.o0 hw (by first | assumption | (rw [length_markSS]; assumption))) (by omega) (by omega))) ?_
    refine Ops.pure rfl (Pure.not rfl) ?_
    refine Ops.nil ?_
    refine Run.condEF rfl (by simp) ?_
    refine Run.skip ?_
    refine Run.seq ?_
    refine Run.region ?_
    refine Ops.pure rfl (Pure.assign rfl) ?_
    refine Ops.nil ?_
    refine Run.ret1 rfl rfl ?_
    rfl
  · skip
    rw [if_neg hz0]
    refine Run.region ?_
    refine Ops.pure rfl (Pure.move rfl) ?_
    refine Ops.pure rfl (Pure.lss rfl rfl) ?_
    refine Ops.nil ?_
    refine Run.condE rfl (decide_eq_true (by omega)) ?_
    refine Run.seq ?_
    refine Run.region ?_
    refine Ops.pure rfl (Pure.assign rfl) ?_
    refine Ops.nil ?_
    refine Run.ret1 rfl rfl ?_
    rfl

set_option maxRecDepth 4000 in
/-- laws.FnExactSameCode -/
theorem f_l_FnExactSameCode (w : World) (vls : Value) (ls : List (List Int)) (vms : Value) (ms : List (List Int)) (hsls : RdSS w vls ls) (hals : ls.length ≤ 9223372036854775807) (hbls : ∀ i, i < ls.length → (ls.getD i []).length ≤ 9223372036854775807) (hsms : RdSS w vms ms) (hams : ms.length ≤ 9223372036854775807) (hbms : ∀ i, i < ms.length → (ms.getD i []).length ≤ 9223372036854775807) : RetV Try.prog 5 [vls, vms] w (.bool true) := by
  refine Ret.enter Try.func5 rfl Try.ntmps5 rfl ?_
  refine Run.seq ?_
  refine Run.region ?_
  refine Ops.pure rfl (Pure.assign rfl) ?_
  refine Ops.nil ?_
  refine Run.seq ?_
  refine Run.region ?_
  refine Ops.pure rfl (Pure.assign rfl) ?_
  refine Ops.nil ?_
  refine Run.seq ?_
  refine Run.region ?_
  refine Ops.pure rfl (Pure.move rfl) ?_
  refine Ops.pure rfl (Pure.move rfl) ?_
  refine Ops.q rfl (QOp.call fn22 rfl (fun w hw => f_l_szInt64SS w _ _ _ (by exact RdSS.old (by assumption) hw) (by omega) (by omega) (by assumption) (by assumption))) ?_
  refine Ops.pure rfl (Pure.assign rfl) ?_
  refine Ops.nil ?_
  refine Run.seq ?_
  refine Run.seq ?_
  by_cases hz0 : ((ls.length + tot ls : Nat) : Int) ≤ 1048576
  · skip
    rw [if_pos hz0]
    refine Run.region ?_
    refine Ops.pure rfl (Pure.move rfl) ?_
    refine Ops.pure rfl (Pure.lss rfl rfl) ?_
    refine Ops.nil ?_
    refine Run.condEF rfl (decide_eq_false (by omega)) ?_
    refine Run.skip ?_
    refine Run.seq ?_
    refine Run.region ?_
    refine Ops.pure rfl (Pure.move rfl) ?_
    refine Ops.pure rfl (Pure.move rfl) ?_
    refine Ops.q rfl (QOp.call fn22 rfl (fun w hw => f_l_szInt64SS w _ _ _ (by exact RdSS.old (by assumption) hw) (by omega) (by omega) (by assumption) (by assumption))) ?_
    refine Ops.pure rfl (Pure.assign rfl) ?_
    refine Ops.nil ?_
    refine Run.seq ?_
    refine Run.seq ?_
    by_cases hz1 : ((ms.length + tot ms : Nat) : Int) ≤ 1048576 - ((ls.length + tot ls : Nat) : Int)
    · skip
      rw [if_pos hz1]
      refine Run.region ?_
      refine Ops.pure rfl (Pure.move rfl) ?_
      refine Ops.pure rfl (Pure.lss rfl rfl) ?_
      refine Ops.nil ?_
      refine Run.condEF rfl (decide_eq_false (by omega)) ?_
      refine Run.skip ?_
      refine Run.seq ?_
      refine Run.region ?_
      refine Ops.pure rfl (Pure.move rfl) ?_
      refine Ops.go rfl (Loud.callR fn24 rfl (fun w hw => f_l_toInt64SS w _ _ (by exact RdSS.old (by assumption) hw) (by omega))) ?_
      rintro v21 _ ⟨L21, hQ21, rfl⟩
      obtain ⟨us21, hul21, rfl⟩ := hQ21
      refine Ops.pure rfl (Pure.move rfl) ?_
      refine Ops.go rfl (Loud.callR fn24 rfl (fun w hw => f_l_toInt64SS w _ _ (by exact RdSS.old (by assumption) hw) (by omega))) ?_
      rintro v23 _ ⟨L23, hQ23, rfl⟩
      obtain ⟨us23, hul23, rfl⟩ := hQ23
      refine Ops.q rfl (QOp.call fn23 rfl (fun w hw => f_s_SameCode w _ _ _ _ (by exact RdSS.o1 hw (by first | assumption | (rw [length_markSS]; assumption))) (by exact RdSS.o0 hw (by first | assumption | (rw [length_markSS]; assumption))) (by omega) (by omega))) ?_
      refine Ops.pure rfl (Pure.assign rfl) ?_
      refine Ops.nil ?_
      refine Run.seq ?_
      refine Run.region ?_
      refine Ops.pure rfl (Pure.move rfl) ?_
      refine Ops.go rfl (Loud.callR fn24 rfl (fun w hw => f_l_toInt64SS w _ _ (by exact RdSS.old (by assumption) hw) (by omega))) ?_
      rintro v26 _ ⟨L26, hQ26, rfl⟩
      obtain ⟨us26, hul26, rfl⟩ := hQ26
      refine Ops.pure rfl (Pure.assign rfl) ?_
      refine Ops.nil ?_
      refine Run.seq ?_
      refine Run.region ?_
      refine Ops.pure rfl (Pure.move rfl) ?_
      refine Ops.go rfl (Loud.callR fn24 rfl (fun w hw => f_l_toInt64SS w _ _ (by exact RdSS.old (by assumption) hw) (by omega))) ?_
      rintro v28 _ ⟨L28, hQ28, rfl⟩
      obtain ⟨us28, hul28, rfl⟩ := hQ28
      refine Ops.pure rfl (Pure.assign rfl) ?_
      refine Ops.nil ?_
      refine Run.seq ?_
      refine Run.region ?_
      refine Ops.pure rfl (Pure.move rfl) ?_
      refine Ops.pure rfl (Pure.move rfl) ?_
      refine Ops.q rfl (QOp.call fn25 rfl (fun w hw => f_i_SameCode w _ _ _ _ (by exact RdSS.o1 hw (by first | assumption | (rw [length_markSS]; assumption))) (by exact RdSS.o0 hw (by first | assumption | (rw [length_markSS]; assumption))) (by omega) (by omega))) ?_
      refine Ops.pure rfl (Pure.assign rfl) ?_
      refine Ops.nil ?_
      refine Run.seq ?_
      refine Run.seq ?_
      refine Run.region ?_
      refine Ops.pure rfl (Pure.move rfl) ?_
      refine Ops.pure rfl (Pure.move rfl) ?_
      refine Ops.pure rfl (Pure.neqB und4 rfl rfl) ?_
      refine Ops.nil ?_
      refine Run.condEF rfl (by simp) ?_
      refine Run.skip ?_
      refine Run.seq ?_
      refine Run.seq ?_
      refine Run.region ?_
      refine Ops.pure rfl (Pure.move rfl) ?_
      refine Ops.pure rfl (Pure.move rfl) ?_
      refine Ops.go rfl (Loud.callR fn24 rfl (fun w hw => f_l_toInt64SS w _ _ (by exact RdSS.old (by assumption) hw) (by omega))) ?_
      rintro v37 _ ⟨L37, hQ37, rfl⟩
      obtain ⟨us37, hul37, rfl⟩ := hQ37
      refine Ops.q rfl (QOp.call fn26 rfl (fun w hw => f_l_eqInt64SS w _ _ _ _ (by exact RdSS.o2 hw (by first | assumption | (rw [length_markSS]; assumption))) (by exact RdSS.o0 hw (by first | assumption | (rw [length_markSS]; assumption))) (by omega) (by omega))) ?_
      refine Ops.pure rfl (Pure.not rfl) ?_
      refine Ops.nil ?_
      refine Run.condEF rfl (by simp) ?_
      refine Run.skip ?_
      refine Run.seq ?_
      refine Run.seq ?_
      refine Run.region ?_
      refine Ops.pure rfl (Pure.move rfl) ?_
      refine Ops.pure rfl (Pure.move rfl) ?_
      refine Ops.go rfl (Loud.callR fn24 rfl (fun w hw => f_l_toInt64SS w _ _ (by exact RdSS.old (by assumption) hw) (by omega))) ?_
      rintro v42 _ ⟨L42, hQ42, rfl⟩
      obtain ⟨us42, hul42, rfl⟩ := hQ42
      refine Ops.q rfl (QOp.call fn26 rfl (fun w hw => f_l_eqInt64SS w _ _ _ _ (by exact RdSS.o2 hw (by first | assumption | (rw [length_markSS]; assumption))) (by exact RdSS.o0 hw (by first | assumption | (rw [length_markSS]; assumption))) (by omega) (by omega))) ?_
      refine Ops.pure rfl (Pure.not rfl) ?_
      refine Ops.nil ?_
      refine Run.condEF rfl (by simp) ?_
      refine Run.skip ?_
      refine Run.seq ?_
      refine Run.region ?_
      refine Ops.pure rfl (Pure.assign rfl) ?_
      refine Ops.nil ?_
      refine Run.ret1 rfl rfl ?_
      rfl
    · skip
      rw [if_neg hz1]
      refine Run.region ?_
      refine Ops.pure rfl (Pure.move rfl) ?_
      refine Ops.pure rfl (Pure.lss rfl rfl) ?_
      refine Ops.nil ?_
      refine Run.condE rfl (decide_eq_true (by omega)) ?_
      refine Run.seq ?_
      refine Run.region ?_
      refine Ops.pure rfl (Pure.assign rfl) ?_
      refine Ops.nil ?_
      refine Run.ret1 rfl rfl ?_
      rfl
  · skip
    rw [if_neg hz0]
    refine Run.region ?_
    refine Ops.pure rfl (Pure.move rfl) ?_
    refine Ops.pure rfl (Pure.lss rfl rfl) ?_
    refine Ops.nil ?_
    refine Run.condE rfl (decide_eq_true (by omega)) ?_
    refine Run.seq ?_
    refine Run.region ?_
    refine Ops.pure rfl (Pure.assign rfl) ?_
    refine Ops.nil ?_
    refine Run.ret1 rfl rfl ?_
    rfl

set_option maxRecDepth 4000 in
/-- laws.FnExactCurvesAt -/
theorem f_l_FnExactCurvesAt (w : World) (vls : Value) (ls : List (List Int)) (x : Int) (hsls : RdSS w vls ls) (hals : ls.length ≤ 9223372036854775807) (hbls : ∀ i, i < ls.length → (ls.getD i []).length ≤ 9223372036854775807) (hax : -9223372036854775808 ≤ x) (hbx : x ≤ 9223372036854775807) : RetV Try.prog 9 [vls, .int .i64 x] w (.bool true) := by
  refine Ret.enter Try.func9 rfl Try.ntmps9 rfl ?_
  refine Run.seq ?_
  refine Run.region ?_
  refine Ops.pure rfl (Pure.assign rfl) ?_
  refine Ops.nil ?_
  refine Run.seq ?_
  refine Run.region ?_
  refine Ops.pure rfl (Pure.assign rfl) ?_
  refine Ops.nil ?_
  refine Run.seq ?_
  refine Run.region ?_
  refine Ops.pure rfl (Pure.move rfl) ?_
  refine Ops.pure rfl (Pure.move rfl) ?_
  refine Ops.q rfl (QOp.call fn22 rfl (fun w hw => f_l_szInt64SS w _ _ _ (by exact RdSS.old (by assumption) hw) (by omega) (by omega) (by assumption) (by assumption))) ?_
  refine Ops.pure rfl (Pure.assign rfl) ?_
  refine Ops.nil ?_
  refine Run.seq ?_
  refine Run.seq ?_
  by_cases hz0 : ((ls.length + tot ls : Nat) : Int) ≤ 1048576
  · skip
    rw [if_pos hz0]
    refine Run.region ?_
    refine Ops.pure rfl (Pure.move rfl) ?_
    refine Ops.pure rfl (Pure.lss rfl rfl) ?_
    refine Ops.nil ?_
    refine Run.condEF rfl (decide_eq_false (by omega)) ?_
    refine Run.skip ?_
    refine Run.seq ?_
    refine Run.region ?_
    refine Ops.pure rfl (Pure.move rfl) ?_
    refine Ops.go rfl (Loud.callR fn24 rfl (fun w hw => f_l_toInt64SS w _ _ (by exact RdSS.old (by assumption) hw) (by omega))) ?_
    rintro v20 _ ⟨L20, hQ20, rfl⟩
    obtain ⟨us20, hul20, rfl⟩ := hQ20
    refine Ops.pure rfl (Pure.move rfl) ?_
    refine Ops.q rfl (QOp.call fn33 rfl (fun w hw => f_s_CurvesAt w _ _ _ (by exact RdSS.o0 hw (by first | assumption | (rw [length_markSS]; assumption))) (by omega))) ?_
    refine Ops.pure rfl (Pure.move rfl) ?_
    refine Ops.pure rfl (Pure.extract rfl rfl) ?_
    refine Ops.pure rfl (Pure.extract rfl rfl) ?_
    refine Ops.pure rfl (Pure.extract rfl rfl) ?_
    refine Ops.pure rfl (Pure.assign rfl) ?_
    refine Ops.pure rfl (Pure.assign rfl) ?_
    refine Ops.pure rfl (Pure.assign rfl) ?_
    refine Ops.nil ?_
    refine Run.seq ?_
    refine Run.region ?_
    refine Ops.pure rfl (Pure.move rfl) ?_
    refine Ops.go rfl (Loud.callR fn24 rfl (fun w hw => f_l_toInt64SS w _ _ (by exact RdSS.old (by assumption) hw) (by omega))) ?_
    rintro v27 _ ⟨L27, hQ27, rfl⟩
    obtain ⟨us27, hul27, rfl⟩ := hQ27
    refine Ops.pure rfl (Pure.assign rfl) ?_
    refine Ops.nil ?_
    refine Run.seq ?_
    refine Run.region ?_
    refine Ops.pure rfl (Pure.move rfl) ?_
    refine Ops.pure rfl (Pure.move rfl) ?_
    refine Ops.q rfl (QOp.call fn34 rfl (fun w hw => f_i_CurvesAt w _ _ _ (by exact RdSS.o0 hw (by first | assumption | (rw [length_markSS]; assumption))) (by omega))) ?_
    refine Ops.pure rfl (Pure.move rfl) ?_
    refine Ops.pure rfl (Pure.extract rfl rfl) ?_
    refine Ops.pure rfl (Pure.extract rfl rfl) ?_
    refine Ops.pure rfl (Pure.extract rfl rfl) ?_
    refine Ops.pure rfl (Pure.assign rfl) ?_
    refine Ops.pure rfl (Pure.assign rfl) ?_
    refine Ops.pure rfl (Pure.assign rfl) ?_
    refine Ops.nil ?_
    refine Run.seq ?_
    refine Run.seq ?_
    refine Run.region ?_
    refine Ops.pure rfl (Pure.move rfl) ?_
    refine Ops.pure rfl (Pure.move rfl) ?_
    refine Ops.pure rfl (Pure.neq rfl rfl) ?_
    refine Ops.pure rfl (Pure.move rfl) ?_
    refine Ops.guardY rfl rfl rfl (by simp) ?_
    refine Ops.pure rfl (Pure.move rfl) ?_
    refine Ops.guardY rfl rfl rfl (by simp) ?_
    refine Ops.pure rfl (Pure.move rfl) ?_
    refine Ops.guardY rfl rfl rfl (by simp) ?_
    refine Ops.pure rfl (Pure.neq rfl rfl) ?_
    refine Ops.pure rfl (Pure.pickF rfl (by simp) rfl) ?_
    refine Ops.pure rfl (Pure.move rfl) ?_
    refine Ops.guardY rfl rfl rfl (by simp) ?_
    refine Ops.pure rfl (Pure.move rfl) ?_
    refine Ops.guardY rfl rfl rfl (by simp) ?_
    refine Ops.pure rfl (Pure.move rfl) ?_
    refine Ops.guardY rfl rfl rfl (by simp) ?_
    refine Ops.pure rfl (Pure.neq rfl rfl) ?_
    refine Ops.pure rfl (Pure.pickF rfl (by simp) rfl) ?_
    refine Ops.nil ?_
    refine Run.condEF rfl (by simp) ?_
    refine Run.skip ?_
    refine Run.seq ?_
    refine Run.seq ?_
    refine Run.region ?_
    refine Ops.pure rfl (Pure.move rfl) ?_
    refine Ops.pure rfl (Pure.move rfl) ?_
    refine Ops.go rfl (Loud.callR fn24 rfl (fun w hw => f_l_toInt64SS w _ _ (by exact RdSS.old (by assumption) hw) (by omega))) ?_
    rintro v50 _ ⟨L50, hQ50, rfl⟩
    obtain ⟨us50, hul50, rfl⟩ := hQ50
    refine Ops.q rfl (QOp.call fn26 rfl (fun w hw => f_l_eqInt64SS w _ _ _ _ (by exact RdSS.o1 hw (by first | assumption | (rw [length_markSS]; assumption))) (by exact RdSS.o0 hw (by first | assumption | (rw [length_markSS]; assumption))) (by omega) (by omega))) ?_
    refine Ops.pure rfl (Pure.not rfl) ?_
    refine Ops.nil ?_
    refine Run.condEF rfl (by simp) ?_
    refine Run.skip ?_
    refine Run.seq ?_
    refine Run.region ?_
    refine Ops.pure rfl (Pure.assign rfl) ?_
    refine Ops.nil ?_
    refine Run.ret1 rfl rfl ?_
    rfl
  · skip
    rw [if_neg hz0]
    refine Run.region ?_
    refine Ops.pure rfl (Pure.move rfl) ?_
    refine Ops.pure rfl (Pure.lss rfl rfl) ?_
    refine Ops.nil ?_
    refine Run.condE rfl (decide_eq_true (by omega)) ?_
    refine Run.seq ?_
    refine Run.region ?_
    refine Ops.pure rfl (Pure.assign rfl) ?_
    refine Ops.nil ?_
    refine Run.ret1 rfl rfl ?_
    rfl

end Go.Proofs.Ytpldgghkhknpnaa
