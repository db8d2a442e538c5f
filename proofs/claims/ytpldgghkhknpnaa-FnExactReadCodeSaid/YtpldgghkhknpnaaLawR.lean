/- Contracts of functions, printed by program from annotations. -/
import Derived.Test.YtpldgghkhknpnaaRdC
namespace Go.Proofs.Ytpldgghkhknpnaa
open Go Go.AW Go.RowKit
set_option linter.unusedVariables false
set_option linter.unusedSimpArgs false

theorem _root_.Go.AW.Sat.swap5 {w0 w : World} {A B C D E F : List Ent} (h : Sat w0 w (A ++ (B ++ (C ++ (D ++ (E ++ F)))))) : Sat w0 w (E ++ (A ++ (B ++ (C ++ (D ++ F))))) := by
  have h2 := h.perm (List.Perm.append_left A (List.Perm.append_left B (List.Perm.append_left C (show (D ++ (E ++ F)).Perm (E ++ (D ++ F)) by rw [← List.append_assoc, ← List.append_assoc]; exact List.perm_append_comm.append_right F))))
  exact h2.swap4
theorem _root_.Go.AW.Sat.toNil {w0 w : World} {A : List Ent} (h : Sat w0 w A) : Sat w0 w (A ++ []) := by rw [List.append_nil]; exact h

set_option maxRecDepth 4000 in
/-- laws.FnExactReadCode -/
theorem f_l_FnExactReadCode (w : World) (s : ByteArray) (has : s.size ≤ 9223372036854775807) : RetV Try.prog 14 [.string s] w (.bool true) := by
  refine Ret.enter Try.func14 rfl Try.ntmps14 rfl ?_
  refine Run.seq ?_
  refine Run.region ?_
  refine Ops.pure rfl (Pure.assign rfl) ?_
  refine Ops.nil ?_
  refine Run.seq ?_
  refine Run.seq ?_
  refine Run.region ?_
  refine Ops.pure rfl (Pure.move rfl) ?_
  refine Ops.pure rfl (Pure.lenS und9 rfl) ?_
  refine Ops.pure rfl (Pure.gtr rfl rfl) ?_
  refine Ops.nil ?_
  refine Run.cond rfl (fun c13 => ?_) (fun c13 => ?_)
  · skip
    replace c13 := dT c13
    refine Run.seq ?_
    refine Run.region ?_
    refine Ops.pure rfl (Pure.assign rfl) ?_
    refine Ops.nil ?_
    refine Run.ret1 rfl rfl ?_
    rfl
  · skip
    replace c13 := dF c13
    refine Run.skip ?_
    refine Run.seq ?_
    have hmz := rcL_size s
    refine Run.region ?_
    refine Ops.pure rfl (Pure.move rfl) ?_
    refine Ops.go rfl (Loud.callR fn45 rfl (fun w hw => f_s_ReadCode w _ (by omega))) ?_
    rintro v16 _ ⟨L16, hQ16, rfl⟩
    obtain ⟨x16, us16, hul16, rfl, rfl⟩ := hQ16
    refine Ops.pure rfl (Pure.move rfl) ?_
    refine Ops.pure rfl (Pure.extract rfl rfl) ?_
    refine Ops.pure rfl (Pure.extract rfl rfl) ?_
    refine Ops.pure rfl (Pure.assign rfl) ?_
    refine Ops.pure rfl (Pure.assign rfl) ?_
    refine Ops.nil ?_
    refine Run.seq ?_
    refine Run.region ?_
    refine Ops.pure rfl (Pure.move rfl) ?_
    refine Ops.go rfl (Loud.callR fn46 rfl (fun w hw => f_i_ReadCode w _ (by omega))) ?_
    rintro v21 _ ⟨L21, hQ21, rfl⟩
    obtain ⟨x21, us21, hul21, rfl, rfl⟩ := hQ21
    refine Ops.pure rfl (Pure.move rfl) ?_
    refine Ops.pure rfl (Pure.extract rfl rfl) ?_
    refine Ops.pure rfl (Pure.extract rfl rfl) ?_
    refine Ops.pure rfl (Pure.assign rfl) ?_
    refine Ops.pure rfl (Pure.assign rfl) ?_
    refine Ops.nil ?_
    refine Run.seq ?_
    refine Run.seq ?_
    refine Run.region ?_
    refine Ops.pure rfl (Pure.move rfl) ?_
    refine Ops.pure rfl (Pure.move rfl) ?_
    refine Ops.q rfl (QOp.call fn26 rfl (fun w hw => f_l_eqInt64SS w _ _ _ _ (by exact RdSS.o0 hw (by first | assumption | (rw [length_markSS]; assumption))) (by exact RdSS.o1 hw (by first | assumption | (rw [length_markSS]; assumption))) (by omega) (by omega))) ?_
    refine Ops.pure rfl (Pure.not rfl) ?_
    refine Ops.pure rfl (Pure.move rfl) ?_
    refine Ops.guardY rfl rfl rfl (by simp) ?_
    refine Ops.pure rfl (Pure.move rfl) ?_
    refine Ops.guardY rfl rfl rfl (by simp) ?_
    refine Ops.pure rfl (Pure.move rfl) ?_
    refine Ops.guardY rfl rfl rfl (by simp) ?_
    refine Ops.pure rfl (Pure.neqB und4 rfl rfl) ?_
    refine Ops.pure rfl (Pure.pickF rfl (by simp) rfl) ?_
    refine Ops.nil ?_
    refine Run.condEF rfl (by simp) ?_
    refine Run.skip ?_
    refine Run.seq ?_
    refine Run.region ?_
    refine Ops.pure rfl (Pure.assign rfl) ?_
    refine Ops.nil ?_
    refine Run.seq ?_
    refine Run.region ?_
    refine Ops.pure rfl (Pure.move rfl) ?_
    refine Ops.pure rfl (Pure.move rfl) ?_
    refine Ops.go rfl (Loud.callO fn37 rfl (fun w hw => f_l_markInt64SS _ w _ _ _ _ _ (by assumption) (by assumption) (by omega) (by omega) (by omega))) ?_
    rintro v35 L35 hQ35
    obtain ⟨rfl, rfl⟩ := hQ35
    refine Ops.pure rfl (Pure.assign rfl) ?_
    refine Ops.nil ?_
    refine Run.seq ?_
    refine Run.region ?_
    refine Ops.pure rfl (Pure.assign rfl) ?_
    refine Ops.nil ?_
    refine Run.seq ?_
    refine Run.region ?_
    refine Ops.pure rfl (Pure.move rfl) ?_
    refine Ops.pure rfl (Pure.move rfl) ?_
    refine Ops.q rfl (QOp.call fn38 rfl (fun w hw => (f_l_heldInt64SS w _ _ _ (by exact RdSS.o0 hw (by first | assumption | (rw [length_markSS]; assumption))) (by (rw [length_markSS, tot_markSS]; omega)) (by omega) (by omega)).cong (by rw [heldInt64SS_again]))) ?_
    refine Ops.pure rfl (Pure.assign rfl) ?_
    refine Ops.nil ?_
    refine Run.seq ?_
    refine Run.seq ?_
    refine Run.region ?_
    refine Ops.pure rfl (Pure.move rfl) ?_
    refine Ops.pure rfl (Pure.lss rfl rfl) ?_
    refine Ops.nil ?_
    refine Run.condEF rfl (decide_eq_false (by omega)) ?_
    refine Run.skip ?_
    refine Run.seq ?_
    refine Run.seq ?_
    refine Run.region ?_
    refine Ops.pure rfl (Pure.move rfl) ?_
    refine Ops.pure rfl (Pure.move rfl) ?_
    refine Ops.pure rfl (Pure.neq rfl rfl) ?_
    refine Ops.nil ?_
    refine Run.condEF rfl (by simp) ?_
    refine Run.skip ?_
    refine Run.seq ?_
    refine Run.region ?_
    refine Ops.pure rfl (Pure.move rfl) ?_
    refine Ops.go rfl (Loud.callR fn46 rfl (fun w hw => f_i_ReadCode w _ (by omega))) ?_
    rintro v46 _ ⟨L46, hQ46, rfl⟩
    obtain ⟨x46, us46, hul46, rfl, rfl⟩ := hQ46
    refine Ops.pure rfl (Pure.move rfl) ?_
    refine Ops.pure rfl (Pure.extract rfl rfl) ?_
    refine Ops.pure rfl (Pure.extract rfl rfl) ?_
    refine Ops.pure rfl (Pure.assign rfl) ?_
    refine Ops.pure rfl (Pure.assign rfl) ?_
    refine Ops.nil ?_
    refine Run.seq ?_
    refine Run.seq ?_
    refine Run.region ?_
    refine Ops.pure rfl (Pure.move rfl) ?_
    refine Ops.pure rfl (Pure.move rfl) ?_
    refine Ops.q rfl (QOp.call fn26 rfl (fun w hw => f_l_eqInt64SS w _ _ _ _ (by exact RdSS.o0 hw (by first | assumption | (rw [length_markSS]; assumption))) (by exact RdSS.o2 hw (by first | assumption | (rw [length_markSS]; assumption))) (by omega) (by omega))) ?_
    refine Ops.pure rfl (Pure.not rfl) ?_
    refine Ops.pure rfl (Pure.move rfl) ?_
    refine Ops.guardY rfl rfl rfl (by simp) ?_
    refine Ops.pure rfl (Pure.move rfl) ?_
    refine Ops.guardY rfl rfl rfl (by simp) ?_
    refine Ops.pure rfl (Pure.move rfl) ?_
    refine Ops.guardY rfl rfl rfl (by simp) ?_
    refine Ops.pure rfl (Pure.neqB und4 rfl rfl) ?_
    refine Ops.pure rfl (Pure.pickF rfl (by simp) rfl) ?_
    refine Ops.nil ?_
    refine Run.condEF rfl (by simp) ?_
    refine Run.skip ?_
    refine Run.seq ?_
    refine Run.region ?_
    refine Ops.pure rfl (Pure.assign rfl) ?_
    refine Ops.nil ?_
    refine Run.seq ?_
    refine Run.region ?_
    refine Ops.pure rfl (Pure.move rfl) ?_
    refine Ops.pure rfl (Pure.move rfl) ?_
    refine Ops.q rfl (QOp.call fn38 rfl (fun w hw => (f_l_heldInt64SS w _ _ _ (by exact RdSS.o1 hw (by first | assumption | (rw [length_markSS]; assumption))) (by (rw [length_markSS, tot_markSS]; omega)) (by omega) (by omega)).cong (by rw [heldInt64SS_again]))) ?_
    refine Ops.pure rfl (Pure.assign rfl) ?_
    refine Ops.nil ?_
    refine Run.seq ?_
    refine Run.seq ?_
    refine Run.region ?_
    refine Ops.pure rfl (Pure.move rfl) ?_
    refine Ops.pure rfl (Pure.lss rfl rfl) ?_
    refine Ops.nil ?_
    refine Run.condEF rfl (decide_eq_false (by omega)) ?_
    refine Run.skip ?_
    refine Run.seq ?_
    refine Run.seq ?_
    refine Run.region ?_
    refine Ops.pure rfl (Pure.move rfl) ?_
    refine Ops.pure rfl (Pure.move rfl) ?_
    refine Ops.pure rfl (Pure.neq rfl rfl) ?_
    refine Ops.nil ?_
    refine Run.condEF rfl (by simp) ?_
    refine Run.skip ?_
    refine Run.seq ?_
    refine Run.region ?_
    refine Ops.pure rfl (Pure.assign rfl) ?_
    refine Ops.nil ?_
    refine Run.ret1 rfl rfl ?_
    rfl

end Go.Proofs.Ytpldgghkhknpnaa
