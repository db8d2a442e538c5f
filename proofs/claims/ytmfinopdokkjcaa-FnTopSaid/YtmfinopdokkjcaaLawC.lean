/- Contracts of functions, printed by program from annotations. -/
import Derived.Test.YtmfinopdokkjcaaCodes
namespace Go.Proofs.Ytmfinopdokkjcaa
open Go Go.AW Go.RowKit
set_option linter.unusedVariables false
set_option linter.unusedSimpArgs false

theorem RdSS.o0 {w0 w : World} {C : List Ent} {v : Value} {vs : List Value} {ls : List (List Int)} (hw : Sat w0 w (ssE v vs ls ++ C)) (h : vs.length = ls.length) : RdSS w v ls := RdSS.own hw h (Ext.left _ _)
theorem RdSS.oS {w0 w : World} {C : List Ent} {v : Value} {vs : List Value} {ls : List (List Int)} (hw : Sat w0 w (ssE v vs ls)) (h : vs.length = ls.length) : RdSS w v ls := RdSS.own hw h (Ext.refl _)
theorem RdSS.o1 {w0 w : World} {A C : List Ent} {v : Value} {vs : List Value} {ls : List (List Int)} (hw : Sat w0 w (A ++ (ssE v vs ls ++ C))) (h : vs.length = ls.length) : RdSS w v ls := RdSS.own hw h ((Ext.left _ _).trans (Ext.right _ _))
theorem RdSS.o2 {w0 w : World} {A B C : List Ent} {v : Value} {vs : List Value} {ls : List (List Int)} (hw : Sat w0 w (A ++ (B ++ (ssE v vs ls ++ C)))) (h : vs.length = ls.length) : RdSS w v ls := RdSS.o1 (hw.ext (Ext.right _ _)) h
theorem RdSS.o3 {w0 w : World} {A B C D : List Ent} {v : Value} {vs : List Value} {ls : List (List Int)} (hw : Sat w0 w (A ++ (B ++ (D ++ (ssE v vs ls ++ C))))) (h : vs.length = ls.length) : RdSS w v ls := RdSS.o2 (hw.ext (Ext.right _ _)) h
theorem RdSS.o4 {w0 w : World} {A B C D E : List Ent} {v : Value} {vs : List Value} {ls : List (List Int)} (hw : Sat w0 w (A ++ (B ++ (D ++ (E ++ (ssE v vs ls ++ C)))))) (h : vs.length = ls.length) : RdSS w v ls := RdSS.o3 (hw.ext (Ext.right _ _)) h
theorem RdSS.o5 {w0 w : World} {A B C D E F : List Ent} {v : Value} {vs : List Value} {ls : List (List Int)} (hw : Sat w0 w (A ++ (B ++ (D ++ (E ++ (F ++ (ssE v vs ls ++ C))))))) (h : vs.length = ls.length) : RdSS w v ls := RdSS.o4 (hw.ext (Ext.right _ _)) h
theorem _root_.Go.AW.Sat.swap2 {w0 w : World} {A B C : List Ent} (h : Sat w0 w (A ++ (B ++ C))) : Sat w0 w (B ++ (A ++ C)) :=
  h.perm (by rw [← List.append_assoc, ← List.append_assoc]; exact List.perm_append_comm.append_right C)
theorem _root_.Go.AW.Sat.swap3 {w0 w : World} {A B C D : List Ent} (h : Sat w0 w (A ++ (B ++ (C ++ D)))) : Sat w0 w (C ++ (A ++ (B ++ D))) :=
  h.perm (by rw [← List.append_assoc, ← List.append_assoc A B D, ← List.append_assoc, ← List.append_assoc C]; exact List.perm_append_comm.append_right D)
theorem _root_.Go.AW.Sat.swap4 {w0 w : World} {A B C D E : List Ent} (h : Sat w0 w (A ++ (B ++ (C ++ (D ++ E))))) : Sat w0 w (D ++ (A ++ (B ++ (C ++ E)))) := by
  have h2 := h.perm (List.Perm.append_left A (List.Perm.append_left B (show (C ++ (D ++ E)).Perm (D ++ (C ++ E)) by rw [← List.append_assoc, ← List.append_assoc]; exact List.perm_append_comm.append_right E)))
  exact h2.swap3
theorem marks_getD_nil (k : Int) (n : Nat) : (marks k n).length = n := length_marks k n
theorem markSS_markSS : ∀ (ls : List (List Int)) (k : Int), markSS k (markSS k ls) = markSS k ls
  | [], _ => rfl
  | l :: r, k => by simp only [markSS, length_marks]; rw [markSS_markSS r]
theorem heldInt64SS_again (k : Int) (ls : List (List Int)) : (if markSS k ls = markSS k (markSS k ls) then k + (tot (markSS k ls) : Int) else -1) = k + tot ls := by
  rw [if_pos (markSS_markSS ls k).symm, tot_markSS]

end Go.Proofs.Ytmfinopdokkjcaa
