/- Contracts of functions, printed by program from annotations. -/
import Derived.Test.YtmfinopdokkjcaaTab2
import Derived.Test.YtmfinopdokkjcaaStrs
namespace Go.Proofs.Ytmfinopdokkjcaa
open Go Go.AW Go.RowKit
set_option linter.unusedVariables false
set_option linter.unusedSimpArgs false

def linB (k : Nat) (x : Int) : ByteArray := (decB (k : Int) ++ strOf [58, 32]) ++ decB x
def linL (t : List Int) (j : Nat) : List ByteArray := (List.range j).map fun i => linB (i + 1) (t.getD (i + 1) 0)
theorem linL_succ (t : List Int) (j : Nat) : strs (linL t (j + 1)) = strs (linL t j) ++ [.string (linB (j + 1) (t.getD (j + 1) 0))] := by
  unfold linL
  rw [List.range_succ, List.map_append, strs_append]
  rfl
theorem length_linL (t : List Int) (j : Nat) : (linL t j).length = j := by unfold linL; rw [List.length_map, List.length_range]
theorem tab_len2 (a b : Int) (m : Nat) (h : 1 ≤ m) : 1 ≤ (tabTo a b m).length := by
  cases m with
  | zero => omega
  | succ m =>
    show 1 ≤ (bump (tabTo a b m) (cntN a b m)).length
    rw [length_bump]
    omega
def tlL (a b : Int) : List ByteArray := if pcE a b = 0 then linL (tabTo a b (many a b)) ((tabTo a b (many a b)).length - 1) else []
theorem tlL_bad {a b : Int} (h : ¬ pcE a b = 0) : tlL a b = [] := by unfold tlL; rw [if_neg h]
theorem tlL_ok {a b : Int} (h : pcE a b = 0) : tlL a b = linL (tabTo a b (many a b)) ((tabTo a b (many a b)).length - 1) := by unfold tlL; rw [if_pos h]
theorem tlL_size (a b : Int) : (tlL a b).length ≤ 257 := by
  by_cases h : pcE a b = 0
  · rw [tlL_ok h, length_linL]; have := length_tab (pc_zero h).1 (many a b); omega
  · rw [tlL_bad h]; simp
/-- What a call gives that returns texts of its own and an error. -/
def retS (ms : List ByteArray) (e : Int) : Value → List Ent → Prop := fun u L => ∃ x, u = .tuple #[x, .int .i64 e] ∧ L = [.row 9 1 x ms.length (strs ms)]
theorem retS_nil {ms : List ByteArray} {e : Int} (h : ms = []) : retS ms e (.tuple #[.slice none 0 0, .int .i64 e]) [.row 9 1 (.slice none 0 0) 0 []] := by subst h; exact ⟨_, rfl, rfl⟩

theorem sz_lit2 (x y : UInt8) : (ByteArray.mk #[x, y]).size = 2 := rfl

set_option maxRecDepth 4000 in
/-- impl.TableLines -/
theorem f_i_TableLines (w : World) (a : Int) (b : Int) (a0 : -9223372036854775808 ≤ a) (a1 : a ≤ 9223372036854775807) (b0 : -9223372036854775808 ≤ b) (b1 : b ≤ 9223372036854775807) : Ret Try.prog 53 [.int .i64 a, .int .i64 b] w (retS (tlL a b) (pcE a b)) := by
  refine Ret.enter Try.func53 rfl Try.ntmps53 rfl ?_
  refine Run.seq ?_
  refine Run.region ?_
  refine Ops.pure rfl (Pure.assign rfl) ?_
  refine Ops.pure rfl (Pure.assign rfl) ?_
  refine Ops.nil ?_
  refine Run.seq ?_
  refine Run.region ?_
  refine Ops.pure rfl (Pure.move rfl) ?_
  refine Ops.pure rfl (Pure.move rfl) ?_
  refine Ops.q rfl (QOp.call fn111 rfl (fun w hw => f_i_panelCount w _ _ (by assumption) (by assumption) (by assumption) (by assumption))) ?_
  refine Ops.pure rfl (Pure.move rfl) ?_
  refine Ops.pure rfl (Pure.extract rfl rfl) ?_
  refine Ops.pure rfl (Pure.extract rfl rfl) ?_
  refine Ops.pure rfl (Pure.assign rfl) ?_
  refine Ops.pure rfl (Pure.assign rfl) ?_
  refine Ops.nil ?_
  refine Run.seq ?_
  refine Run.seq ?_
  refine Run.region ?_
  refine Ops.pure rfl (Pure.move rfl) ?_
  refine Ops.pure rfl (Pure.neq rfl rfl) ?_
  refine Ops.nil ?_
  refine Run.cond rfl (fun c18 => ?_) (fun c18 => ?_)
  · skip
    replace c18 := nT c18
    refine Run.seq ?_
    refine Run.region ?_
    refine Ops.pure rfl (Pure.move rfl) ?_
    refine Ops.pure rfl (Pure.assign rfl) ?_
    refine Ops.pure rfl (Pure.assign rfl) ?_
    refine Ops.nil ?_
    refine Run.addNil 9 1 ?_
    refine Run.ext_ (Ext.take 0 rfl (Ext.nil _)) ?_
    refine Run.ret2 rfl rfl rfl ?_
    exact retS_nil (tlL_bad c18)
  · skip
    replace c18 := nF c18
    obtain ⟨hs, hmm, hpn⟩ := pc_zero c18
    have hmp := many_pos a b
    refine Run.skip ?_
    refine Run.seq ?_
    refine Run.region ?_
    refine Ops.go rfl (Loud.lit sl58 rfl rfl rfl (by simp [Value.oneCell'])) ?_
    rintro v20 _ rfl
    refine Ops.pure rfl (Pure.assign rfl) ?_
    refine Ops.nil ?_
    refine Run.seq ?_
    refine Run.seq ?_
    rw [hpn]
    refine Run.region ?_
    refine Ops.pure rfl (Pure.move rfl) ?_
    refine Ops.pure rfl (Pure.move rfl) ?_
    refine Ops.pure rfl (Pure.move rfl) ?_
    refine Ops.go rfl (Loud.callR fn124 rfl (fun w hw => f_i_curveTable w a b (many a b) hs hmm)) ?_
    rintro v24 _ ⟨L24, hQ24, rfl⟩
    subst hQ24
    refine Ops.pure rfl (Pure.len sl32 (RdL.own 0 rfl) rfl) ?_
    refine Ops.pure rfl (Pure.move rfl) ?_
    refine Ops.nil ?_
    refine Run.block ?_
    refine Run.loop2 (X := Nat) (Y := Value) (fun k vo => [(8, vo), (24, v24), (25, .int .i64 (tabTo a b (many a b)).length), (26, .int .i64 k)]) (fun k vo => [.row 2 1 v24 (tabTo a b (many a b)).length (ints (tabTo a b (many a b))), .row 9 1 vo (k - 1) (strs (linL (tabTo a b (many a b)) (k - 1)))]) (fun k vo => k ≤ (tabTo a b (many a b)).length) (fun k vo => (tabTo a b (many a b)).length - k) 0 v20 ?_ ?_ ?_ ?_
    · exact Nat.zero_le _
    · exact ⟨rfl, rfl, rfl, rfl, trivial⟩
    · exact Ext.refl _
    · intro k vo hinv0
      have htb := fun h => tab_bd (a := a) (b := b) (m := many a b) (k := k) h
      have htl := length_tab hs (many a b)
      refine Run.seq ?_
      refine Run.region ?_
      refine Ops.pure rfl (Pure.lss rfl rfl) ?_
      refine Ops.nil ?_
      refine Run.seq ?_
      refine Run.cond rfl (fun c27 => ?_) (fun c27 => ?_)
      · skip
        replace c27 := dT c27
        refine Run.skip ?_
        refine Run.seq ?_
        refine Run.block ?_
        refine Run.seq ?_
        refine Run.region ?_
        refine Ops.pure rfl (Pure.move rfl) ?_
        refine Ops.pure rfl (Pure.idx1N sl32 (RdL.own 0 rfl) rfl rfl (by first | assumption | omega | (simp; omega))) ?_
        refine Ops.pure rfl (Pure.ld cell2 rfl (RdL.own 0 rfl) (by first | exact ints_get (by omega) | exact bools_get (by omega) | exact strs_get (by omega) | exact vals_get (by first | omega | (simp; omega)))) ?_
        refine Ops.pure rfl (Pure.assign rfl) ?_
        refine Ops.pure rfl (Pure.assign rfl) ?_
        refine Ops.nil ?_
        refine Run.seq ?_
        refine Run.region ?_
        refine Ops.pure rfl (Pure.move rfl) ?_
        refine Ops.pure rfl (Pure.gtr rfl rfl) ?_
        refine Ops.nil ?_
        refine Run.cond rfl (fun c32 => ?_) (fun c32 => ?_)
        · skip
          replace c32 := dT c32
          have htb2 := htb (by omega)
          have hd1 := decB_size (n := (k : Int)) (by omega) (by omega)
          have hd2 := decB_size (n := (tabTo a b (many a b)).getD k 0) (by omega) (by omega)
          refine Run.region ?_
          refine Ops.pure rfl (Pure.move rfl) ?_
          refine Ops.pure rfl (Pure.move rfl) ?_
          refine Ops.q rfl (QOp.call fn130 rfl (fun w hw => f_i_Decimal w _ (by omega) (by omega))) ?_
          refine Ops.pure rfl (Pure.cat rfl rfl (by first | (simp only [ByteArray.size_append, sz_lit2]; omega) | omega)) ?_
          refine Ops.pure rfl (Pure.move rfl) ?_
          refine Ops.q rfl (QOp.call fn130 rfl (fun w hw => f_i_Decimal w _ (by omega) (by omega))) ?_
          refine Ops.pure rfl (Pure.cat rfl rfl (by first | (simp only [ByteArray.size_append, sz_lit2]; omega) | omega)) ?_
          refine Ops.go rfl (Loud.lit sl58 rfl rfl rfl (by simp [Value.oneCell'])) ?_
          rintro v40 _ rfl
          refine Ops.go rfl (Loud.append 2 rfl sl58 rfl rfl (RdL.own 0 rfl) (by simp [Value.oneCell']) (by omega) (by omega)) ?_
          rintro v41 _ rfl
          refine Ops.pure rfl (Pure.assign rfl) ?_
          refine Ops.nil ?_
          refine Run.blk ?_
          refine Run.region ?_
          refine Ops.pure rfl (Pure.add rfl rfl (by omega) (by omega)) ?_
          refine Ops.pure rfl (Pure.move rfl) ?_
          refine Ops.nil ?_
          refine Run.asrt ?_
          first
            | (refine ⟨k + 1, v41, ⟨by omega, by omega⟩, ⟨rfl, rfl, rfl, rfl, trivial⟩, Ext.trans (Ext.eq ?_) (Ext.take 1 rfl (Ext.take 1 rfl (Ext.nil _)))⟩
               obtain ⟨j, rfl⟩ : ∃ j, k = j + 1 := ⟨k - 1, by omega⟩
               rw [show j + 1 + 1 - 1 = j + 1 by omega, linL_succ]
               rfl)
            | (refine ⟨k + 1, vo, ⟨by omega, by omega⟩, ⟨rfl, rfl, rfl, rfl, trivial⟩, Ext.eq ?_⟩
               have e0 : k = 0 := by omega
               subst e0
               rfl)
        · skip
          replace c32 := dF c32
          refine Run.skip ?_
          refine Run.blk ?_
          refine Run.region ?_
          refine Ops.pure rfl (Pure.add rfl rfl (by omega) (by omega)) ?_
          refine Ops.pure rfl (Pure.move rfl) ?_
          refine Ops.nil ?_
          refine Run.asrt ?_
          first
            | (refine ⟨k + 1, v41, ⟨by omega, by omega⟩, ⟨rfl, rfl, rfl, rfl, trivial⟩, Ext.trans (Ext.eq ?_) (Ext.take 1 rfl (Ext.take 1 rfl (Ext.nil _)))⟩
               obtain ⟨j, rfl⟩ : ∃ j, k = j + 1 := ⟨k - 1, by omega⟩
               rw [show j + 1 + 1 - 1 = j + 1 by omega, linL_succ]
               rfl)
            | (refine ⟨k + 1, vo, ⟨by omega, by omega⟩, ⟨rfl, rfl, rfl, rfl, trivial⟩, Ext.eq ?_⟩
               have e0 : k = 0 := by omega
               subst e0
               rfl)
      · skip
        replace c27 := dF c27
        refine Run.exit rfl ?_
        refine Run.seq ?_
        refine Run.region ?_
        refine Ops.pure rfl (Pure.move rfl) ?_
        refine Ops.pure rfl (Pure.assign rfl) ?_
        refine Ops.pure rfl (Pure.assign rfl) ?_
        refine Ops.nil ?_
        refine Run.ext_ (Ext.take 1 rfl (Ext.nil _)) ?_
        refine Run.ret2 rfl rfl rfl ?_
        have e : k = (tabTo a b (many a b)).length := by omega
        subst e
        rw [tlL_ok c18, c18]
        exact ⟨_, rfl, by rw [length_linL]⟩

set_option maxRecDepth 4000 in
/-- spec.TableLines -/
theorem f_s_TableLines (w : World) (a : Int) (b : Int) (a0 : -9223372036854775808 ≤ a) (a1 : a ≤ 9223372036854775807) (b0 : -9223372036854775808 ≤ b) (b1 : b ≤ 9223372036854775807) : Ret Try.prog 54 [.int .i64 a, .int .i64 b] w (retS (tlL a b) (pcE a b)) := by
  refine Ret.enter Try.func54 rfl Try.ntmps54 rfl ?_
  refine Run.seq ?_
  refine Run.region ?_
  refine Ops.pure rfl (Pure.assign rfl) ?_
  refine Ops.pure rfl (Pure.assign rfl) ?_
  refine Ops.nil ?_
  refine Run.seq ?_
  refine Run.region ?_
  refine Ops.pure rfl (Pure.move rfl) ?_
  refine Ops.pure rfl (Pure.move rfl) ?_
  refine Ops.q rfl (QOp.call fn107 rfl (fun w hw => f_s_l12Code w _ _ (by assumption) (by assumption) (by assumption) (by assumption))) ?_
  refine Ops.pure rfl (Pure.assign rfl) ?_
  refine Ops.nil ?_
  refine Run.seq ?_
  refine Run.seq ?_
  refine Run.region ?_
  refine Ops.pure rfl (Pure.move rfl) ?_
  refine Ops.pure rfl (Pure.neq rfl rfl) ?_
  refine Ops.nil ?_
  refine Run.cond rfl (fun c14 => ?_) (fun c14 => ?_)
  · skip
    replace c14 := nT c14
    refine Run.seq ?_
    refine Run.region ?_
    refine Ops.pure rfl (Pure.move rfl) ?_
    refine Ops.pure rfl (Pure.assign rfl) ?_
    refine Ops.pure rfl (Pure.assign rfl) ?_
    refine Ops.nil ?_
    refine Run.addNil 9 1 ?_
    refine Run.ext_ (Ext.take 0 rfl (Ext.nil _)) ?_
    refine Run.ret2 rfl rfl rfl ?_
    exact retS_nil (tlL_bad c14)
  · skip
    replace c14 := nF c14
    obtain ⟨hs, hmm, hpn⟩ := pc_zero c14
    have hmp := many_pos a b
    refine Run.skip ?_
    refine Run.seq ?_
    refine Run.region ?_
    refine Ops.pure rfl (Pure.move rfl) ?_
    refine Ops.pure rfl (Pure.move rfl) ?_
    refine Ops.go rfl (Loud.callR fn125 rfl (fun w hw => f_s_l12Table w _ _ (by assumption) (by assumption))) ?_
    rintro v18 _ ⟨L18, hQ18, rfl⟩
    subst hQ18
    refine Ops.pure rfl (Pure.assign rfl) ?_
    refine Ops.nil ?_
    refine Run.seq ?_
    refine Run.region ?_
    refine Ops.go rfl (Loud.lit sl58 rfl rfl rfl (by simp [Value.oneCell'])) ?_
    rintro v19 _ rfl
    refine Ops.pure rfl (Pure.assign rfl) ?_
    refine Ops.nil ?_
    refine Run.seq ?_
    refine Run.seq ?_
    refine Run.region ?_
    refine Ops.pure rfl (Pure.assign rfl) ?_
    refine Ops.nil ?_
    refine Run.block ?_
    refine Run.loop2 (X := Nat) (Y := Value) (fun j vo => [(7, v18), (8, vo), (9, .int .i64 ((j + 1 : Nat) : Int))]) (fun j vo => [.row 9 1 vo j (strs (linL (tabTo a b (many a b)) j)), .row 2 1 v18 (tabTo a b (many a b)).length (ints (tabTo a b (many a b)))]) (fun j vo => j + 1 ≤ (tabTo a b (many a b)).length) (fun j vo => (tabTo a b (many a b)).length - j) 0 v19 ?_ ?_ ?_ ?_
    · exact tab_len2 a b (many a b) hmp
    · exact ⟨rfl, rfl, rfl, trivial⟩
    · exact Ext.refl _
    · intro j vo hinv0
      have htb := fun h => tab_bd (a := a) (b := b) (m := many a b) (k := j + 1) h
      have htl := length_tab hs (many a b)
      refine Run.seq ?_
      refine Run.seq ?_
      refine Run.region ?_
      refine Ops.pure rfl (Pure.move rfl) ?_
      refine Ops.pure rfl (Pure.move rfl) ?_
      refine Ops.pure rfl (Pure.len sl32 (RdL.own 1 rfl) rfl) ?_
      refine Ops.pure rfl (Pure.lss rfl rfl) ?_
      refine Ops.nil ?_
      refine Run.cond rfl (fun c23 => ?_) (fun c23 => ?_)
      · skip
        replace c23 := dT c23
        refine Run.skip ?_
        refine Run.seq ?_
        refine Run.block ?_
        have htb2 := htb (by omega)
        have hd1 := decB_size (n := ((j + 1 : Nat) : Int)) (by omega) (by omega)
        have hd2 := decB_size (n := (tabTo a b (many a b)).getD (j + 1) 0) (by omega) (by omega)
        refine Any.start follows ?_
        refine Any.take 0 rfl (by kernel_rfl) rfl (QOp.pure (Pure.move rfl)) ?_
        refine Any.take 1 rfl (by kernel_rfl) rfl (QOp.pure (Pure.move rfl)) ?_
        refine Any.take 2 rfl (by kernel_rfl) rfl (QOp.call fn131 rfl (fun w hw => f_s_l01Dec w _ (by omega) (by omega))) ?_
        refine Any.take 3 rfl (by kernel_rfl) rfl (QOp.pure (Pure.cat rfl rfl (by first | (simp only [ByteArray.size_append, sz_lit2]; omega) | omega))) ?_
        refine Any.take 4 rfl (by kernel_rfl) rfl (QOp.pure (Pure.move rfl)) ?_
        refine Any.take 5 rfl (by kernel_rfl) rfl (QOp.pure (Pure.move rfl)) ?_
        refine Any.take 6 rfl (by kernel_rfl) rfl (QOp.pure (Pure.idx1N sl32 (RdL.own 1 rfl) rfl rfl (by first | assumption | omega | (simp; omega)))) ?_
        refine Any.take 7 rfl (by kernel_rfl) rfl (QOp.pure (Pure.ld cell2 rfl (RdL.own 1 rfl) (by first | exact ints_get (by omega) | exact bools_get (by omega) | exact strs_get (by omega) | exact vals_get (by first | omega | (simp; omega))))) ?_
        refine Any.take 8 rfl (by kernel_rfl) rfl (QOp.call fn131 rfl (fun w hw => f_s_l01Dec w _ (by omega) (by omega))) ?_
        refine Any.take 9 rfl (by kernel_rfl) rfl (QOp.pure (Pure.cat rfl rfl (by first | (simp only [ByteArray.size_append, sz_lit2]; omega) | omega))) ?_
        refine Any.one 10 (by kernel_rfl) ?_
        refine OneL.loud rfl rfl (Loud.lit sl58 rfl rfl rfl (by simp [Value.oneCell'])) ?_
        rintro v36 _ rfl
        refine ⟨.inl (by kernel_rfl), ?_⟩
        refine Any.one 11 (by kernel_rfl) ?_
        refine OneL.loud rfl rfl (Loud.append 1 rfl sl58 rfl rfl (RdL.own 0 rfl) (by simp [Value.oneCell']) (by omega) (by omega)) ?_
        rintro v37 _ rfl
        refine ⟨.inl (by kernel_rfl), ?_⟩
        refine Any.take 12 rfl (by kernel_rfl) rfl (QOp.pure (Pure.assign rfl)) ?_
        refine Any.done (by kernel_rfl) ?_
        refine Run.blk ?_
        refine Run.region ?_
        refine Ops.pure rfl (Pure.move rfl) ?_
        refine Ops.pure rfl (Pure.add rfl rfl (by omega) (by omega)) ?_
        refine Ops.pure rfl (Pure.assign rfl) ?_
        refine Ops.nil ?_
        refine Run.asrt ?_
        refine ⟨j + 1, v37, ⟨by omega, by omega⟩, ⟨rfl, rfl, rfl, trivial⟩, Ext.trans (Ext.eq ?_) (Ext.take 1 rfl (Ext.take 1 rfl (Ext.nil _)))⟩
        rw [linL_succ]
        rfl
      · skip
        replace c23 := dF c23
        refine Run.exit rfl ?_
        refine Run.seq ?_
        refine Run.region ?_
        refine Ops.pure rfl (Pure.move rfl) ?_
        refine Ops.pure rfl (Pure.assign rfl) ?_
        refine Ops.pure rfl (Pure.assign rfl) ?_
        refine Ops.nil ?_
        refine Run.ext_ (Ext.take 0 rfl (Ext.nil _)) ?_
        refine Run.ret2 rfl rfl rfl ?_
        have e : j = (tabTo a b (many a b)).length - 1 := by omega
        subst e
        rw [tlL_ok c14, c14]
        exact ⟨_, rfl, by rw [length_linL]⟩

end Go.Proofs.Ytmfinopdokkjcaa
