/- Contracts of functions, printed by program from annotations. -/
import Derived.Test.YtkplanpcmkbfiaaEds
namespace Go.Proofs.Ytkplanpcmkbfiaa
open Go Go.AW Go.RowKit
set_option linter.unusedVariables false
set_option linter.unusedSimpArgs false

theorem undo_snoc {l : List Int} {es : List (Int × Int)} {k : Nat} (h : k < es.length) : (undoL l es).take (k + 1) = (undoL l es).take k ++ [((es.getD k (0, 0)).1, l.getD (es.getD k (0, 0)).1.toNat 0)] := by
  unfold undoL
  rw [List.take_add_one]
  congr 1
  simp [List.getD, List.getElem?_eq_getElem h]
theorem length_undo (l : List Int) (es : List (Int × Int)) : (undoL l es).length = es.length := by simp [undoL]
theorem edP_get {es : List (Int × Int)} {k : Nat} (h : k < es.length) : (es.map partE).getD k ByteArray.empty = partE (es.getD k (0, 0)) := getD_mapB (0, 0) h
theorem edP_size {es : List (Int × Int)} (hi : ∀ k, k < es.length → 0 ≤ (es.getD k (0, 0)).1 ∧ (es.getD k (0, 0)).1 ≤ 1073741824 ∧ 0 ≤ (es.getD k (0, 0)).2 ∧ (es.getD k (0, 0)).2 ≤ 2) (k : Nat) (hk : k < (es.map partE).length) : ((es.map partE).getD k ByteArray.empty).size ≤ 4194304 := by
  rw [List.length_map] at hk
  rw [edP_get hk]
  exact Nat.le_trans (partE_size (hi k hk)) (by omega)
theorem undo_ok {l : List Int} {es : List (Int × Int)} (h : edsB l es = true) : betw (appE l es) l (appE l es).length = undoL l es := by rw [length_appE]; exact undo_eq h

set_option maxRecDepth 4000 in
/-- spec.l11Between -/
theorem f_s_l11Between (w : World) (p : Nat) (p' : Nat) (a : Int) (b : Int) (v : Value) (l : List Int) (a' : Int) (b' : Int) (v' : Value) (l' : List Int) (hp : Rd w (boxS p) 3 1 [.int .i64 a, .int .i64 b, v]) (hp' : Rd w (boxS p') 3 1 [.int .i64 a', .int .i64 b', v']) (hv : Rd w v 1 l.length (ints l)) (hv' : Rd w v' 1 l'.length (ints l')) (hl : l.length ≤ 1048576) (hle : l.length = l'.length) : Ret Try.prog 140 [.pointer (some ⟨p, 0, none⟩), .pointer (some ⟨p', 0, none⟩)] w (fun u L => L = [.row 74 2 u (betw l l' l.length).length (edits (betw l l' l.length))]) := by
  refine Ret.enter Try.func140 rfl Try.ntmps140 rfl ?_
  refine Run.seq ?_
  refine Run.region ?_
  refine Ops.pure rfl (Pure.assign rfl) ?_
  refine Ops.nil ?_
  refine Run.seq ?_
  refine Run.region ?_
  refine Ops.go rfl (Loud.lit0 sl41) ?_
  rintro v7 _ rfl
  refine Ops.pure rfl (Pure.assign rfl) ?_
  refine Ops.nil ?_
  refine Run.seq ?_
  refine Run.seq ?_
  refine Run.region ?_
  refine Ops.pure rfl (Pure.assign rfl) ?_
  refine Ops.nil ?_
  refine Run.block ?_
  refine Run.loop2 (X := Nat) (Y := Value) (fun k vo => [(0, .pointer (some ⟨p, 0, none⟩)), (1, .pointer (some ⟨p', 0, none⟩)), (5, vo), (6, .int .i64 k)]) (fun k vo => [.row 74 2 vo (betw l l' k).length (edits (betw l l' k))]) (fun k vo => k ≤ l.length) (fun k vo => l.length - k) 0 v7 ?_ ?_ ?_ ?_
  · exact Nat.zero_le _
  · exact ⟨rfl, rfl, rfl, rfl, trivial⟩
  · exact Ext.refl _
  · intro k vo hinv0
    have hbl := length_betw l l' k
    refine Run.seq ?_
    refine Run.seq ?_
    refine Run.region ?_
    refine Ops.pure rfl (Pure.move rfl) ?_
    refine Ops.pure rfl (Pure.move rfl) ?_
    refine Ops.pure rfl (Pure.nilchk rfl) ?_
    refine Ops.pure rfl (Pure.fieldAddrB fld28_2 rfl) ?_
    refine Ops.pure rfl (Pure.ldP cell22 rfl (RdL.old hp) rfl) ?_
    refine Ops.pure rfl (Pure.len sl22 (RdL.old hv) rfl) ?_
    refine Ops.pure rfl (Pure.lss rfl rfl) ?_
    refine Ops.nil ?_
    refine Run.cond rfl (fun c14 => ?_) (fun c14 => ?_)
    · skip
      replace c14 := dT c14
      refine Run.skip ?_
      refine Run.seq ?_
      refine Run.block ?_
      refine Run.seq ?_
      refine Any.start follows ?_
      refine Any.take 0 rfl (by kernel_rfl) rfl (QOp.pure (Pure.move rfl)) ?_
      refine Any.take 1 rfl (by kernel_rfl) rfl (QOp.pure (Pure.nilchk rfl)) ?_
      refine Any.take 2 rfl (by kernel_rfl) rfl (QOp.pure (Pure.fieldAddrB fld28_2 rfl)) ?_
      refine Any.take 3 rfl (by kernel_rfl) rfl (QOp.pure (Pure.ldP cell22 rfl (RdL.old hp) rfl)) ?_
      refine Any.take 4 rfl (by kernel_rfl) rfl (QOp.pure (Pure.move rfl)) ?_
      refine Any.take 5 rfl (by kernel_rfl) rfl (QOp.pure (Pure.idx1N sl22 (RdL.old hv) rfl rfl (by first | assumption | omega | (simp; omega)))) ?_
      refine Any.take 6 rfl (by kernel_rfl) rfl (QOp.pure (Pure.ld cell2 rfl (RdL.old hv) (by first | exact ints_get (by omega) | exact bools_get (by omega) | exact strs_get (by omega) | exact vals_get (by first | omega | (simp; omega))))) ?_
      refine Any.take 7 rfl (by kernel_rfl) rfl (QOp.pure (Pure.move rfl)) ?_
      refine Any.take 8 rfl (by kernel_rfl) rfl (QOp.pure (Pure.nilchk rfl)) ?_
      refine Any.take 9 rfl (by kernel_rfl) rfl (QOp.pure (Pure.fieldAddrB fld28_2 rfl)) ?_
      refine Any.take 10 rfl (by kernel_rfl) rfl (QOp.pure (Pure.ldP cell22 rfl (RdL.old hp') rfl)) ?_
      refine Any.take 11 rfl (by kernel_rfl) rfl (QOp.pure (Pure.move rfl)) ?_
      refine Any.take 12 rfl (by kernel_rfl) rfl (QOp.pure (Pure.idx1N sl22 (RdL.old hv') rfl rfl (by first | assumption | omega | (simp; omega)))) ?_
      refine Any.take 13 rfl (by kernel_rfl) rfl (QOp.pure (Pure.ld cell2 rfl (RdL.old hv') (by first | exact ints_get (by omega) | exact bools_get (by omega) | exact strs_get (by omega) | exact vals_get (by first | omega | (simp; omega))))) ?_
      refine Any.take 14 rfl (by kernel_rfl) rfl (QOp.pure (Pure.neq rfl rfl)) ?_
      refine Any.done (by kernel_rfl) ?_
      refine Run.cond rfl (fun c31 => ?_) (fun c31 => ?_)
      · skip
        replace c31 := nT c31
        refine Run.region ?_
        refine Ops.pure rfl (Pure.move rfl) ?_
        refine Ops.pure rfl (Pure.move rfl) ?_
        refine Ops.pure rfl (Pure.move rfl) ?_
        refine Ops.pure rfl (Pure.nilchk rfl) ?_
        refine Ops.pure rfl (Pure.fieldAddrB fld28_2 rfl) ?_
        refine Ops.pure rfl (Pure.ldP cell22 rfl (RdL.old hp') rfl) ?_
        refine Ops.pure rfl (Pure.move rfl) ?_
        refine Ops.pure rfl (Pure.idx1N sl22 (RdL.old hv') rfl rfl (by first | assumption | omega | (simp; omega))) ?_
        refine Ops.pure rfl (Pure.ld cell2 rfl (RdL.old hv') (by first | exact ints_get (by omega) | exact bools_get (by omega) | exact strs_get (by omega) | exact vals_get (by first | omega | (simp; omega)))) ?_
        refine Ops.pure rfl (Pure.build rfl (bld74_2 _ _ (by first | rfl | assumption) (by first | rfl | assumption))) ?_
        refine Ops.go rfl (Loud.litA sl41 rfl rfl rfl) ?_
        rintro v42 _ rfl
        refine Ops.go rfl (Loud.append 1 rfl sl41 rfl rfl (RdL.own 0 rfl) (by simp [Value.oneCell']) (by omega) (by omega)) ?_
        rintro v43 _ rfl
        refine Ops.pure rfl (Pure.assign rfl) ?_
        refine Ops.nil ?_
        refine Run.blk ?_
        refine Run.region ?_
        refine Ops.pure rfl (Pure.move rfl) ?_
        refine Ops.pure rfl (Pure.add rfl rfl (by omega) (by omega)) ?_
        refine Ops.pure rfl (Pure.assign rfl) ?_
        refine Ops.nil ?_
        refine Run.asrt ?_
        first
          | (refine ⟨k + 1, v43, ⟨by omega, by omega⟩, ⟨rfl, rfl, rfl, rfl, trivial⟩, Ext.trans (Ext.eq ?_) (Ext.take 1 rfl (Ext.nil _))⟩
             rw [betw_diff c31, edits_append, List.length_append]
             rfl)
          | (refine ⟨k + 1, vo, ⟨by omega, by omega⟩, ⟨rfl, rfl, rfl, rfl, trivial⟩, Ext.eq ?_⟩
             rw [betw_same c31])
      · skip
        replace c31 := nF c31
        refine Run.skip ?_
        refine Run.blk ?_
        refine Run.region ?_
        refine Ops.pure rfl (Pure.move rfl) ?_
        refine Ops.pure rfl (Pure.add rfl rfl (by omega) (by omega)) ?_
        refine Ops.pure rfl (Pure.assign rfl) ?_
        refine Ops.nil ?_
        refine Run.asrt ?_
        first
          | (refine ⟨k + 1, v43, ⟨by omega, by omega⟩, ⟨rfl, rfl, rfl, rfl, trivial⟩, Ext.trans (Ext.eq ?_) (Ext.take 1 rfl (Ext.nil _))⟩
             rw [betw_diff c31, edits_append, List.length_append]
             rfl)
          | (refine ⟨k + 1, vo, ⟨by omega, by omega⟩, ⟨rfl, rfl, rfl, rfl, trivial⟩, Ext.eq ?_⟩
             rw [betw_same c31])
    · skip
      replace c14 := dF c14
      refine Run.exit rfl ?_
      refine Run.seq ?_
      refine Run.region ?_
      refine Ops.pure rfl (Pure.move rfl) ?_
      refine Ops.pure rfl (Pure.assign rfl) ?_
      refine Ops.nil ?_
      refine Run.ret1 rfl rfl ?_
      have e : k = l.length := by omega
      subst e
      rfl

set_option maxRecDepth 4000 in
/-- impl.EditsBetween -/
theorem f_i_EditsBetween (w : World) (a : Int) (b : Int) (v : Value) (l : List Int) (a' : Int) (b' : Int) (v' : Value) (l' : List Int) (hv : Rd w v 1 l.length (ints l)) (hv' : Rd w v' 1 l'.length (ints l')) (hl : l.length ≤ 1073741824) (hl' : l'.length ≤ 1073741824) (a0 : -9223372036854775808 ≤ a) (a1 : a ≤ 9223372036854775807) (b0 : -9223372036854775808 ≤ b) (b1 : b ≤ 9223372036854775807) (a0' : -9223372036854775808 ≤ a') (a1' : a' ≤ 9223372036854775807) (b0' : -9223372036854775808 ≤ b') (b1' : b' ≤ 9223372036854775807) : Ret Try.prog 48 [.agg #[.int .i64 a, .int .i64 b, v], .agg #[.int .i64 a', .int .i64 b', v']] w (retE (beL a b l a' b' l') (beE a b l a' b' l')) := by
  refine Ret.enter Try.func48 rfl Try.ntmps48 rfl ?_
  refine Run.seq ?_
  refine Run.region ?_
  refine Ops.go rfl (Loud.box rfl rfl) ?_
  rintro _ _ ⟨b2, rfl, rfl⟩
  refine Ops.go rfl (Loud.box rfl rfl) ?_
  rintro _ _ ⟨b3, rfl, rfl⟩
  refine Ops.pure rfl (Pure.assign rfl) ?_
  refine Ops.pure rfl (Pure.assign rfl) ?_
  refine Ops.nil ?_
  refine Run.seq ?_
  refine Run.seq ?_
  refine Run.region ?_
  refine Ops.pure rfl (Pure.ldBA 1 rfl cell28 rfl rfl rfl) ?_
  refine Ops.q rfl (QOp.call fn100 rfl (fun w hw => f_i_ValidPanel w _ _ _ _ (by exact RdL.old (by assumption) w hw) (by assumption) (by assumption) (by assumption) (by assumption) (by assumption))) ?_
  refine Ops.pure rfl (Pure.not rfl) ?_
  refine Ops.pure rfl (Pure.move rfl) ?_
  refine Ops.guard rfl rfl rfl rfl (fun c12 => ?_) (fun c12 => ?_)
  · skip
    have c12' := bF c12
    refine Ops.pure rfl (Pure.ldBA 0 rfl cell28 rfl rfl rfl) ?_
    refine Ops.guardY rfl rfl rfl c12 ?_
    refine Ops.q rfl (QOp.call fn100 rfl (fun w hw => f_i_ValidPanel w _ _ _ _ (by exact RdL.old (by assumption) w hw) (by assumption) (by assumption) (by assumption) (by assumption) (by assumption))) ?_
    refine Ops.guardY rfl rfl rfl c12 ?_
    refine Ops.pure rfl (Pure.not rfl) ?_
    refine Ops.pure rfl (Pure.pickF rfl c12 rfl) ?_
    refine Ops.nil ?_
    refine Run.cond rfl (fun c16 => ?_) (fun c16 => ?_)
    · skip
      replace c16 := bT c16
      refine Run.seq ?_
      refine Run.region ?_
      refine Ops.pure rfl (Pure.assign rfl) ?_
      refine Ops.pure rfl (Pure.assign rfl) ?_
      refine Ops.nil ?_
      refine Run.addNil 74 2 ?_
      refine Run.ext_ (Ext.take 0 rfl (Ext.nil _)) ?_
      refine Run.ret2 rfl rfl rfl ?_
      have hb : ¬ (okP a b l = true ∧ okP a' b' l' = true) := by simp_all
      rw [(be_bad hb).1]
      exact retE_nil (be_bad hb).2
    · skip
      replace c16 := bF c16
      have hok : okP a b l = true ∧ okP a' b' l' = true := by simp_all
      refine Run.skip ?_
      refine Run.seq ?_
      refine Run.seq ?_
      refine Run.region ?_
      refine Ops.pure rfl (Pure.fieldAddrB fld28_0 rfl) ?_
      refine Ops.pure rfl (Pure.ldB 1 rfl cell2 rfl rfl) ?_
      refine Ops.pure rfl (Pure.fieldAddrB fld28_0 rfl) ?_
      refine Ops.pure rfl (Pure.ldB 0 rfl cell2 rfl rfl) ?_
      refine Ops.pure rfl (Pure.neq rfl rfl) ?_
      refine Ops.pure rfl (Pure.move rfl) ?_
      refine Ops.guard rfl rfl rfl rfl (fun c22 => ?_) (fun c22 => ?_)
      · skip
        have c22' := nF c22
        refine Ops.pure rfl (Pure.fieldAddrB fld28_1 rfl) ?_
        refine Ops.guardY rfl rfl rfl c22 ?_
        refine Ops.pure rfl (Pure.ldB 1 rfl cell2 rfl rfl) ?_
        refine Ops.guardY rfl rfl rfl c22 ?_
        refine Ops.pure rfl (Pure.fieldAddrB fld28_1 rfl) ?_
        refine Ops.guardY rfl rfl rfl c22 ?_
        refine Ops.pure rfl (Pure.ldB 0 rfl cell2 rfl rfl) ?_
        refine Ops.guardY rfl rfl rfl c22 ?_
        refine Ops.pure rfl (Pure.neq rfl rfl) ?_
        refine Ops.pure rfl (Pure.pickF rfl c22 rfl) ?_
        refine Ops.nil ?_
        refine Run.cond rfl (fun c28 => ?_) (fun c28 => ?_)
        · skip
          replace c28 := nT c28
          refine Run.seq ?_
          refine Run.region ?_
          refine Ops.pure rfl (Pure.assign rfl) ?_
          refine Ops.pure rfl (Pure.assign rfl) ?_
          refine Ops.nil ?_
          refine Run.addNil 74 2 ?_
          refine Run.ext_ (Ext.take 0 rfl (Ext.nil _)) ?_
          refine Run.ret2 rfl rfl rfl ?_
          have hw : ¬ (a = a' ∧ b = b') := by omega
          rw [(be_other hok hw).1]
          exact retE_nil (be_other hok hw).2
        · skip
          replace c28 := nF c28
          refine Run.skip ?_
          refine Run.seq ?_
          have hw : a = a' ∧ b = b' := by omega
          obtain ⟨hbe, hbl, hle⟩ := be_ok hok hw
          have hl2 := okP_len hok.1
          refine Run.region ?_
          refine Ops.go rfl (Loud.lit0 sl41) ?_
          rintro v29 _ rfl
          refine Ops.pure rfl (Pure.assign rfl) ?_
          refine Ops.nil ?_
          refine Run.seq ?_
          refine Run.seq ?_
          refine Run.region ?_
          refine Ops.pure rfl (Pure.fieldAddrB fld28_2 rfl) ?_
          refine Ops.pure rfl (Pure.ldB 1 rfl cell22 rfl rfl) ?_
          refine Ops.pure rfl (Pure.len sl22 (RdL.old hv') rfl) ?_
          refine Ops.pure rfl (Pure.move rfl) ?_
          refine Ops.nil ?_
          refine Run.block ?_
          refine Run.loop2 (X := Nat) (Y := Value) (fun k vo => [(2, .pointer (some ⟨b2, 0, none⟩)), (6, vo), (31, v'), (32, .int .i64 l'.length), (33, .int .i64 k)]) (fun k vo => [.row 74 2 vo (betw l l' k).length (edits (betw l l' k)), .box b2 28 [.int .i64 a, .int .i64 b, v]]) (fun k vo => k ≤ l.length) (fun k vo => l.length - k) 0 v29 ?_ ?_ ?_ ?_
          · exact Nat.zero_le _
          · exact ⟨rfl, rfl, rfl, rfl, rfl, trivial⟩
          · exact Ext.take 0 rfl (Ext.take 1 rfl (Ext.nil _))
          · intro k vo hinv0
            have hbl2 := length_betw l l' k
            refine Run.seq ?_
            refine Run.region ?_
            refine Ops.pure rfl (Pure.lss rfl rfl) ?_
            refine Ops.nil ?_
            refine Run.seq ?_
            refine Run.cond rfl (fun c34 => ?_) (fun c34 => ?_)
            · skip
              replace c34 := dT c34
              refine Run.skip ?_
              refine Run.seq ?_
              refine Run.block ?_
              refine Run.seq ?_
              refine Run.region ?_
              refine Ops.pure rfl (Pure.move rfl) ?_
              refine Ops.pure rfl (Pure.idx1N sl22 (RdL.old hv') rfl rfl (by first | assumption | omega | (simp; omega))) ?_
              refine Ops.pure rfl (Pure.ld cell2 rfl (RdL.old hv') (by first | exact ints_get (by omega) | exact bools_get (by omega) | exact strs_get (by omega) | exact vals_get (by first | omega | (simp; omega)))) ?_
              refine Ops.pure rfl (Pure.assign rfl) ?_
              refine Ops.pure rfl (Pure.assign rfl) ?_
              refine Ops.nil ?_
              refine Run.seq ?_
              refine Run.region ?_
              refine Ops.pure rfl (Pure.move rfl) ?_
              refine Ops.pure rfl (Pure.fieldAddrB fld28_2 rfl) ?_
              refine Ops.pure rfl (Pure.ldB 1 rfl cell22 rfl rfl) ?_
              refine Ops.pure rfl (Pure.move rfl) ?_
              refine Ops.pure rfl (Pure.idx1N sl22 (RdL.old hv) rfl rfl (by first | assumption | omega | (simp; omega))) ?_
              refine Ops.pure rfl (Pure.ld cell2 rfl (RdL.old hv) (by first | exact ints_get (by omega) | exact bools_get (by omega) | exact strs_get (by omega) | exact vals_get (by first | omega | (simp; omega)))) ?_
              refine Ops.pure rfl (Pure.neq rfl rfl) ?_
              refine Ops.nil ?_
              refine Run.cond rfl (fun c44 => ?_) (fun c44 => ?_)
              · skip
                replace c44 := nT c44
                refine Run.region ?_
                refine Ops.pure rfl (Pure.move rfl) ?_
                refine Ops.pure rfl (Pure.move rfl) ?_
                refine Ops.pure rfl (Pure.move rfl) ?_
                refine Ops.pure rfl (Pure.build rfl (bld74_2 _ _ (by first | rfl | assumption) (by first | rfl | assumption))) ?_
                refine Ops.go rfl (Loud.litA sl41 rfl rfl rfl) ?_
                rintro v49 _ rfl
                refine Ops.go rfl (Loud.append 1 rfl sl41 rfl rfl (RdL.own 0 rfl) (by simp [Value.oneCell']) (by omega) (by omega)) ?_
                rintro v50 _ rfl
                refine Ops.pure rfl (Pure.assign rfl) ?_
                refine Ops.nil ?_
                refine Run.blk ?_
                refine Run.region ?_
                refine Ops.pure rfl (Pure.add rfl rfl (by omega) (by omega)) ?_
                refine Ops.pure rfl (Pure.move rfl) ?_
                refine Ops.nil ?_
                refine Run.asrt ?_
                first
                  | (refine ⟨k + 1, v50, ⟨by omega, by omega⟩, ⟨rfl, rfl, rfl, rfl, rfl, trivial⟩, Ext.trans (Ext.eq ?_) (Ext.take 1 rfl (Ext.take 1 rfl (Ext.nil _)))⟩
                     rw [betw_diff (fun h => c44 h.symm), edits_append, List.length_append]
                     rfl)
                  | (refine ⟨k + 1, vo, ⟨by omega, by omega⟩, ⟨rfl, rfl, rfl, rfl, rfl, trivial⟩, Ext.eq ?_⟩
                     rw [betw_same c44.symm])
              · skip
                replace c44 := nF c44
                refine Run.skip ?_
                refine Run.blk ?_
                refine Run.region ?_
                refine Ops.pure rfl (Pure.add rfl rfl (by omega) (by omega)) ?_
                refine Ops.pure rfl (Pure.move rfl) ?_
                refine Ops.nil ?_
                refine Run.asrt ?_
                first
                  | (refine ⟨k + 1, v50, ⟨by omega, by omega⟩, ⟨rfl, rfl, rfl, rfl, rfl, trivial⟩, Ext.trans (Ext.eq ?_) (Ext.take 1 rfl (Ext.take 1 rfl (Ext.nil _)))⟩
                     rw [betw_diff (fun h => c44 h.symm), edits_append, List.length_append]
                     rfl)
                  | (refine ⟨k + 1, vo, ⟨by omega, by omega⟩, ⟨rfl, rfl, rfl, rfl, rfl, trivial⟩, Ext.eq ?_⟩
                     rw [betw_same c44.symm])
            · skip
              replace c34 := dF c34
              refine Run.exit rfl ?_
              refine Run.seq ?_
              refine Run.region ?_
              refine Ops.pure rfl (Pure.move rfl) ?_
              refine Ops.pure rfl (Pure.assign rfl) ?_
              refine Ops.pure rfl (Pure.assign rfl) ?_
              refine Ops.nil ?_
              refine Run.ext_ (Ext.take 0 rfl (Ext.nil _)) ?_
              refine Run.ret2 rfl rfl rfl ?_
              have e : k = l.length := by omega
              subst e
              rw [hbe, hbl]
              exact ⟨_, rfl, rfl⟩
      · skip
        replace c22 := Bool.eq_true_of_ne c22
        have c22' := nT c22
        refine Ops.guardN rfl rfl rfl rfl (by rw [c22]; decide) ?_
        refine Ops.guardN rfl rfl rfl rfl (by rw [c22]; decide) ?_
        refine Ops.guardN rfl rfl rfl rfl (by rw [c22]; decide) ?_
        refine Ops.guardN rfl rfl rfl rfl (by rw [c22]; decide) ?_
        refine Ops.pure rfl (Pure.pickT rfl c22 rfl) ?_
        refine Ops.nil ?_
        refine Run.condE rfl rfl ?_
        refine Run.seq ?_
        refine Run.region ?_
        refine Ops.pure rfl (Pure.assign rfl) ?_
        refine Ops.pure rfl (Pure.assign rfl) ?_
        refine Ops.nil ?_
        refine Run.addNil 74 2 ?_
        refine Run.ext_ (Ext.take 0 rfl (Ext.nil _)) ?_
        refine Run.ret2 rfl rfl rfl ?_
        have hw : ¬ (a = a' ∧ b = b') := by omega
        rw [(be_other hok hw).1]
        exact retE_nil (be_other hok hw).2
  · skip
    replace c12 := Bool.eq_true_of_ne c12
    have c12' := bT c12
    refine Ops.guardN rfl rfl rfl rfl (by rw [c12]; decide) ?_
    refine Ops.guardN rfl rfl rfl rfl (by rw [c12]; decide) ?_
    refine Ops.pure rfl (Pure.pickT rfl c12 rfl) ?_
    refine Ops.nil ?_
    refine Run.condE rfl rfl ?_
    refine Run.seq ?_
    refine Run.region ?_
    refine Ops.pure rfl (Pure.assign rfl) ?_
    refine Ops.pure rfl (Pure.assign rfl) ?_
    refine Ops.nil ?_
    refine Run.addNil 74 2 ?_
    refine Run.ext_ (Ext.take 0 rfl (Ext.nil _)) ?_
    refine Run.ret2 rfl rfl rfl ?_
    have hb : ¬ (okP a b l = true ∧ okP a' b' l' = true) := by simp_all
    rw [(be_bad hb).1]
    exact retE_nil (be_bad hb).2

set_option maxRecDepth 4000 in
/-- impl.UndoEdits -/
theorem f_i_UndoEdits (w : World) (a : Int) (b : Int) (v : Value) (l : List Int) (u : Value) (es : List (Int × Int)) (hv : Rd w v 1 l.length (ints l)) (hl : l.length ≤ 1073741824) (a0 : -9223372036854775808 ≤ a) (a1 : a ≤ 9223372036854775807) (b0 : -9223372036854775808 ≤ b) (b1 : b ≤ 9223372036854775807) (hu : Rd w u 2 es.length (edits es)) (he : es.length ≤ 1048576) : Ret Try.prog 42 [.agg #[.int .i64 a, .int .i64 b, v], u] w (retE (lif (veE a b l es) (undoL l es)) (veE a b l es)) := by
  refine Ret.enter Try.func42 rfl Try.ntmps42 rfl ?_
  refine Run.seq ?_
  refine Run.region ?_
  refine Ops.go rfl (Loud.box rfl rfl) ?_
  rintro _ _ ⟨b2, rfl, rfl⟩
  refine Ops.pure rfl (Pure.assign rfl) ?_
  refine Ops.pure rfl (Pure.assign rfl) ?_
  refine Ops.nil ?_
  refine Run.seq ?_
  refine Run.seq ?_
  refine Run.region ?_
  refine Ops.pure rfl (Pure.ldBA 0 rfl cell28 rfl rfl rfl) ?_
  refine Ops.pure rfl (Pure.move rfl) ?_
  refine Ops.q rfl (QOp.call fn47 rfl (fun w hw => f_i_ValidEdits w _ _ _ _ _ _ (by exact RdL.old (by assumption) w hw) (by assumption) (by assumption) (by assumption) (by assumption) (by assumption) (by exact RdL.old (by assumption) w hw) (by omega))) ?_
  refine Ops.pure rfl (Pure.not rfl) ?_
  refine Ops.nil ?_
  refine Run.cond rfl (fun c12 => ?_) (fun c12 => ?_)
  · skip
    replace c12 := nT c12
    refine Run.seq ?_
    refine Run.region ?_
    refine Ops.pure rfl (Pure.assign rfl) ?_
    refine Ops.pure rfl (Pure.assign rfl) ?_
    refine Ops.nil ?_
    refine Run.addNil 74 2 ?_
    refine Run.ext_ (Ext.take 0 rfl (Ext.nil _)) ?_
    refine Run.ret2 rfl rfl rfl ?_
    rw [veE_bad c12]
    exact retE_nil rfl
  · skip
    replace c12 := nF c12
    refine Run.skip ?_
    refine Run.seq ?_
    refine Run.region ?_
    refine Ops.go rfl (Loud.lit0 sl41) ?_
    rintro v13 _ rfl
    refine Ops.pure rfl (Pure.assign rfl) ?_
    refine Ops.nil ?_
    refine Run.seq ?_
    refine Run.seq ?_
    refine Run.region ?_
    refine Ops.pure rfl (Pure.move rfl) ?_
    refine Ops.pure rfl (Pure.len sl41 (RdL.old hu) rfl) ?_
    refine Ops.pure rfl (Pure.move rfl) ?_
    refine Ops.nil ?_
    refine Run.block ?_
    refine Run.loop2 (X := Nat) (Y := Value) (fun k vo => [(2, .pointer (some ⟨b2, 0, none⟩)), (6, vo), (14, u), (15, .int .i64 es.length), (16, .int .i64 k)]) (fun k vo => [.row 74 2 vo k (edits ((undoL l es).take k)), .box b2 28 [.int .i64 a, .int .i64 b, v]]) (fun k vo => k ≤ es.length) (fun k vo => es.length - k) 0 v13 ?_ ?_ ?_ ?_
    · exact Nat.zero_le _
    · exact ⟨rfl, rfl, rfl, rfl, rfl, trivial⟩
    · exact Ext.eq rfl
    · intro k vo hinv0
      have hq := fun (h : k < es.length) => edsB_at c12.2 hl h
      refine Run.seq ?_
      refine Run.region ?_
      refine Ops.pure rfl (Pure.lss rfl rfl) ?_
      refine Ops.nil ?_
      refine Run.seq ?_
      refine Run.cond rfl (fun c17 => ?_) (fun c17 => ?_)
      · skip
        replace c17 := dT c17
        refine Run.skip ?_
        refine Run.seq ?_
        refine Run.block ?_
        refine Run.seq ?_
        refine Run.region ?_
        refine Ops.pure rfl (Pure.idxN sl41 (RdL.old hu) rfl rfl (by first | assumption | omega | (simp; omega))) ?_
        refine Ops.pure rfl (Pure.ldA cell74 rfl (RdL.old hu) (seg_get encE_len (by omega) (0, 0)) rfl (by decide)) ?_
        refine Ops.go rfl (Loud.alloc zero74 rfl) ?_
        rintro _ _ ⟨b8, rfl, rfl⟩
        refine Ops.store (Stores.box 0 rfl rfl rfl size74 (allOne rfl) rfl rfl) ?_
        refine Ops.nil ?_
        have hq2 := hq (by omega)
        refine Any.start follows ?_
        refine Any.take 0 rfl (by kernel_rfl) rfl (QOp.pure (Pure.move rfl)) ?_
        refine Any.take 1 rfl (by kernel_rfl) rfl (QOp.pure (Pure.fieldAddrB fld74_0 rfl)) ?_
        refine Any.take 2 rfl (by kernel_rfl) rfl (QOp.pure (Pure.ldB 0 rfl cell2 rfl rfl)) ?_
        refine Any.take 3 rfl (by kernel_rfl) rfl (QOp.pure (Pure.fieldAddrB fld28_2 rfl)) ?_
        refine Any.take 4 rfl (by kernel_rfl) rfl (QOp.pure (Pure.ldB 2 rfl cell22 rfl rfl)) ?_
        refine Any.take 5 rfl (by kernel_rfl) rfl (QOp.pure (Pure.fieldAddrB fld74_0 rfl)) ?_
        refine Any.take 6 rfl (by kernel_rfl) rfl (QOp.pure (Pure.ldB 0 rfl cell2 rfl rfl)) ?_
        refine Any.take 7 rfl (by kernel_rfl) rfl (QOp.pure (Pure.idx1 sl22 (RdL.old hv) rfl rfl (by first | assumption | omega | (simp; omega)) (by first | assumption | omega | (simp; omega)))) ?_
        refine Any.take 8 rfl (by kernel_rfl) rfl (QOp.pure (Pure.ld cell2 rfl (RdL.old hv) (by first | exact ints_get (by omega) | exact bools_get (by omega) | exact strs_get (by omega) | exact vals_get (by first | omega | (simp; omega))))) ?_
        refine Any.take 9 rfl (by kernel_rfl) rfl (QOp.pure (Pure.build rfl (bld74_2 _ _ (by first | rfl | assumption) (by first | rfl | assumption)))) ?_
        refine Any.one 10 (by kernel_rfl) ?_
        refine OneL.loud rfl rfl (Loud.litA sl41 rfl rfl rfl) ?_
        rintro v30 _ rfl
        refine ⟨.inl (by kernel_rfl), ?_⟩
        refine Any.one 11 (by kernel_rfl) ?_
        refine OneL.loud rfl rfl (Loud.append 2 rfl sl41 rfl rfl (RdL.own 0 rfl) (by simp [Value.oneCell']) (by omega) (by omega)) ?_
        rintro v31 _ rfl
        refine ⟨.inl (by kernel_rfl), ?_⟩
        refine Any.take 12 rfl (by kernel_rfl) rfl (QOp.pure (Pure.assign rfl)) ?_
        refine Any.done (by kernel_rfl) ?_
        refine Run.blk ?_
        refine Run.region ?_
        refine Ops.pure rfl (Pure.add rfl rfl (by omega) (by omega)) ?_
        refine Ops.pure rfl (Pure.move rfl) ?_
        refine Ops.nil ?_
        refine Run.asrt ?_
        refine ⟨k + 1, v31, ⟨by omega, by omega⟩, ⟨rfl, rfl, rfl, rfl, rfl, trivial⟩, Ext.trans (Ext.eq ?_) (Ext.take 2 rfl (Ext.take 2 rfl (Ext.nil _)))⟩
        rw [undo_snoc (by omega), edits_append]
        rfl
      · skip
        replace c17 := dF c17
        refine Run.exit rfl ?_
        refine Run.seq ?_
        refine Run.region ?_
        refine Ops.pure rfl (Pure.move rfl) ?_
        refine Ops.pure rfl (Pure.assign rfl) ?_
        refine Ops.pure rfl (Pure.assign rfl) ?_
        refine Ops.nil ?_
        refine Run.ext_ (Ext.take 0 rfl (Ext.nil _)) ?_
        refine Run.ret2 rfl rfl rfl ?_
        have e : k = es.length := by omega
        subst e
        rw [veE_ok c12]
        exact ⟨_, rfl, by rw [lif_yes, length_undo, List.take_of_length_le (by rw [length_undo]; omega)]⟩

set_option maxRecDepth 4000 in
/-- impl.ApplyEdits -/
theorem f_i_ApplyEdits (w : World) (a : Int) (b : Int) (v : Value) (l : List Int) (u : Value) (es : List (Int × Int)) (hv : Rd w v 1 l.length (ints l)) (hl : l.length ≤ 1073741824) (a0 : -9223372036854775808 ≤ a) (a1 : a ≤ 9223372036854775807) (b0 : -9223372036854775808 ≤ b) (b1 : b ≤ 9223372036854775807) (hu : Rd w u 2 es.length (edits es)) (he : es.length ≤ 1048576) : Ret Try.prog 41 [.agg #[.int .i64 a, .int .i64 b, v], u] w (retPn (zif (veE a b l es) a) (zif (veE a b l es) b) (lif (veE a b l es) (appE l es)) (veE a b l es)) := by
  refine Ret.enter Try.func41 rfl Try.ntmps41 rfl ?_
  refine Run.seq ?_
  refine Run.region ?_
  refine Ops.go rfl (Loud.box rfl rfl) ?_
  rintro _ _ ⟨b2, rfl, rfl⟩
  refine Ops.go rfl (Loud.alloc zero28 rfl) ?_
  rintro _ _ ⟨b4, rfl, rfl⟩
  refine Ops.pure rfl (Pure.assign rfl) ?_
  refine Ops.nil ?_
  refine Run.seq ?_
  refine Run.seq ?_
  refine Run.region ?_
  refine Ops.pure rfl (Pure.ldBA 1 rfl cell28 rfl rfl rfl) ?_
  refine Ops.pure rfl (Pure.move rfl) ?_
  refine Ops.q rfl (QOp.call fn47 rfl (fun w hw => f_i_ValidEdits w _ _ _ _ _ _ (by exact RdL.old (by assumption) w hw) (by assumption) (by assumption) (by assumption) (by assumption) (by assumption) (by exact RdL.old (by assumption) w hw) (by omega))) ?_
  refine Ops.pure rfl (Pure.not rfl) ?_
  refine Ops.nil ?_
  refine Run.cond rfl (fun c9 => ?_) (fun c9 => ?_)
  · skip
    replace c9 := nT c9
    refine Run.seq ?_
    refine Run.region ?_
    refine Ops.pure rfl (Pure.build rfl bld28) ?_
    refine Ops.store (Stores.box 0 rfl rfl rfl size28 (allOne rfl) rfl rfl) ?_
    refine Ops.pure rfl (Pure.assign rfl) ?_
    refine Ops.nil ?_
    refine Run.addNil 2 1 ?_
    refine Run.retC1x 1 rfl rfl rfl rfl cell28 rfl (Ext.take 0 rfl (Ext.nil _)) ?_
    rw [veE_bad c9]
    exact ⟨_, rfl, rfl, rfl⟩
  · skip
    replace c9 := nF c9
    have hok := c9.2
    refine Run.skip ?_
    refine Run.seq ?_
    refine Run.region ?_
    refine Ops.pure rfl (Pure.ldBA 1 rfl cell28 rfl rfl rfl) ?_
    refine Ops.pure rfl (Pure.move rfl) ?_
    refine Ops.go rfl (Loud.callR fn98 rfl (fun w hw => f_i_Panel_edited w _ _ _ _ _ _ (by exact RdL.old (by assumption) w hw) (by assumption) (by exact RdL.old (by assumption) w hw) (by omega) (by assumption))) ?_
    rintro v13 _ ⟨L13, hQ13, rfl⟩
    obtain ⟨x13, h13, rfl, rfl⟩ := hQ13
    refine Ops.store (Stores.box 1 rfl rfl rfl size28 (one3 h13) rfl rfl) ?_
    refine Ops.pure rfl (Pure.assign rfl) ?_
    refine Ops.nil ?_
    refine Run.retC1x 1 rfl rfl rfl rfl cell28 rfl (Ext.take 0 rfl (Ext.nil _)) ?_
    rw [veE_ok c9]
    exact ⟨_, h13, rfl, by rw [lif_yes, length_appE]⟩

set_option maxRecDepth 4000 in
/-- spec.ApplyEdits -/
theorem f_s_ApplyEdits (w : World) (a : Int) (b : Int) (v : Value) (l : List Int) (u : Value) (es : List (Int × Int)) (hv : Rd w v 1 l.length (ints l)) (hl : l.length ≤ 1073741824) (a0 : -9223372036854775808 ≤ a) (a1 : a ≤ 9223372036854775807) (b0 : -9223372036854775808 ≤ b) (b1 : b ≤ 9223372036854775807) (hu : Rd w u 2 es.length (edits es)) (he : es.length ≤ 1048576) : Ret Try.prog 35 [.agg #[.int .i64 a, .int .i64 b, v], u] w (retPn (zif (veE a b l es) a) (zif (veE a b l es) b) (lif (veE a b l es) (appE l es)) (veE a b l es)) := by
  refine Ret.enter Try.func35 rfl Try.ntmps35 rfl ?_
  refine Run.seq ?_
  refine Run.region ?_
  refine Ops.go rfl (Loud.box rfl rfl) ?_
  rintro _ _ ⟨b2, rfl, rfl⟩
  refine Ops.go rfl (Loud.alloc zero28 rfl) ?_
  rintro _ _ ⟨b4, rfl, rfl⟩
  refine Ops.pure rfl (Pure.assign rfl) ?_
  refine Ops.nil ?_
  refine Run.seq ?_
  refine Run.seq ?_
  refine Run.region ?_
  refine Ops.pure rfl (Pure.ldBA 1 rfl cell28 rfl rfl rfl) ?_
  refine Ops.pure rfl (Pure.move rfl) ?_
  refine Ops.q rfl (QOp.call fn46 rfl (fun w hw => f_s_ValidEdits w _ _ _ _ _ _ (by exact RdL.old (by assumption) w hw) (by assumption) (by assumption) (by assumption) (by assumption) (by assumption) (by exact RdL.old (by assumption) w hw) (by omega))) ?_
  refine Ops.pure rfl (Pure.not rfl) ?_
  refine Ops.nil ?_
  refine Run.cond rfl (fun c9 => ?_) (fun c9 => ?_)
  · skip
    replace c9 := nT c9
    refine Run.seq ?_
    refine Run.region ?_
    refine Ops.pure rfl (Pure.build rfl bld28) ?_
    refine Ops.store (Stores.box 0 rfl rfl rfl size28 (allOne rfl) rfl rfl) ?_
    refine Ops.pure rfl (Pure.assign rfl) ?_
    refine Ops.nil ?_
    refine Run.addNil 2 1 ?_
    refine Run.retC1x 1 rfl rfl rfl rfl cell28 rfl (Ext.take 0 rfl (Ext.nil _)) ?_
    rw [veE_bad c9]
    exact ⟨_, rfl, rfl, rfl⟩
  · skip
    replace c9 := nF c9
    have hok := c9.2
    refine Run.skip ?_
    refine Run.seq ?_
    refine Run.region ?_
    refine Ops.pure rfl (Pure.move rfl) ?_
    refine Ops.go rfl (Loud.callR fn86 rfl (fun w hw => f_s_l11Apply w _ _ _ _ _ _ _ (by exact RdL.boxM 1 rfl rfl w hw) (by exact RdL.old (by assumption) w hw) (by assumption) (by exact RdL.old (by assumption) w hw) (by omega) (by assumption))) ?_
    rintro v12 _ ⟨L12, hQ12, rfl⟩
    obtain ⟨x12, h12, rfl, rfl⟩ := hQ12
    refine Ops.store (Stores.box 1 rfl rfl rfl size28 (one3 h12) rfl rfl) ?_
    refine Ops.pure rfl (Pure.assign rfl) ?_
    refine Ops.nil ?_
    refine Run.retC1x 1 rfl rfl rfl rfl cell28 rfl (Ext.take 0 rfl (Ext.nil _)) ?_
    rw [veE_ok c9]
    exact ⟨_, h12, rfl, by rw [lif_yes, length_appE]⟩

set_option maxRecDepth 4000 in
/-- impl.editsText -/
theorem f_i_editsText (w : World) (u : Value) (es : List (Int × Int)) (hu : Rd w u 2 es.length (edits es)) (he : es.length ≤ 1048576) (hi : ∀ k, k < es.length → 0 ≤ (es.getD k (0, 0)).1 ∧ (es.getD k (0, 0)).1 ≤ 1073741824 ∧ 0 ≤ (es.getD k (0, 0)).2 ∧ (es.getD k (0, 0)).2 ≤ 2) : RetV Try.prog 99 [u] w (.string (edT es)) := by
  refine Ret.enter Try.func99 rfl Try.ntmps99 rfl ?_
  refine Run.seq ?_
  refine Run.region ?_
  refine Ops.pure rfl (Pure.assign rfl) ?_
  refine Ops.nil ?_
  refine Run.seq ?_
  refine Run.region ?_
  refine Ops.go rfl (Loud.lit sl160 rfl rfl rfl (by simp [Value.oneCell'])) ?_
  rintro v6 _ rfl
  refine Ops.pure rfl (Pure.assign rfl) ?_
  refine Ops.nil ?_
  refine Run.seq ?_
  refine Run.seq ?_
  refine Run.region ?_
  refine Ops.pure rfl (Pure.move rfl) ?_
  refine Ops.pure rfl (Pure.len sl41 (RdL.old hu) rfl) ?_
  refine Ops.pure rfl (Pure.move rfl) ?_
  refine Ops.nil ?_
  refine Run.block ?_
  refine Run.loop2 (X := Nat) (Y := Value) (fun k vp => [(3, vp), (7, u), (8, .int .i64 es.length), (9, .int .i64 k)]) (fun k vp => [.row 9 1 vp k (strs ((es.take k).map partE))]) (fun k vp => k ≤ es.length) (fun k vp => es.length - k) 0 v6 ?_ ?_ ?_ ?_
  · exact Nat.zero_le _
  · exact ⟨rfl, rfl, rfl, rfl, trivial⟩
  · exact Ext.eq rfl
  · intro k vp hinv0
    have hik := hi k
    have hd1 := fun (h : k < es.length) => decB_size (n := (es.getD k (0, 0)).1) (by have := hik h; omega) (by have := hik h; omega)
    have hd2 := fun (h : k < es.length) => decB_size (n := (es.getD k (0, 0)).2) (by have := hik h; omega) (by have := hik h; omega)

    refine Run.seq ?_
    refine Run.region ?_
    refine Ops.pure rfl (Pure.lss rfl rfl) ?_
    refine Ops.nil ?_
    refine Run.seq ?_
    refine Run.cond rfl (fun c10 => ?_) (fun c10 => ?_)
    · skip
      replace c10 := dT c10
      refine Run.skip ?_
      refine Run.seq ?_
      refine Run.block ?_
      refine Run.seq ?_
      refine Run.region ?_
      refine Ops.pure rfl (Pure.idxN sl41 (RdL.old hu) rfl rfl (by first | assumption | omega | (simp; omega))) ?_
      refine Ops.pure rfl (Pure.ldA cell74 rfl (RdL.old hu) (seg_get encE_len (by omega) (0, 0)) rfl (by decide)) ?_
      refine Ops.go rfl (Loud.alloc zero74 rfl) ?_
      rintro _ _ ⟨b5, rfl, rfl⟩
      refine Ops.store (Stores.box 0 rfl rfl rfl size74 (allOne rfl) rfl rfl) ?_
      refine Ops.nil ?_
      refine Any.start follows ?_
      refine Any.take 0 rfl (by kernel_rfl) rfl (QOp.pure (Pure.move rfl)) ?_
      refine Any.take 1 rfl (by kernel_rfl) rfl (QOp.pure (Pure.fieldAddrB fld74_0 rfl)) ?_
      refine Any.take 2 rfl (by kernel_rfl) rfl (QOp.pure (Pure.ldB 0 rfl cell2 rfl rfl)) ?_
      refine Any.take 3 rfl (by kernel_rfl) rfl (QOp.call fn141 rfl (fun w hw => f_i_Decimal w _ (by have := hik (by omega); omega) (by have := hik (by omega); omega))) ?_
      refine Any.take 4 rfl (by kernel_rfl) rfl (QOp.pure (Pure.cat rfl rfl (by first | omega | (simp only [ByteArray.size_append, sz_lit1]; omega) | (have h1 := hd1 (by omega); have h2 := hd2 (by omega); simp only [ByteArray.size_append, sz_lit1]; omega) | (have h1 := hd1 (by omega); show _ + 1 ≤ _; omega)))) ?_
      refine Any.take 5 rfl (by kernel_rfl) rfl (QOp.pure (Pure.fieldAddrB fld74_1 rfl)) ?_
      refine Any.take 6 rfl (by kernel_rfl) rfl (QOp.pure (Pure.ldB 0 rfl cell2 rfl rfl)) ?_
      refine Any.take 7 rfl (by kernel_rfl) rfl (QOp.call fn141 rfl (fun w hw => f_i_Decimal w _ (by have := hik (by omega); omega) (by have := hik (by omega); omega))) ?_
      refine Any.take 8 rfl (by kernel_rfl) rfl (QOp.pure (Pure.cat rfl rfl (by first | omega | (simp only [ByteArray.size_append, sz_lit1]; omega) | (have h1 := hd1 (by omega); have h2 := hd2 (by omega); simp only [ByteArray.size_append, sz_lit1]; omega) | (have h1 := hd1 (by omega); show _ + 1 ≤ _; omega)))) ?_
      refine Any.one 9 (by kernel_rfl) ?_
      refine OneL.loud rfl rfl (Loud.lit sl160 rfl rfl rfl (by simp [Value.oneCell'])) ?_
      rintro v22 _ rfl
      refine ⟨.inl (by kernel_rfl), ?_⟩
      refine Any.one 10 (by kernel_rfl) ?_
      refine OneL.loud rfl rfl (Loud.append 2 rfl sl160 rfl rfl (RdL.own 0 rfl) (by simp [Value.oneCell']) (by omega) (by omega)) ?_
      rintro v23 _ rfl
      refine ⟨.inl (by kernel_rfl), ?_⟩
      refine Any.take 11 rfl (by kernel_rfl) rfl (QOp.pure (Pure.assign rfl)) ?_
      refine Any.done (by kernel_rfl) ?_
      refine Run.blk ?_
      refine Run.region ?_
      refine Ops.pure rfl (Pure.add rfl rfl (by omega) (by omega)) ?_
      refine Ops.pure rfl (Pure.move rfl) ?_
      refine Ops.nil ?_
      refine Run.asrt ?_
      refine ⟨k + 1, v23, ⟨by omega, by omega⟩, ⟨rfl, rfl, rfl, rfl, trivial⟩, Ext.trans (Ext.eq ?_) (Ext.take 2 rfl (Ext.nil _))⟩
      rw [strs_snoc (0, 0) (by omega)]
      rfl
    · skip
      replace c10 := dF c10
      refine Run.exit rfl ?_
      refine Run.seq ?_
      have e : k = es.length := by omega
      subst e
      rw [List.take_length]
      refine Run.region ?_
      refine Ops.pure rfl (Pure.move rfl) ?_
      refine Ops.q rfl (QOp.call fn142 rfl (fun w hw => f_i_joined w _ (es.map partE) _ (by rw [List.length_map]; exact RdL.own 0 rfl w hw) (by rw [List.length_map]; omega) (edP_size hi) (by decide))) ?_
      refine Ops.pure rfl (Pure.assign rfl) ?_
      refine Ops.nil ?_
      refine Run.ret1 rfl rfl ?_
      rfl

set_option maxRecDepth 4000 in
/-- impl.EditsText -/
theorem f_i_EditsText (w : World) (a : Int) (b : Int) (v : Value) (l : List Int) (u : Value) (es : List (Int × Int)) (hv : Rd w v 1 l.length (ints l)) (hl : l.length ≤ 1073741824) (a0 : -9223372036854775808 ≤ a) (a1 : a ≤ 9223372036854775807) (b0 : -9223372036854775808 ≤ b) (b1 : b ≤ 9223372036854775807) (hu : Rd w u 2 es.length (edits es)) (he : es.length ≤ 1048576) : RetV Try.prog 43 [.agg #[.int .i64 a, .int .i64 b, v], u] w (.tuple #[.string (etT a b l es), .int .i64 (veE a b l es)]) := by
  refine Ret.enter Try.func43 rfl Try.ntmps43 rfl ?_
  refine Run.seq ?_
  refine Run.region ?_
  refine Ops.go rfl (Loud.box rfl rfl) ?_
  rintro _ _ ⟨b2, rfl, rfl⟩
  refine Ops.pure rfl (Pure.assign rfl) ?_
  refine Ops.pure rfl (Pure.assign rfl) ?_
  refine Ops.nil ?_
  refine Run.seq ?_
  refine Run.seq ?_
  refine Run.region ?_
  refine Ops.pure rfl (Pure.ldBA 0 rfl cell28 rfl rfl rfl) ?_
  refine Ops.pure rfl (Pure.move rfl) ?_
  refine Ops.q rfl (QOp.call fn47 rfl (fun w hw => f_i_ValidEdits w _ _ _ _ _ _ (by exact RdL.old (by assumption) w hw) (by assumption) (by assumption) (by assumption) (by assumption) (by assumption) (by exact RdL.old (by assumption) w hw) (by omega))) ?_
  refine Ops.pure rfl (Pure.not rfl) ?_
  refine Ops.nil ?_
  refine Run.cond rfl (fun c9 => ?_) (fun c9 => ?_)
  · skip
    replace c9 := nT c9
    refine Run.seq ?_
    refine Run.region ?_
    refine Ops.pure rfl (Pure.assign rfl) ?_
    refine Ops.pure rfl (Pure.assign rfl) ?_
    refine Ops.nil ?_
    refine Run.ret2 rfl rfl rfl ?_
    rw [etT_bad (veE_bad c9), veE_bad c9]
    rfl
  · skip
    replace c9 := nF c9
    refine Run.skip ?_
    refine Run.seq ?_
    refine Run.region ?_
    refine Ops.pure rfl (Pure.move rfl) ?_
    refine Ops.q rfl (QOp.call fn99 rfl (fun w hw => f_i_editsText w _ _ (RdL.old hu w hw) he (fun k hk => by have := edsB_at c9.2 hl hk; omega))) ?_
    refine Ops.pure rfl (Pure.assign rfl) ?_
    refine Ops.pure rfl (Pure.assign rfl) ?_
    refine Ops.nil ?_
    refine Run.ret2 rfl rfl rfl ?_
    rw [etT_ok (veE_ok c9), veE_ok c9]

end Go.Proofs.Ytkplanpcmkbfiaa
