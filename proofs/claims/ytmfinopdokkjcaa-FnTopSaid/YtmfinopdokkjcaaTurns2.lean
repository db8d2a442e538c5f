/- Contracts of functions, printed by program from annotations. -/
import Derived.Test.YtmfinopdokkjcaaTurns
namespace Go.Proofs.Ytmfinopdokkjcaa
open Go Go.AW Go.RowKit
set_option linter.unusedVariables false
set_option linter.unusedSimpArgs false

theorem nilrow (n : Nat) (xs : List Value) (e : xs.take (0 * 1) = []) : xs.take (0 * 1) = [] := e

set_option maxRecDepth 4000 in
/-- slices.Grow[[]int64,int64] -/
theorem f_slices_Grow_int64_int64 (w : World) (n : Nat) (h1 : n ≤ 1073741824) : Ret Try.prog 215 [.slice none 0 0, .int .i64 n] w (fun u L => L = [.row 2 1 u 0 []]) := by
  refine Ret.enter Try.func215 rfl Try.ntmps215 rfl ?_
  refine Run.seq ?_
  refine Run.region ?_
  refine Ops.pure rfl (Pure.assign rfl) ?_
  refine Ops.nil ?_
  refine Run.seq ?_
  refine Run.seq ?_
  refine Run.region ?_
  refine Ops.pure rfl (Pure.move rfl) ?_
  refine Ops.pure rfl (Pure.lss rfl rfl) ?_
  refine Ops.nil ?_
  refine Run.condEF rfl (decide_eq_false (by omega)) ?_
  refine Run.skip ?_
  refine Run.seq ?_
  refine Run.seq ?_
  refine Run.region ?_
  refine Ops.pure rfl (Pure.move rfl) ?_
  refine Ops.pure rfl (Pure.move rfl) ?_
  refine Ops.pure rfl (Pure.capNil sl32 rfl) ?_
  refine Ops.pure rfl (Pure.move rfl) ?_
  refine Ops.pure rfl (Pure.lenNil sl32 rfl) ?_
  refine Ops.pure rfl (Pure.sub rfl rfl (by omega) (by omega)) ?_
  refine Ops.pure rfl (Pure.sub rfl rfl (by omega) (by omega)) ?_
  refine Ops.pure rfl (Pure.assign rfl) ?_
  refine Ops.nil ?_
  refine Run.seq ?_
  refine Run.setv 1 rfl (congrArg (Value.int .i64) (show (n : Int) - (0 - 0) = (n : Int) by omega)) ?_
  refine Run.region ?_
  refine Ops.pure rfl (Pure.move rfl) ?_
  refine Ops.pure rfl (Pure.gtr rfl rfl) ?_
  refine Ops.nil ?_
  refine Run.cond rfl (fun c16 => ?_) (fun c16 => ?_)
  · skip
    replace c16 := dT c16
    refine Run.region ?_
    refine Ops.pure rfl (Pure.move rfl) ?_
    refine Ops.pure rfl (Pure.move rfl) ?_
    refine Ops.pure rfl (Pure.capNil sl32 rfl) ?_
    refine Ops.pure rfl (Pure.sliceNil sl32 rfl rfl) ?_
    refine Ops.pure rfl (Pure.move rfl) ?_
    refine Ops.go rfl (Loud.zeros sl32 und3 rfl rfl (by omega) (by omega) (by omega)) ?_
    rintro v22 _ ⟨xs22, hx22, rfl⟩
    refine Ops.pure rfl (Pure.move rfl) ?_
    refine Ops.pure rfl (Pure.lenNil sl32 rfl) ?_
    refine Ops.go rfl (Loud.sliceH (h := 0) 0 rfl sl32 rfl rfl (by omega)) ?_
    rintro v25 _ rfl
    refine Ops.pure rfl (Pure.assign rfl) ?_
    refine Ops.nil ?_
    refine Run.seq ?_
    refine Run.region ?_
    refine Ops.pure rfl (Pure.move rfl) ?_
    refine Ops.pure rfl (Pure.assign rfl) ?_
    refine Ops.nil ?_
    refine Run.ret1 rfl rfl ?_
    first
      | rfl
      | (simp; done)
  · skip
    replace c16 := dF c16
    have hn0 : n = 0 := by omega
    subst hn0
    refine Run.addNil 2 1 ?_
    refine Run.skip ?_
    refine Run.seq ?_
    refine Run.region ?_
    refine Ops.pure rfl (Pure.move rfl) ?_
    refine Ops.pure rfl (Pure.assign rfl) ?_
    refine Ops.nil ?_
    refine Run.ret1 rfl rfl ?_
    first
      | rfl
      | (simp; done)

set_option maxRecDepth 4000 in
/-- slices.Concat[[]int64,int64] -/
theorem f_slices_Concat_int64_int64 (w : World) (v : Value) (ls : List (List Int)) (hs : RdSS w v ls) (hb : ls.length + tot ls ≤ 1073741824) : Ret Try.prog 169 [v] w (fun u L => L = [.row 2 1 u (tot ls) (ints ls.flatten)]) := by
  have hs0 := hs
  obtain ⟨vs, hvl, hv, hr⟩ := hs
  refine Ret.enter Try.func169 rfl Try.ntmps169 rfl ?_
  refine Run.seq ?_
  refine Run.region ?_
  refine Ops.pure rfl (Pure.assign rfl) ?_
  refine Ops.nil ?_
  refine Run.seq ?_
  refine Run.region ?_
  refine Ops.pure rfl (Pure.assign rfl) ?_
  refine Ops.nil ?_
  refine Run.seq ?_
  refine Run.seq ?_
  refine Run.region ?_
  refine Ops.pure rfl (Pure.move rfl) ?_
  refine Ops.pure rfl (Pure.len sl24 (RdL.old hv) rfl) ?_
  refine Ops.pure rfl (Pure.move rfl) ?_
  refine Ops.nil ?_
  refine Run.block ?_
  refine Run.loop (X := Nat) (fun k => [(0, v), (3, .int .i64 (tot (ls.take k))), (9, v), (10, .int .i64 ls.length), (11, .int .i64 k)]) (fun k => []) (fun k => k ≤ ls.length) (fun k => ls.length - k) 0 ?_ ?_ ?_ ?_
  · exact Nat.zero_le _
  · exact ⟨rfl, rfl, rfl, rfl, rfl, trivial⟩
  · exact Ext.refl _
  · intro k hinv0
    have hlk := len_le_tot (ls := ls) (k := k)
    have htk := tot_take_le ls k
    have htk1 := tot_take_le ls (k + 1)
    have hts := tot_take_succ (ls := ls) (k := k)
    refine Run.seq ?_
    refine Run.region ?_
    refine Ops.pure rfl (Pure.lss rfl rfl) ?_
    refine Ops.nil ?_
    refine Run.seq ?_
    refine Run.cond rfl (fun c12 => ?_) (fun c12 => ?_)
    · skip
      replace c12 := dT c12
      refine Run.skip ?_
      refine Run.seq ?_
      refine Run.block ?_
      refine Run.seq ?_
      refine Run.region ?_
      refine Ops.pure rfl (Pure.idx1N sl24 (RdL.old hv) rfl rfl (by first | assumption | omega | (simp; omega))) ?_
      refine Ops.pure rfl (Pure.ld cell32 rfl (RdL.old hv) (by first | exact ints_get (by omega) | exact bools_get (by omega) | exact strs_get (by omega) | exact vals_get (by first | omega | (simp; omega)))) ?_
      refine Ops.pure rfl (Pure.assign rfl) ?_
      refine Ops.nil ?_
      refine Run.seq ?_
      refine Run.region ?_
      refine Ops.pure rfl (Pure.move rfl) ?_
      refine Ops.pure rfl (Pure.move rfl) ?_
      refine Ops.pure rfl (Pure.len sl32 (RdL.old (hr k (by omega))) rfl) ?_
      refine Ops.pure rfl (Pure.add rfl rfl (by omega) (by omega)) ?_
      refine Ops.pure rfl (Pure.assign rfl) ?_
      refine Ops.nil ?_
      refine Run.seq ?_
      refine Run.region ?_
      refine Ops.pure rfl (Pure.move rfl) ?_
      refine Ops.pure rfl (Pure.lss rfl rfl) ?_
      refine Ops.nil ?_
      refine Run.condEF rfl (decide_eq_false (by omega)) ?_
      refine Run.skip ?_
      refine Run.blk ?_
      refine Run.region ?_
      refine Ops.pure rfl (Pure.add rfl rfl (by omega) (by omega)) ?_
      refine Ops.pure rfl (Pure.move rfl) ?_
      refine Ops.nil ?_
      refine Run.asrt ?_
      exact ⟨k + 1, ⟨by omega, by omega⟩, ⟨rfl, (by rw [hts (by omega), Int.natCast_add]; rfl), rfl, rfl, rfl, trivial⟩, Ext.nil _⟩
    · skip
      replace c12 := dF c12
      refine Run.exit rfl ?_
      refine Run.seq ?_
      refine Run.region ?_
      refine Ops.pure rfl (Pure.move rfl) ?_
      refine Ops.go rfl (Loud.callR fn215 rfl (fun w hw => f_slices_Grow_int64_int64 w _ (by omega))) ?_
      rintro v24 _ ⟨L24, hQ24, rfl⟩
      subst hQ24
      refine Ops.pure rfl (Pure.assign rfl) ?_
      refine Ops.nil ?_
      refine Run.seq ?_
      refine Run.seq ?_
      refine Run.region ?_
      refine Ops.pure rfl (Pure.move rfl) ?_
      refine Ops.pure rfl (Pure.len sl24 (RdL.old hv) rfl) ?_
      refine Ops.pure rfl (Pure.move rfl) ?_
      refine Ops.nil ?_
      refine Run.block ?_
      refine Run.loop2 (X := Nat) (Y := Value) (fun k u => [(6, u), (25, v), (26, .int .i64 ls.length), (27, .int .i64 k)]) (fun k u => [.row 2 1 u (tot (ls.take k)) (ints (ls.take k).flatten)]) (fun k u => k ≤ ls.length) (fun k u => ls.length - k) 0 v24 ?_ ?_ ?_ ?_
      · exact Nat.zero_le _
      · exact ⟨rfl, rfl, rfl, rfl, trivial⟩
      · exact Ext.eq rfl
      · intro k u hinv1
        have hlk := len_le_tot (ls := ls) (k := k)
        have htk := tot_take_le ls k
        have htk1 := tot_take_le ls (k + 1)
        have hts := tot_take_succ (ls := ls) (k := k)
        refine Run.seq ?_
        refine Run.region ?_
        refine Ops.pure rfl (Pure.lss rfl rfl) ?_
        refine Ops.nil ?_
        refine Run.seq ?_
        refine Run.cond rfl (fun c28 => ?_) (fun c28 => ?_)
        · skip
          replace c28 := dT c28
          refine Run.skip ?_
          refine Run.seq ?_
          refine Run.block ?_
          refine Run.seq ?_
          refine Run.region ?_
          refine Ops.pure rfl (Pure.idx1N sl24 (RdL.old hv) rfl rfl (by first | assumption | omega | (simp; omega))) ?_
          refine Ops.pure rfl (Pure.ld cell32 rfl (RdL.old hv) (by first | exact ints_get (by omega) | exact bools_get (by omega) | exact strs_get (by omega) | exact vals_get (by first | omega | (simp; omega)))) ?_
          refine Ops.pure rfl (Pure.assign rfl) ?_
          refine Ops.nil ?_
          refine Run.region ?_
          refine Ops.pure rfl (Pure.move rfl) ?_
          refine Ops.pure rfl (Pure.move rfl) ?_
          refine Ops.go rfl (Loud.append 0 rfl sl32 rfl rfl (RdL.old (hr k (by omega))) (by simp [ints, Value.oneCell']) (by omega) (by omega)) ?_
          rintro v33 _ rfl
          refine Ops.pure rfl (Pure.assign rfl) ?_
          refine Ops.nil ?_
          refine Run.blk ?_
          refine Run.region ?_
          refine Ops.pure rfl (Pure.add rfl rfl (by omega) (by omega)) ?_
          refine Ops.pure rfl (Pure.move rfl) ?_
          refine Ops.nil ?_
          refine Run.asrt ?_
          exact ⟨k + 1, v33, ⟨by omega, by omega⟩, ⟨rfl, rfl, rfl, rfl, trivial⟩, Ext.eq (by rw [hts (by omega), flatten_take_succ (by omega), ints_append]; rfl)⟩
        · skip
          replace c28 := dF c28
          refine Run.exit rfl ?_
          refine Run.seq ?_
          refine Run.region ?_
          refine Ops.pure rfl (Pure.move rfl) ?_
          refine Ops.pure rfl (Pure.assign rfl) ?_
          refine Ops.nil ?_
          refine Run.ret1 rfl rfl ?_
          have e : k = ls.length := by omega
          subst e
          rw [List.take_length]

set_option maxRecDepth 4000 in
/-- impl.turned -/
theorem f_i_turned (w : World) (v : Value) (l : List Int) (b : Nat) (hv : Rd w v 1 l.length (ints l)) (hl : l.length ≤ 1048576) (hbl : b ≤ l.length) : Ret Try.prog 94 [v, .int .i64 b] w (fun u L => u.oneCell' = true ∧ L = [.row 2 1 u (rot l b).length (ints (rot l b))]) := by
  have hA : Rd w (subS v 1 b l.length) 1 (l.drop b).length (ints (l.drop b)) := by
    have h := hv.sub1 (lo := b) (hi := l.length) hbl (Nat.le_refl _)
    rw [List.take_of_length_le (by simp)] at h
    rw [List.length_drop]; exact h
  have hB : Rd w (subS v 1 0 b) 1 (l.take b).length (ints (l.take b)) := by
    have h := hv.sub1 (lo := 0) (hi := b) (Nat.zero_le _) hbl
    rw [List.drop_zero, Nat.sub_zero] at h
    rw [List.length_take, Nat.min_eq_left hbl]; exact h
  have hA1 := hA.one
  have hB1 := hB.one
  have htt : tot [l.drop b, l.take b] = l.length := by simp [tot]; omega
  refine Ret.enter Try.func94 rfl Try.ntmps94 rfl ?_
  refine Run.seq ?_
  refine Run.region ?_
  refine Ops.pure rfl (Pure.assign rfl) ?_
  refine Ops.nil ?_
  refine Run.seq ?_
  refine Any.start follows ?_
  refine Any.take 0 rfl (by kernel_rfl) rfl (QOp.pure (Pure.move rfl)) ?_
  refine Any.take 1 rfl (by kernel_rfl) rfl (QOp.pure (Pure.move rfl)) ?_
  refine Any.take 2 rfl (by kernel_rfl) rfl (QOp.pure (Pure.sliceL sl32 (RdL.old hv) rfl rfl (by omega) (by omega))) ?_
  refine Any.take 3 rfl (by kernel_rfl) rfl (QOp.pure (Pure.move rfl)) ?_
  refine Any.take 4 rfl (by kernel_rfl) rfl (QOp.pure (Pure.move rfl)) ?_
  refine Any.take 5 rfl (by kernel_rfl) rfl (QOp.pure (Pure.sliceH sl32 (RdL.old hv) rfl rfl (by omega) (by omega))) ?_
  refine Any.one 6 (by kernel_rfl) ?_
  refine OneL.loud rfl rfl (Loud.lit sl24 rfl rfl rfl (by simp [hA1, hB1])) ?_
  rintro v11 _ rfl
  refine ⟨.inl (by kernel_rfl), ?_⟩
  refine Any.one 7 (by kernel_rfl) ?_
  refine OneL.loud rfl rfl (Loud.callR fn169 rfl (fun w hw => f_slices_Concat_int64_int64 w _ [l.drop b, l.take b] (RdSS_pair (RdL.own 0 rfl w hw) (hA.below hw.below) (hB.below hw.below)) (by rw [htt]; simp; omega))) ?_
  rintro v12 _ ⟨L12, hQ12, rfl⟩
  subst hQ12
  refine ⟨.inl (by kernel_rfl), ?_⟩
  refine Any.take 8 rfl (by kernel_rfl) rfl (QOp.pure (Pure.assign rfl)) ?_
  refine Any.done (by kernel_rfl) ?_
  refine Run.ext_ (Ext.left _ _) ?_
  refine Run.have_ (fun w hw => row_one 0 hw rfl) (fun h12 => ?_)
  refine Run.ret1 rfl rfl ?_
  refine ⟨h12, ?_⟩
  show [_] = [_]
  rw [htt, length_rot]
  simp [rot]

set_option maxRecDepth 4000 in
/-- impl.BackCurve -/
theorem f_i_BackCurve (w : World) (v : Value) (ls : List (List Int)) (c : Int) (hs : RdSS w v ls) (hb : ls.length + tot ls ≤ 1073741824) (hc : -9223372036854775808 ≤ c) (hc2 : c ≤ 9223372036854775807) : Ret Try.prog 16 [v, .int .i64 c] w (retSS (backC ls c) (cdE ls [c])) := by
  refine Ret.enter Try.func16 rfl Try.ntmps16 rfl ?_
  refine Run.seq ?_
  refine Run.region ?_
  refine Ops.pure rfl (Pure.assign rfl) ?_
  refine Ops.pure rfl (Pure.assign rfl) ?_
  refine Ops.nil ?_
  refine Run.seq ?_
  refine Run.seq ?_
  refine Run.region ?_
  refine Ops.pure rfl (Pure.move rfl) ?_
  refine Ops.pure rfl (Pure.move rfl) ?_
  refine Ops.go rfl (Loud.lit sl32 rfl rfl rfl (by simp [Value.oneCell'])) ?_
  rintro v10 _ rfl
  refine Ops.q rfl (QOp.call fn91 rfl (fun w hw => f_i_codedCode w _ _ _ [c] (RdSS.old hs hw) (by omega) (RdL.own 0 rfl w hw) (by simp))) ?_
  refine Ops.pure rfl (Pure.assign rfl) ?_
  refine Ops.nil ?_
  refine Run.seq ?_
  refine Run.region ?_
  refine Ops.pure rfl (Pure.move rfl) ?_
  refine Ops.pure rfl (Pure.neq rfl rfl) ?_
  refine Ops.nil ?_
  refine Run.cond rfl (fun c13 => ?_) (fun c13 => ?_)
  · skip
    replace c13 := nT c13
    refine Run.seq ?_
    refine Run.addNil 32 1 ?_
    refine Run.ext_ (L' := [_]) (Ext.left [_] _) ?_
    refine Run.region ?_
    refine Ops.pure rfl (Pure.move rfl) ?_
    refine Ops.pure rfl (Pure.assign rfl) ?_
    refine Ops.pure rfl (Pure.assign rfl) ?_
    refine Ops.nil ?_
    refine Run.ret2 rfl rfl rfl ?_
    exact retSS_nil (backC_bad c13)
  · skip
    replace c13 := nF c13
    obtain ⟨hvb, hc0, hc1⟩ := cdE_zero c13
    obtain ⟨n, rfl⟩ := Int.eq_ofNat_of_zero_le hc0
    have hln := len_le_tot (ls := ls) (k := n)
    refine Run.skip ?_
    refine Run.seq ?_
    refine Run.region ?_
    refine Ops.pure rfl (Pure.move rfl) ?_
    refine Ops.go rfl (Loud.callR fn88 rfl (fun w hw => f_i_cloneCode w _ _ (by exact RdSS.old (by assumption) hw) (by assumption))) ?_
    rintro v16 _ ⟨L16, hQ16, rfl⟩
    obtain ⟨us16, hul16, rfl⟩ := hQ16
    refine Ops.pure rfl (Pure.assign rfl) ?_
    refine Ops.nil ?_
    refine Run.seq ?_
    refine Run.region ?_
    refine Ops.pure rfl (Pure.move rfl) ?_
    refine Ops.pure rfl (Pure.move rfl) ?_
    refine Ops.pure rfl (Pure.idx1N sl24 (RdL.own 0 rfl) rfl rfl (by first | assumption | omega | (simp; omega))) ?_
    refine Ops.pure rfl (Pure.ld cell32 rfl (RdL.own 0 rfl) (by first | exact ints_get (by omega) | exact bools_get (by omega) | exact strs_get (by omega) | exact vals_get (by first | omega | (simp; omega)))) ?_
    refine Ops.go rfl (Loud.callO fn92 rfl (fun w hw => f_slices_Reverse_int64_int64 _ w (us16.getD n undef) (ls.getD n []) (ssRest v16 us16 ls n [.row 2 1 v10 1 [.int .i64 (n : Int)]]) (by have h := hw.perm (ss_focus (v := v16) (F := [.row 2 1 v10 1 [.int .i64 (n : Int)]]) (vs := us16) (ls := ls) (k := n) hul16 (show n < ls.length by omega)); exact h) (by omega))) ?_
    rintro v21 L21 hQ21
    obtain ⟨rfl, rfl⟩ := hQ21
    refine Ops.nil ?_
    refine Run.seq ?_
    have hpt := ss_put (v := v16) (F := [.row 2 1 v10 1 [.int .i64 (n : Int)]]) (vs := us16) (ls := ls) (k := n) (m := (ls.getD n []).reverse) hul16 (by omega) (by simp)
    refine Run.ext_ (L' := ssE v16 us16 (ls.set n (ls.getD n []).reverse)) ⟨[.row 2 1 v10 1 [.int .i64 (n : Int)]], hpt.symm⟩ ?_
    refine Run.region ?_
    refine Ops.pure rfl (Pure.move rfl) ?_
    refine Ops.pure rfl (Pure.assign rfl) ?_
    refine Ops.pure rfl (Pure.assign rfl) ?_
    refine Ops.nil ?_
    refine Run.ret2 rfl rfl rfl ?_
    rw [backC_ok c13, c13]
    exact ⟨_, us16, by simp [hul16], rfl, rfl⟩

set_option maxRecDepth 4000 in
/-- impl.TurnCurve -/
theorem f_i_TurnCurve (w : World) (v : Value) (ls : List (List Int)) (c : Int) (b : Int) (hs : RdSS w v ls) (hb : ls.length + tot ls ≤ 1073741824) (hc : -9223372036854775808 ≤ c) (hc2 : c ≤ 9223372036854775807) (hd : -9223372036854775808 ≤ b) (hd2 : b ≤ 9223372036854775807) : Ret Try.prog 18 [v, .int .i64 c, .int .i64 b] w (retSS (turnC ls c b) (tE ls c b)) := by
  refine Ret.enter Try.func18 rfl Try.ntmps18 rfl ?_
  refine Run.seq ?_
  refine Run.region ?_
  refine Ops.pure rfl (Pure.assign rfl) ?_
  refine Ops.pure rfl (Pure.assign rfl) ?_
  refine Ops.nil ?_
  refine Run.seq ?_
  refine Run.seq ?_
  refine Run.region ?_
  refine Ops.pure rfl (Pure.move rfl) ?_
  refine Ops.pure rfl (Pure.move rfl) ?_
  refine Ops.go rfl (Loud.lit sl32 rfl rfl rfl (by simp [Value.oneCell'])) ?_
  rintro v13 _ rfl
  refine Ops.q rfl (QOp.call fn91 rfl (fun w hw => f_i_codedCode w _ _ _ [c] (RdSS.old hs hw) (by omega) (RdL.own 0 rfl w hw) (by simp))) ?_
  refine Ops.pure rfl (Pure.assign rfl) ?_
  refine Ops.nil ?_
  refine Run.seq ?_
  refine Run.region ?_
  refine Ops.pure rfl (Pure.move rfl) ?_
  refine Ops.pure rfl (Pure.neq rfl rfl) ?_
  refine Ops.nil ?_
  refine Run.cond rfl (fun c16 => ?_) (fun c16 => ?_)
  · skip
    replace c16 := nT c16
    refine Run.seq ?_
    refine Run.addNil 32 1 ?_
    refine Run.ext_ (L' := [_]) (Ext.left [_] _) ?_
    refine Run.region ?_
    refine Ops.pure rfl (Pure.move rfl) ?_
    refine Ops.pure rfl (Pure.assign rfl) ?_
    refine Ops.pure rfl (Pure.assign rfl) ?_
    refine Ops.nil ?_
    refine Run.ret2 rfl rfl rfl ?_
    rw [tE_bad c16]; exact retSS_nil (turnC_bad (by rw [tE_bad c16]; exact c16))
  · skip
    replace c16 := nF c16
    refine Run.skip ?_
    refine Run.seq ?_
    refine Run.seq ?_
    refine Run.region ?_
    refine Ops.pure rfl (Pure.move rfl) ?_
    refine Ops.q rfl (QOp.call fn93 rfl (fun w hw => f_i_inRange w _ _ _)) ?_
    refine Ops.pure rfl (Pure.not rfl) ?_
    refine Ops.nil ?_
    refine Run.cond rfl (fun c20 => ?_) (fun c20 => ?_)
    · skip
      replace c20 := nT c20
      refine Run.seq ?_
      refine Run.addNil 32 1 ?_
      refine Run.ext_ (L' := [_]) (Ext.left [_] _) ?_
      refine Run.region ?_
      refine Ops.pure rfl (Pure.assign rfl) ?_
      refine Ops.pure rfl (Pure.assign rfl) ?_
      refine Ops.nil ?_
      refine Run.ret2 rfl rfl rfl ?_
      rw [tE_out c16 c20]; exact retSS_nil (turnC_bad (by rw [tE_out c16 c20]; decide))
    · skip
      replace c20 := nF c20
      obtain ⟨hvb, hc0, hc1⟩ := cdE_zero c16
      obtain ⟨n, rfl⟩ := Int.eq_ofNat_of_zero_le hc0
      have hln := len_le_tot (ls := ls) (k := n)
      obtain ⟨m, rfl⟩ := Int.eq_ofNat_of_zero_le c20.1
      have hvb2 := validB_len hvb
      refine Run.skip ?_
      refine Run.seq ?_
      refine Run.region ?_
      refine Ops.pure rfl (Pure.move rfl) ?_
      refine Ops.go rfl (Loud.callR fn88 rfl (fun w hw => f_i_cloneCode w _ _ (by exact RdSS.old (by assumption) hw) (by assumption))) ?_
      rintro v22 _ ⟨L22, hQ22, rfl⟩
      obtain ⟨us22, hul22, rfl⟩ := hQ22
      refine Ops.pure rfl (Pure.assign rfl) ?_
      refine Ops.nil ?_
      refine Run.seq ?_
      refine Run.seq ?_
      have hrin0 : RdL w (ssE v22 us22 ls ++ [.row 2 1 v13 1 [.int .i64 (n : Int)]]) (us22.getD n undef) 1 (ls.getD n []).length (ints (ls.getD n [])) := RdL.mem (List.mem_append_left _ (List.mem_cons_of_mem _ (inner_mem hul22 (by omega))))
      refine Run.region ?_
      refine Ops.pure rfl (Pure.move rfl) ?_
      refine Ops.pure rfl (Pure.move rfl) ?_
      refine Ops.pure rfl (Pure.idx1N sl24 (RdL.own 0 rfl) rfl rfl (by first | assumption | omega | (simp; omega))) ?_
      refine Ops.pure rfl (Pure.ld cell32 rfl (RdL.own 0 rfl) (by first | exact ints_get (by omega) | exact bools_get (by omega) | exact strs_get (by omega) | exact vals_get (by first | omega | (simp; omega)))) ?_
      refine Ops.pure rfl (Pure.len sl32 hrin0 rfl) ?_
      refine Ops.pure rfl (Pure.assign rfl) ?_
      refine Ops.nil ?_
      refine Run.seq ?_
      refine Run.region ?_
      refine Ops.pure rfl (Pure.move rfl) ?_
      refine Ops.pure rfl (Pure.gtr rfl rfl) ?_
      refine Ops.nil ?_
      refine Run.cond rfl (fun c29 => ?_) (fun c29 => ?_)
      · skip
        replace c29 := dT c29
        have hmd := Nat.mod_lt m (show 0 < (ls.getD n []).length by omega)
        refine Any.start follows ?_
        refine Any.take 0 rfl (by kernel_rfl) rfl (QOp.pure (Pure.move rfl)) ?_
        refine Any.take 1 rfl (by kernel_rfl) rfl (QOp.pure (Pure.move rfl)) ?_
        refine Any.take 2 rfl (by kernel_rfl) rfl (QOp.pure (Pure.move rfl)) ?_
        refine Any.take 3 rfl (by kernel_rfl) rfl (QOp.pure (Pure.move rfl)) ?_
        refine Any.take 4 rfl (by kernel_rfl) rfl (QOp.pure (Pure.idx1N sl24 (RdL.own 0 rfl) rfl rfl (by first | assumption | omega | (simp; omega)))) ?_
        refine Any.take 5 rfl (by kernel_rfl) rfl (QOp.pure (Pure.ld cell32 rfl (RdL.own 0 rfl) (by first | exact ints_get (by omega) | exact bools_get (by omega) | exact strs_get (by omega) | exact vals_get (by first | omega | (simp; omega))))) ?_
        refine Any.take 6 rfl (by kernel_rfl) rfl (QOp.pure (Pure.move rfl)) ?_
        refine Any.take 7 rfl (by kernel_rfl) rfl (QOp.pure (Pure.move rfl)) ?_
        refine Any.take 8 rfl (by kernel_rfl) rfl (QOp.pure (Pure.remN rfl rfl (by omega))) ?_
        refine Any.one 9 (by kernel_rfl) ?_
        refine OneL.loud rfl rfl (Loud.callR fn94 rfl (fun w hw => f_i_turned w (us22.getD n undef) (ls.getD n []) (m % (ls.getD n []).length) (hrin0 w hw) (by omega) (by omega))) ?_
        rintro v39 _ ⟨L39, hQ39, rfl⟩
        obtain ⟨h39, rfl⟩ := hQ39
        refine ⟨.inl (by kernel_rfl), ?_⟩
        refine Any.take 10 rfl (by kernel_rfl) rfl (QOp.pure (Pure.idx1N sl24 (RdL.own 1 rfl) rfl rfl (by first | assumption | omega | (simp; omega)))) ?_
        refine Any.one 11 (by kernel_rfl) ?_
        refine OneL.store rfl (Stores.row1 1 rfl size32 rfl rfl (by assumption) (by first | assumption | omega | (simp; omega))) (by kernel_rfl) ?_
        refine Any.done (by kernel_rfl) ?_
        refine Run.ext_ (inner_set hul22 (show n < ls.length by omega)) ?_
        refine Run.seq ?_
        refine Run.region ?_
        refine Ops.pure rfl (Pure.move rfl) ?_
        refine Ops.pure rfl (Pure.assign rfl) ?_
        refine Ops.pure rfl (Pure.assign rfl) ?_
        refine Ops.nil ?_
        refine Run.ret2 rfl rfl rfl ?_
        rw [turnC_ok (tE_ok c16 c20), tE_ok c16 c20]
        first
          | exact ⟨_, us22.set n v39, by simp [hul22], rfl, rfl⟩
          | (have hnil : ls.getD n [] = [] := List.eq_nil_of_length_eq_zero (by omega)
             have hset : ls.set n (rot (ls.getD n []) (m % (ls.getD n []).length)) = ls := by
               rw [hnil]
               refine ext_getD [] (by simp) fun j hj => ?_
               by_cases e : n = j
               · subst e; rw [hnil]; simp [List.getD, rot, show n < ls.length by omega]
               · simp [List.getD, List.getElem?_set_ne e]
             rw [hset]
             exact ⟨_, us22, hul22, rfl, rfl⟩)
      · skip
        replace c29 := dF c29
        refine Run.ext_ (Ext.left _ _) ?_
        refine Run.skip ?_
        refine Run.seq ?_
        refine Run.region ?_
        refine Ops.pure rfl (Pure.move rfl) ?_
        refine Ops.pure rfl (Pure.assign rfl) ?_
        refine Ops.pure rfl (Pure.assign rfl) ?_
        refine Ops.nil ?_
        refine Run.ret2 rfl rfl rfl ?_
        rw [turnC_ok (tE_ok c16 c20), tE_ok c16 c20]
        first
          | exact ⟨_, us22.set n v39, by simp [hul22], rfl, rfl⟩
          | (have hnil : ls.getD n [] = [] := List.eq_nil_of_length_eq_zero (by omega)
             have hset : ls.set n (rot (ls.getD n []) (m % (ls.getD n []).length)) = ls := by
               rw [hnil]
               refine ext_getD [] (by simp) fun j hj => ?_
               by_cases e : n = j
               · subst e; rw [hnil]; simp [List.getD, rot, show n < ls.length by omega]
               · simp [List.getD, List.getElem?_set_ne e]
             rw [hset]
             exact ⟨_, us22, hul22, rfl, rfl⟩)

end Go.Proofs.Ytmfinopdokkjcaa
