/- Contracts of functions, printed by program from annotations. -/
import Derived.Test.YtmfinopdokkjcaaMpW
namespace Go.Proofs.Ytmfinopdokkjcaa
open Go Go.AW Go.RowKit
set_option linter.unusedVariables false
set_option linter.unusedSimpArgs false

set_option maxRecDepth 4000 in
set_option maxHeartbeats 1000000 in
/-- spec.l06Map -/
theorem f_s_l06Map (w : World) (p : Nat) (a : Int) (b : Int) (v : Value) (l : List Int) (s : Nat) (hp : Rd w (boxS p) 3 1 [.int .i64 a, .int .i64 b, v]) (hv : Rd w v 1 l.length (ints l)) (hk : okP a b l = true) (h8 : s < 8) : Ret Try.prog 110 [.pointer (some ⟨p, 0, none⟩), .int .i64 s] w (fun u L => ∃ x, x.oneCell' = true ∧ u = .agg #[.int .i64 (mpA s a b), .int .i64 (mpB s a b), x] ∧ L = [.row 2 1 x (inn a b) (ints (mapL s a b l))]) := by
  have hs := okP_size hk
  obtain ⟨hs1, hs2, hs3, hs4⟩ := id hs
  have hib := (inn_eq hs).2.1
  have hli := okP_inn hk
  refine Ret.enter Try.func110 rfl Try.ntmps110 rfl ?_
  refine Run.seq ?_
  refine Run.region ?_
  refine Ops.go rfl (Loud.alloc zero35 rfl) ?_
  rintro _ _ ⟨b4, rfl, rfl⟩
  refine Ops.nil ?_
  refine Run.seq ?_
  refine AnyK.start ([]) follows (Ext.nil _) ?_
  refine AnyK.take 0 rfl (by kernel_rfl) rfl (QOp.pure (Pure.move rfl)) ?_
  refine AnyK.take 1 rfl (by kernel_rfl) rfl (QOp.pure (Pure.nilchk rfl)) ?_
  refine AnyK.take 2 rfl (by kernel_rfl) rfl (QOp.pure (Pure.fieldAddrB fld35_0 rfl)) ?_
  refine AnyK.take 3 rfl (by kernel_rfl) rfl (QOp.pure (Pure.ldP cell2 rfl (RdL.old hp) rfl)) ?_
  refine AnyK.take 4 rfl (by kernel_rfl) rfl (QOp.pure (Pure.move rfl)) ?_
  refine AnyK.take 5 rfl (by kernel_rfl) rfl (QOp.pure (Pure.nilchk rfl)) ?_
  refine AnyK.take 6 rfl (by kernel_rfl) rfl (QOp.pure (Pure.fieldAddrB fld35_1 rfl)) ?_
  refine AnyK.take 7 rfl (by kernel_rfl) rfl (QOp.pure (Pure.ldP cell2 rfl (RdL.old hp) rfl)) ?_
  refine AnyK.two 8 9 (by kernel_rfl) ?_ ?_
  · skip
    refine OneK.loud rfl rfl (Loud.callR fn170 rfl (fun w hw => f_s_l02New w a b hs)) ?_
    rintro v16 _ ⟨L16, hQ16, rfl⟩
    obtain ⟨x16, h16, rfl, rfl⟩ := hQ16
    refine ⟨(Ext.nil _), ?_⟩
    refine AnyK.one 9 (by kernel_rfl) ?_
    refine OneK.loud rfl rfl (Loud.alloc zero35 rfl) ?_
    rintro _ _ ⟨b5, rfl, rfl⟩
    refine ⟨(Ext.nil _), ?_⟩
    refine AnyK.one 10 (by kernel_rfl) ?_
    first
      | refine OneK.store rfl (Stores.box 0 rfl rfl rfl size35 (one3 h16) rfl rfl) (Ext.nil _) ?_
      | (refine OneK.store rfl (Stores.box 1 rfl rfl rfl size35 (one3 h16) rfl rfl) (Ext.nil _) ?_)
    refine AnyK.done (by kernel_rfl) ?_
    refine Run.seq ?_
    refine Run.seq ?_
    first
      | refine Run.ext_ (L' := [.box b5 35 [.int .i64 a, .int .i64 b, x16], _, _]) (Ext.refl _) ?_
      | refine Run.ext_ (L' := [.box b5 35 [.int .i64 a, .int .i64 b, x16], _, _]) (Ext.take 1 rfl (Ext.take 0 rfl (Ext.refl _))) ?_
    refine Run.region ?_
    refine Ops.pure rfl (Pure.move rfl) ?_
    refine Ops.pure rfl (Pure.bit4 rfl rfl h8) ?_
    refine Ops.pure rfl (Pure.neq rfl rfl) ?_
    refine Ops.nil ?_
    refine Run.cond rfl (fun c19 => ?_) (fun c19 => ?_)
    · skip
      replace c19 := nT c19
      have hA : mpA s a b = b := if_pos (by omega)
      have hB : mpB s a b = a := if_pos (by omega)
      refine AnyK.start ([]) follows (Ext.nil _) ?_
      refine AnyK.take 0 rfl (by kernel_rfl) rfl (QOp.pure (Pure.move rfl)) ?_
      refine AnyK.take 1 rfl (by kernel_rfl) rfl (QOp.pure (Pure.nilchk rfl)) ?_
      refine AnyK.take 2 rfl (by kernel_rfl) rfl (QOp.pure (Pure.fieldAddrB fld35_1 rfl)) ?_
      refine AnyK.take 3 rfl (by kernel_rfl) rfl (QOp.pure (Pure.ldP cell2 rfl (RdL.old hp) rfl)) ?_
      refine AnyK.take 4 rfl (by kernel_rfl) rfl (QOp.pure (Pure.move rfl)) ?_
      refine AnyK.take 5 rfl (by kernel_rfl) rfl (QOp.pure (Pure.nilchk rfl)) ?_
      refine AnyK.take 6 rfl (by kernel_rfl) rfl (QOp.pure (Pure.fieldAddrB fld35_0 rfl)) ?_
      refine AnyK.take 7 rfl (by kernel_rfl) rfl (QOp.pure (Pure.ldP cell2 rfl (RdL.old hp) rfl)) ?_
      refine AnyK.one 8 (by kernel_rfl) ?_
      refine OneK.loud rfl rfl (Loud.callR fn170 rfl (fun w hw => f_s_l02New w b a (by unfold SizeOk; omega))) ?_
      rintro v28 _ ⟨L28, hQ28, rfl⟩
      obtain ⟨x28, h28, rfl, rfl⟩ := hQ28
      rw [inn_swap a b]
      refine ⟨(Ext.nil _), ?_⟩
      refine AnyK.one 9 (by kernel_rfl) ?_
      (refine OneK.store rfl (Stores.box 1 rfl rfl rfl size35 (one3 h28) rfl rfl) (Ext.nil _) ?_)
      refine AnyK.done (by kernel_rfl) ?_
      refine Run.seq ?_
      refine Run.seq ?_
      refine Run.region ?_
      refine Ops.pure rfl (Pure.assign rfl) ?_
      refine Ops.nil ?_
      refine Run.block ?_
      refine Run.loop2 (X := Nat) (Y := Value) (fun k xo => [(0, .pointer (some ⟨p, 0, none⟩)), (1, .int .i64 (s : Int)), (4, .pointer (some ⟨b4, 0, none⟩)), (5, .pointer (some ⟨b5, 0, none⟩)), (6, .int .i64 k)]) (fun k xo => [.box b5 35 [.int .i64 (mpA s a b), .int .i64 (mpB s a b), xo], .row 2 1 xo (inn a b) (ints (mapTo s a b l k)), .box b4 35 [.int .i64 0, .int .i64 0, .slice none 0 0]]) (fun k xo => xo.oneCell' = true ∧ k ≤ inn a b) (fun k xo => inn a b - k) 0 x28 ?_ ?_ ?_ ?_
      · exact ⟨by assumption, Nat.zero_le _⟩
      · exact ⟨rfl, rfl, rfl, rfl, rfl, trivial⟩
      · rw [hA, hB]
        first
          | exact Ext.take 1 rfl (Ext.take 0 rfl (Ext.take 1 rfl (Ext.nil _)))
          | exact Ext.refl _
      · intro k xo hinv0
        obtain ⟨hxo, hkn⟩ := id hinv0
        have hmm := length_mapTo s a b l k
        have hml : (ints (mapTo s a b l k)).length = inn a b := by rw [ints, List.length_map]; exact hmm
        refine Run.seq ?_
        refine Run.seq ?_
        refine Run.region ?_
        refine Ops.pure rfl (Pure.move rfl) ?_
        refine Ops.pure rfl (Pure.move rfl) ?_
        refine Ops.pure rfl (Pure.nilchk rfl) ?_
        refine Ops.pure rfl (Pure.fieldAddrB fld35_2 rfl) ?_
        refine Ops.pure rfl (Pure.ldP cell32 rfl (RdL.old hp) rfl) ?_
        refine Ops.pure rfl (Pure.len sl32 (RdL.old hv) rfl) ?_
        refine Ops.pure rfl (Pure.lss rfl rfl) ?_
        refine Ops.nil ?_
        refine Run.cond rfl (fun c35 => ?_) (fun c35 => ?_)
        · skip
          replace c35 := dT c35
          refine Run.skip ?_
          refine Run.seq ?_
          refine Run.block ?_
          refine Run.seq ?_
          have hki : k < inn a b := by omega
          obtain ⟨hpt, hne, -⟩ := pt_spec (k := (k : Int)) hs (by omega) (by omega)
          obtain ⟨hq1, hq2⟩ := mp_pt h8 hpt hne
          have hnb := num_bd (mp_size (s := s) hs) hq1 hq2
          rw [mp_inn] at hnb
          have hmk := okP_get hk hki
          refine AnyK.start ([]) follows (Ext.nil _) ?_
          refine AnyK.take 0 rfl (by kernel_rfl) rfl (QOp.pure (Pure.move rfl)) ?_
          refine AnyK.take 1 rfl (by kernel_rfl) rfl (QOp.pure (Pure.nilchk rfl)) ?_
          refine AnyK.take 2 rfl (by kernel_rfl) rfl (QOp.pure (Pure.fieldAddrB fld35_0 rfl)) ?_
          refine AnyK.take 3 rfl (by kernel_rfl) rfl (QOp.pure (Pure.ldP cell2 rfl (RdL.old hp) rfl)) ?_
          refine AnyK.take 4 rfl (by kernel_rfl) rfl (QOp.pure (Pure.move rfl)) ?_
          refine AnyK.take 5 rfl (by kernel_rfl) rfl (QOp.pure (Pure.nilchk rfl)) ?_
          refine AnyK.take 6 rfl (by kernel_rfl) rfl (QOp.pure (Pure.fieldAddrB fld35_1 rfl)) ?_
          refine AnyK.take 7 rfl (by kernel_rfl) rfl (QOp.pure (Pure.ldP cell2 rfl (RdL.old hp) rfl)) ?_
          refine AnyK.take 8 rfl (by kernel_rfl) rfl (QOp.pure (Pure.move rfl)) ?_
          refine AnyK.take 9 rfl (by kernel_rfl) rfl (QOp.pure (Pure.move rfl)) ?_
          refine AnyK.take 10 rfl (by kernel_rfl) rfl (QOp.call fn185 rfl (fun w hw => f_s_l02Point w p a b v k (RdL.old hp w hw) hs hki)) ?_
          refine AnyK.take 11 rfl (by kernel_rfl) rfl (QOp.pure (Pure.move rfl)) ?_
          refine AnyK.take 12 rfl (by kernel_rfl) rfl (QOp.call fn184 rfl (fun w hw => f_s_l06Point w a b (ptX a k) (ptY a k) s hs hpt h8)) ?_
          refine AnyK.one 13 (by kernel_rfl) ?_
          refine OneK.loud rfl rfl (Loud.alloc zero72 rfl) ?_
          rintro _ _ ⟨b7, rfl, rfl⟩
          refine ⟨(Ext.nil _), ?_⟩
          refine AnyK.one 14 (by kernel_rfl) ?_
          refine OneK.store rfl (Stores.box 0 rfl rfl rfl size72 (allOne rfl) rfl rfl) (Ext.nil _) ?_
          refine AnyK.done (by kernel_rfl) ?_
          refine AnyK.start ([.box b7 72 [.int .i64 (mpX s a b (ptX a k) (ptY a k)), .int .i64 (mpY s a b (ptX a k) (ptY a k))], .box b5 35 [.int .i64 (mpA s a b), .int .i64 (mpB s a b), xo]]) follows (Ext.take 0 rfl (Ext.take 0 rfl (Ext.nil _))) ?_
          refine AnyK.take 0 rfl (by kernel_rfl) rfl (QOp.pure (Pure.fieldAddrB fld35_2 rfl)) ?_
          refine AnyK.take 1 rfl (by kernel_rfl) rfl (QOp.pure (Pure.ldB 1 rfl cell32 rfl rfl)) ?_
          refine AnyK.take 2 rfl (by kernel_rfl) rfl (QOp.pure (Pure.ldBA 0 rfl cell72 rfl rfl rfl)) ?_
          refine AnyK.take 3 rfl (by kernel_rfl) rfl (QOp.call fn144 rfl (fun w hw => f_s_l02Number w b5 (mpA s a b) (mpB s a b) xo (mpX s a b (ptX a k) (ptY a k)) (mpY s a b (ptX a k) (ptY a k)) (RdL.boxM 1 rfl rfl w hw) (mp_size hs) hq1 hq2)) ?_
          refine AnyK.take 4 rfl (by kernel_rfl) rfl (QOp.pure (Pure.move rfl)) ?_
          refine AnyK.take 5 rfl (by kernel_rfl) rfl (QOp.pure (Pure.nilchk rfl)) ?_
          refine AnyK.take 6 rfl (by kernel_rfl) rfl (QOp.pure (Pure.fieldAddrB fld35_2 rfl)) ?_
          refine AnyK.take 7 rfl (by kernel_rfl) rfl (QOp.pure (Pure.ldP cell32 rfl (RdL.old hp) rfl)) ?_
          refine AnyK.take 8 rfl (by kernel_rfl) rfl (QOp.pure (Pure.move rfl)) ?_
          refine AnyK.take 9 rfl (by kernel_rfl) rfl (QOp.pure (Pure.idx1N sl32 (RdL.old hv) rfl rfl (by first | assumption | omega | (simp; omega)))) ?_
          refine AnyK.take 10 rfl (by kernel_rfl) rfl (QOp.pure (Pure.ld cell2 rfl (RdL.old hv) (by first | exact ints_get (by omega) | exact bools_get (by omega) | exact strs_get (by omega) | exact vals_get (by first | omega | (simp; omega))))) ?_
          refine AnyK.take 11 rfl (by kernel_rfl) rfl (QOp.pure (Pure.move rfl)) ?_
          refine AnyK.take 12 rfl (by kernel_rfl) rfl (QOp.call fn186 rfl (fun w hw => f_s_l06Kind w (l.getD k 0) s h8 hmk.1 hmk.2)) ?_
          refine AnyK.one 13 (by kernel_rfl) ?_
          refine OneK.q rfl rfl (QOp.pure (Pure.idx1 sl32 (RdL.own 2 rfl) rfl rfl (by first | assumption | omega | (simp; omega)) (by first | assumption | omega | (simp; omega)))) ?_
          refine AnyK.one 14 (by kernel_rfl) ?_
          refine OneK.store rfl (Stores.row1 2 rfl size2 rfl rfl rfl (by first | assumption | omega | (simp; omega))) (Ext.take 0 rfl (Ext.take 0 rfl (Ext.nil _))) ?_
          refine AnyK.done (by kernel_rfl) ?_
          refine Run.blk ?_
          refine Run.region ?_
          refine Ops.pure rfl (Pure.move rfl) ?_
          refine Ops.pure rfl (Pure.add rfl rfl (by omega) (by omega)) ?_
          refine Ops.pure rfl (Pure.assign rfl) ?_
          refine Ops.nil ?_
          refine Run.asrt ?_
          refine ⟨k + 1, xo, ⟨⟨hxo, by omega⟩, by omega⟩, ⟨rfl, rfl, rfl, rfl, rfl, trivial⟩, ?_⟩
          rw [show mapTo s a b l (k + 1) = (mapTo s a b l k).set (tgt s a b k) (mk s (l.getD k 0)) from rfl, ints, ints, List.map_set]
          exact Ext.right [_] _
        · skip
          replace c35 := dF c35
          refine Run.exit rfl ?_
          refine Run.seq ?_
          have e : k = inn a b := by omega
          subst e
          refine Run.region ?_
          refine Ops.pure rfl (Pure.ldBA 0 rfl cell35 rfl rfl rfl) ?_
          refine Ops.store (Stores.box 2 rfl rfl rfl size35 (one3 hxo) rfl rfl) ?_
          refine Ops.nil ?_
          refine Run.retCx 2 rfl rfl rfl cell35 rfl (Ext.take 1 rfl (Ext.nil _)) ?_
          exact ⟨xo, hxo, rfl, rfl⟩
    · skip
      replace c19 := nF c19
      have hA : mpA s a b = a := if_neg (by omega)
      have hB : mpB s a b = b := if_neg (by omega)
      refine Run.skip ?_
      refine Run.seq ?_
      refine Run.seq ?_
      refine Run.region ?_
      refine Ops.pure rfl (Pure.assign rfl) ?_
      refine Ops.nil ?_
      refine Run.block ?_
      refine Run.loop2 (X := Nat) (Y := Value) (fun k xo => [(0, .pointer (some ⟨p, 0, none⟩)), (1, .int .i64 (s : Int)), (4, .pointer (some ⟨b4, 0, none⟩)), (5, .pointer (some ⟨b5, 0, none⟩)), (6, .int .i64 k)]) (fun k xo => [.box b5 35 [.int .i64 (mpA s a b), .int .i64 (mpB s a b), xo], .row 2 1 xo (inn a b) (ints (mapTo s a b l k)), .box b4 35 [.int .i64 0, .int .i64 0, .slice none 0 0]]) (fun k xo => xo.oneCell' = true ∧ k ≤ inn a b) (fun k xo => inn a b - k) 0 x16 ?_ ?_ ?_ ?_
      · exact ⟨by assumption, Nat.zero_le _⟩
      · exact ⟨rfl, rfl, rfl, rfl, rfl, trivial⟩
      · rw [hA, hB]
        first
          | exact Ext.take 1 rfl (Ext.take 0 rfl (Ext.take 1 rfl (Ext.nil _)))
          | exact Ext.refl _
      · intro k xo hinv0
        obtain ⟨hxo, hkn⟩ := id hinv0
        have hmm := length_mapTo s a b l k
        have hml : (ints (mapTo s a b l k)).length = inn a b := by rw [ints, List.length_map]; exact hmm
        refine Run.seq ?_
        refine Run.seq ?_
        refine Run.region ?_
        refine Ops.pure rfl (Pure.move rfl) ?_
        refine Ops.pure rfl (Pure.move rfl) ?_
        refine Ops.pure rfl (Pure.nilchk rfl) ?_
        refine Ops.pure rfl (Pure.fieldAddrB fld35_2 rfl) ?_
        refine Ops.pure rfl (Pure.ldP cell32 rfl (RdL.old hp) rfl) ?_
        refine Ops.pure rfl (Pure.len sl32 (RdL.old hv) rfl) ?_
        refine Ops.pure rfl (Pure.lss rfl rfl) ?_
        refine Ops.nil ?_
        refine Run.cond rfl (fun c35 => ?_) (fun c35 => ?_)
        · skip
          replace c35 := dT c35
          refine Run.skip ?_
          refine Run.seq ?_
          refine Run.block ?_
          refine Run.seq ?_
          have hki : k < inn a b := by omega
          obtain ⟨hpt, hne, -⟩ := pt_spec (k := (k : Int)) hs (by omega) (by omega)
          obtain ⟨hq1, hq2⟩ := mp_pt h8 hpt hne
          have hnb := num_bd (mp_size (s := s) hs) hq1 hq2
          rw [mp_inn] at hnb
          have hmk := okP_get hk hki
          refine AnyK.start ([]) follows (Ext.nil _) ?_
          refine AnyK.take 0 rfl (by kernel_rfl) rfl (QOp.pure (Pure.move rfl)) ?_
          refine AnyK.take 1 rfl (by kernel_rfl) rfl (QOp.pure (Pure.nilchk rfl)) ?_
          refine AnyK.take 2 rfl (by kernel_rfl) rfl (QOp.pure (Pure.fieldAddrB fld35_0 rfl)) ?_
          refine AnyK.take 3 rfl (by kernel_rfl) rfl (QOp.pure (Pure.ldP cell2 rfl (RdL.old hp) rfl)) ?_
          refine AnyK.take 4 rfl (by kernel_rfl) rfl (QOp.pure (Pure.move rfl)) ?_
          refine AnyK.take 5 rfl (by kernel_rfl) rfl (QOp.pure (Pure.nilchk rfl)) ?_
          refine AnyK.take 6 rfl (by kernel_rfl) rfl (QOp.pure (Pure.fieldAddrB fld35_1 rfl)) ?_
          refine AnyK.take 7 rfl (by kernel_rfl) rfl (QOp.pure (Pure.ldP cell2 rfl (RdL.old hp) rfl)) ?_
          refine AnyK.take 8 rfl (by kernel_rfl) rfl (QOp.pure (Pure.move rfl)) ?_
          refine AnyK.take 9 rfl (by kernel_rfl) rfl (QOp.pure (Pure.move rfl)) ?_
          refine AnyK.take 10 rfl (by kernel_rfl) rfl (QOp.call fn185 rfl (fun w hw => f_s_l02Point w p a b v k (RdL.old hp w hw) hs hki)) ?_
          refine AnyK.take 11 rfl (by kernel_rfl) rfl (QOp.pure (Pure.move rfl)) ?_
          refine AnyK.take 12 rfl (by kernel_rfl) rfl (QOp.call fn184 rfl (fun w hw => f_s_l06Point w a b (ptX a k) (ptY a k) s hs hpt h8)) ?_
          refine AnyK.one 13 (by kernel_rfl) ?_
          refine OneK.loud rfl rfl (Loud.alloc zero72 rfl) ?_
          rintro _ _ ⟨b7, rfl, rfl⟩
          refine ⟨(Ext.nil _), ?_⟩
          refine AnyK.one 14 (by kernel_rfl) ?_
          refine OneK.store rfl (Stores.box 0 rfl rfl rfl size72 (allOne rfl) rfl rfl) (Ext.nil _) ?_
          refine AnyK.done (by kernel_rfl) ?_
          refine AnyK.start ([.box b7 72 [.int .i64 (mpX s a b (ptX a k) (ptY a k)), .int .i64 (mpY s a b (ptX a k) (ptY a k))], .box b5 35 [.int .i64 (mpA s a b), .int .i64 (mpB s a b), xo]]) follows (Ext.take 0 rfl (Ext.take 0 rfl (Ext.nil _))) ?_
          refine AnyK.take 0 rfl (by kernel_rfl) rfl (QOp.pure (Pure.fieldAddrB fld35_2 rfl)) ?_
          refine AnyK.take 1 rfl (by kernel_rfl) rfl (QOp.pure (Pure.ldB 1 rfl cell32 rfl rfl)) ?_
          refine AnyK.take 2 rfl (by kernel_rfl) rfl (QOp.pure (Pure.ldBA 0 rfl cell72 rfl rfl rfl)) ?_
          refine AnyK.take 3 rfl (by kernel_rfl) rfl (QOp.call fn144 rfl (fun w hw => f_s_l02Number w b5 (mpA s a b) (mpB s a b) xo (mpX s a b (ptX a k) (ptY a k)) (mpY s a b (ptX a k) (ptY a k)) (RdL.boxM 1 rfl rfl w hw) (mp_size hs) hq1 hq2)) ?_
          refine AnyK.take 4 rfl (by kernel_rfl) rfl (QOp.pure (Pure.move rfl)) ?_
          refine AnyK.take 5 rfl (by kernel_rfl) rfl (QOp.pure (Pure.nilchk rfl)) ?_
          refine AnyK.take 6 rfl (by kernel_rfl) rfl (QOp.pure (Pure.fieldAddrB fld35_2 rfl)) ?_
          refine AnyK.take 7 rfl (by kernel_rfl) rfl (QOp.pure (Pure.ldP cell32 rfl (RdL.old hp) rfl)) ?_
          refine AnyK.take 8 rfl (by kernel_rfl) rfl (QOp.pure (Pure.move rfl)) ?_
          refine AnyK.take 9 rfl (by kernel_rfl) rfl (QOp.pure (Pure.idx1N sl32 (RdL.old hv) rfl rfl (by first | assumption | omega | (simp; omega)))) ?_
          refine AnyK.take 10 rfl (by kernel_rfl) rfl (QOp.pure (Pure.ld cell2 rfl (RdL.old hv) (by first | exact ints_get (by omega) | exact bools_get (by omega) | exact strs_get (by omega) | exact vals_get (by first | omega | (simp; omega))))) ?_
          refine AnyK.take 11 rfl (by kernel_rfl) rfl (QOp.pure (Pure.move rfl)) ?_
          refine AnyK.take 12 rfl (by kernel_rfl) rfl (QOp.call fn186 rfl (fun w hw => f_s_l06Kind w (l.getD k 0) s h8 hmk.1 hmk.2)) ?_
          refine AnyK.one 13 (by kernel_rfl) ?_
          refine OneK.q rfl rfl (QOp.pure (Pure.idx1 sl32 (RdL.own 2 rfl) rfl rfl (by first | assumption | omega | (simp; omega)) (by first | assumption | omega | (simp; omega)))) ?_
          refine AnyK.one 14 (by kernel_rfl) ?_
          refine OneK.store rfl (Stores.row1 2 rfl size2 rfl rfl rfl (by first | assumption | omega | (simp; omega))) (Ext.take 0 rfl (Ext.take 0 rfl (Ext.nil _))) ?_
          refine AnyK.done (by kernel_rfl) ?_
          refine Run.blk ?_
          refine Run.region ?_
          refine Ops.pure rfl (Pure.move rfl) ?_
          refine Ops.pure rfl (Pure.add rfl rfl (by omega) (by omega)) ?_
          refine Ops.pure rfl (Pure.assign rfl) ?_
          refine Ops.nil ?_
          refine Run.asrt ?_
          refine ⟨k + 1, xo, ⟨⟨hxo, by omega⟩, by omega⟩, ⟨rfl, rfl, rfl, rfl, rfl, trivial⟩, ?_⟩
          rw [show mapTo s a b l (k + 1) = (mapTo s a b l k).set (tgt s a b k) (mk s (l.getD k 0)) from rfl, ints, ints, List.map_set]
          exact Ext.right [_] _
        · skip
          replace c35 := dF c35
          refine Run.exit rfl ?_
          refine Run.seq ?_
          have e : k = inn a b := by omega
          subst e
          refine Run.region ?_
          refine Ops.pure rfl (Pure.ldBA 0 rfl cell35 rfl rfl rfl) ?_
          refine Ops.store (Stores.box 2 rfl rfl rfl size35 (one3 hxo) rfl rfl) ?_
          refine Ops.nil ?_
          refine Run.retCx 2 rfl rfl rfl cell35 rfl (Ext.take 1 rfl (Ext.nil _)) ?_
          exact ⟨xo, hxo, rfl, rfl⟩
  · skip
    refine OneK.loud rfl rfl (Loud.alloc zero35 rfl) ?_
    rintro _ _ ⟨b5, rfl, rfl⟩
    refine ⟨(Ext.nil _), ?_⟩
    refine AnyK.one 8 (by kernel_rfl) ?_
    refine OneK.loud rfl rfl (Loud.callR fn170 rfl (fun w hw => f_s_l02New w a b hs)) ?_
    rintro v16 _ ⟨L16, hQ16, rfl⟩
    obtain ⟨x16, h16, rfl, rfl⟩ := hQ16
    refine ⟨(Ext.nil _), ?_⟩
    refine AnyK.one 10 (by kernel_rfl) ?_
    first
      | refine OneK.store rfl (Stores.box 0 rfl rfl rfl size35 (one3 h16) rfl rfl) (Ext.nil _) ?_
      | (refine OneK.store rfl (Stores.box 1 rfl rfl rfl size35 (one3 h16) rfl rfl) (Ext.nil _) ?_)
    refine AnyK.done (by kernel_rfl) ?_
    refine Run.seq ?_
    refine Run.seq ?_
    first
      | refine Run.ext_ (L' := [.box b5 35 [.int .i64 a, .int .i64 b, x16], _, _]) (Ext.refl _) ?_
      | refine Run.ext_ (L' := [.box b5 35 [.int .i64 a, .int .i64 b, x16], _, _]) (Ext.take 1 rfl (Ext.take 0 rfl (Ext.refl _))) ?_
    refine Run.region ?_
    refine Ops.pure rfl (Pure.move rfl) ?_
    refine Ops.pure rfl (Pure.bit4 rfl rfl h8) ?_
    refine Ops.pure rfl (Pure.neq rfl rfl) ?_
    refine Ops.nil ?_
    refine Run.cond rfl (fun c19 => ?_) (fun c19 => ?_)
    · skip
      replace c19 := nT c19
      have hA : mpA s a b = b := if_pos (by omega)
      have hB : mpB s a b = a := if_pos (by omega)
      refine AnyK.start ([]) follows (Ext.nil _) ?_
      refine AnyK.take 0 rfl (by kernel_rfl) rfl (QOp.pure (Pure.move rfl)) ?_
      refine AnyK.take 1 rfl (by kernel_rfl) rfl (QOp.pure (Pure.nilchk rfl)) ?_
      refine AnyK.take 2 rfl (by kernel_rfl) rfl (QOp.pure (Pure.fieldAddrB fld35_1 rfl)) ?_
      refine AnyK.take 3 rfl (by kernel_rfl) rfl (QOp.pure (Pure.ldP cell2 rfl (RdL.old hp) rfl)) ?_
      refine AnyK.take 4 rfl (by kernel_rfl) rfl (QOp.pure (Pure.move rfl)) ?_
      refine AnyK.take 5 rfl (by kernel_rfl) rfl (QOp.pure (Pure.nilchk rfl)) ?_
      refine AnyK.take 6 rfl (by kernel_rfl) rfl (QOp.pure (Pure.fieldAddrB fld35_0 rfl)) ?_
      refine AnyK.take 7 rfl (by kernel_rfl) rfl (QOp.pure (Pure.ldP cell2 rfl (RdL.old hp) rfl)) ?_
      refine AnyK.one 8 (by kernel_rfl) ?_
      refine OneK.loud rfl rfl (Loud.callR fn170 rfl (fun w hw => f_s_l02New w b a (by unfold SizeOk; omega))) ?_
      rintro v28 _ ⟨L28, hQ28, rfl⟩
      obtain ⟨x28, h28, rfl, rfl⟩ := hQ28
      rw [inn_swap a b]
      refine ⟨(Ext.nil _), ?_⟩
      refine AnyK.one 9 (by kernel_rfl) ?_
      (refine OneK.store rfl (Stores.box 1 rfl rfl rfl size35 (one3 h28) rfl rfl) (Ext.nil _) ?_)
      refine AnyK.done (by kernel_rfl) ?_
      refine Run.seq ?_
      refine Run.seq ?_
      refine Run.region ?_
      refine Ops.pure rfl (Pure.assign rfl) ?_
      refine Ops.nil ?_
      refine Run.block ?_
      refine Run.loop2 (X := Nat) (Y := Value) (fun k xo => [(0, .pointer (some ⟨p, 0, none⟩)), (1, .int .i64 (s : Int)), (4, .pointer (some ⟨b4, 0, none⟩)), (5, .pointer (some ⟨b5, 0, none⟩)), (6, .int .i64 k)]) (fun k xo => [.box b5 35 [.int .i64 (mpA s a b), .int .i64 (mpB s a b), xo], .row 2 1 xo (inn a b) (ints (mapTo s a b l k)), .box b4 35 [.int .i64 0, .int .i64 0, .slice none 0 0]]) (fun k xo => xo.oneCell' = true ∧ k ≤ inn a b) (fun k xo => inn a b - k) 0 x28 ?_ ?_ ?_ ?_
      · exact ⟨by assumption, Nat.zero_le _⟩
      · exact ⟨rfl, rfl, rfl, rfl, rfl, trivial⟩
      · rw [hA, hB]
        first
          | exact Ext.take 1 rfl (Ext.take 0 rfl (Ext.take 1 rfl (Ext.nil _)))
          | exact Ext.refl _
      · intro k xo hinv0
        obtain ⟨hxo, hkn⟩ := id hinv0
        have hmm := length_mapTo s a b l k
        have hml : (ints (mapTo s a b l k)).length = inn a b := by rw [ints, List.length_map]; exact hmm
        refine Run.seq ?_
        refine Run.seq ?_
        refine Run.region ?_
        refine Ops.pure rfl (Pure.move rfl) ?_
        refine Ops.pure rfl (Pure.move rfl) ?_
        refine Ops.pure rfl (Pure.nilchk rfl) ?_
        refine Ops.pure rfl (Pure.fieldAddrB fld35_2 rfl) ?_
        refine Ops.pure rfl (Pure.ldP cell32 rfl (RdL.old hp) rfl) ?_
        refine Ops.pure rfl (Pure.len sl32 (RdL.old hv) rfl) ?_
        refine Ops.pure rfl (Pure.lss rfl rfl) ?_
        refine Ops.nil ?_
        refine Run.cond rfl (fun c35 => ?_) (fun c35 => ?_)
        · skip
          replace c35 := dT c35
          refine Run.skip ?_
          refine Run.seq ?_
          refine Run.block ?_
          refine Run.seq ?_
          have hki : k < inn a b := by omega
          obtain ⟨hpt, hne, -⟩ := pt_spec (k := (k : Int)) hs (by omega) (by omega)
          obtain ⟨hq1, hq2⟩ := mp_pt h8 hpt hne
          have hnb := num_bd (mp_size (s := s) hs) hq1 hq2
          rw [mp_inn] at hnb
          have hmk := okP_get hk hki
          refine AnyK.start ([]) follows (Ext.nil _) ?_
          refine AnyK.take 0 rfl (by kernel_rfl) rfl (QOp.pure (Pure.move rfl)) ?_
          refine AnyK.take 1 rfl (by kernel_rfl) rfl (QOp.pure (Pure.nilchk rfl)) ?_
          refine AnyK.take 2 rfl (by kernel_rfl) rfl (QOp.pure (Pure.fieldAddrB fld35_0 rfl)) ?_
          refine AnyK.take 3 rfl (by kernel_rfl) rfl (QOp.pure (Pure.ldP cell2 rfl (RdL.old hp) rfl)) ?_
          refine AnyK.take 4 rfl (by kernel_rfl) rfl (QOp.pure (Pure.move rfl)) ?_
          refine AnyK.take 5 rfl (by kernel_rfl) rfl (QOp.pure (Pure.nilchk rfl)) ?_
          refine AnyK.take 6 rfl (by kernel_rfl) rfl (QOp.pure (Pure.fieldAddrB fld35_1 rfl)) ?_
          refine AnyK.take 7 rfl (by kernel_rfl) rfl (QOp.pure (Pure.ldP cell2 rfl (RdL.old hp) rfl)) ?_
          refine AnyK.take 8 rfl (by kernel_rfl) rfl (QOp.pure (Pure.move rfl)) ?_
          refine AnyK.take 9 rfl (by kernel_rfl) rfl (QOp.pure (Pure.move rfl)) ?_
          refine AnyK.take 10 rfl (by kernel_rfl) rfl (QOp.call fn185 rfl (fun w hw => f_s_l02Point w p a b v k (RdL.old hp w hw) hs hki)) ?_
          refine AnyK.take 11 rfl (by kernel_rfl) rfl (QOp.pure (Pure.move rfl)) ?_
          refine AnyK.take 12 rfl (by kernel_rfl) rfl (QOp.call fn184 rfl (fun w hw => f_s_l06Point w a b (ptX a k) (ptY a k) s hs hpt h8)) ?_
          refine AnyK.one 13 (by kernel_rfl) ?_
          refine OneK.loud rfl rfl (Loud.alloc zero72 rfl) ?_
          rintro _ _ ⟨b7, rfl, rfl⟩
          refine ⟨(Ext.nil _), ?_⟩
          refine AnyK.one 14 (by kernel_rfl) ?_
          refine OneK.store rfl (Stores.box 0 rfl rfl rfl size72 (allOne rfl) rfl rfl) (Ext.nil _) ?_
          refine AnyK.done (by kernel_rfl) ?_
          refine AnyK.start ([.box b7 72 [.int .i64 (mpX s a b (ptX a k) (ptY a k)), .int .i64 (mpY s a b (ptX a k) (ptY a k))], .box b5 35 [.int .i64 (mpA s a b), .int .i64 (mpB s a b), xo]]) follows (Ext.take 0 rfl (Ext.take 0 rfl (Ext.nil _))) ?_
          refine AnyK.take 0 rfl (by kernel_rfl) rfl (QOp.pure (Pure.fieldAddrB fld35_2 rfl)) ?_
          refine AnyK.take 1 rfl (by kernel_rfl) rfl (QOp.pure (Pure.ldB 1 rfl cell32 rfl rfl)) ?_
          refine AnyK.take 2 rfl (by kernel_rfl) rfl (QOp.pure (Pure.ldBA 0 rfl cell72 rfl rfl rfl)) ?_
          refine AnyK.take 3 rfl (by kernel_rfl) rfl (QOp.call fn144 rfl (fun w hw => f_s_l02Number w b5 (mpA s a b) (mpB s a b) xo (mpX s a b (ptX a k) (ptY a k)) (mpY s a b (ptX a k) (ptY a k)) (RdL.boxM 1 rfl rfl w hw) (mp_size hs) hq1 hq2)) ?_
          refine AnyK.take 4 rfl (by kernel_rfl) rfl (QOp.pure (Pure.move rfl)) ?_
          refine AnyK.take 5 rfl (by kernel_rfl) rfl (QOp.pure (Pure.nilchk rfl)) ?_
          refine AnyK.take 6 rfl (by kernel_rfl) rfl (QOp.pure (Pure.fieldAddrB fld35_2 rfl)) ?_
          refine AnyK.take 7 rfl (by kernel_rfl) rfl (QOp.pure (Pure.ldP cell32 rfl (RdL.old hp) rfl)) ?_
          refine AnyK.take 8 rfl (by kernel_rfl) rfl (QOp.pure (Pure.move rfl)) ?_
          refine AnyK.take 9 rfl (by kernel_rfl) rfl (QOp.pure (Pure.idx1N sl32 (RdL.old hv) rfl rfl (by first | assumption | omega | (simp; omega)))) ?_
          refine AnyK.take 10 rfl (by kernel_rfl) rfl (QOp.pure (Pure.ld cell2 rfl (RdL.old hv) (by first | exact ints_get (by omega) | exact bools_get (by omega) | exact strs_get (by omega) | exact vals_get (by first | omega | (simp; omega))))) ?_
          refine AnyK.take 11 rfl (by kernel_rfl) rfl (QOp.pure (Pure.move rfl)) ?_
          refine AnyK.take 12 rfl (by kernel_rfl) rfl (QOp.call fn186 rfl (fun w hw => f_s_l06Kind w (l.getD k 0) s h8 hmk.1 hmk.2)) ?_
          refine AnyK.one 13 (by kernel_rfl) ?_
          refine OneK.q rfl rfl (QOp.pure (Pure.idx1 sl32 (RdL.own 2 rfl) rfl rfl (by first | assumption | omega | (simp; omega)) (by first | assumption | omega | (simp; omega)))) ?_
          refine AnyK.one 14 (by kernel_rfl) ?_
          refine OneK.store rfl (Stores.row1 2 rfl size2 rfl rfl rfl (by first | assumption | omega | (simp; omega))) (Ext.take 0 rfl (Ext.take 0 rfl (Ext.nil _))) ?_
          refine AnyK.done (by kernel_rfl) ?_
          refine Run.blk ?_
          refine Run.region ?_
          refine Ops.pure rfl (Pure.move rfl) ?_
          refine Ops.pure rfl (Pure.add rfl rfl (by omega) (by omega)) ?_
          refine Ops.pure rfl (Pure.assign rfl) ?_
          refine Ops.nil ?_
          refine Run.asrt ?_
          refine ⟨k + 1, xo, ⟨⟨hxo, by omega⟩, by omega⟩, ⟨rfl, rfl, rfl, rfl, rfl, trivial⟩, ?_⟩
          rw [show mapTo s a b l (k + 1) = (mapTo s a b l k).set (tgt s a b k) (mk s (l.getD k 0)) from rfl, ints, ints, List.map_set]
          exact Ext.right [_] _
        · skip
          replace c35 := dF c35
          refine Run.exit rfl ?_
          refine Run.seq ?_
          have e : k = inn a b := by omega
          subst e
          refine Run.region ?_
          refine Ops.pure rfl (Pure.ldBA 0 rfl cell35 rfl rfl rfl) ?_
          refine Ops.store (Stores.box 2 rfl rfl rfl size35 (one3 hxo) rfl rfl) ?_
          refine Ops.nil ?_
          refine Run.retCx 2 rfl rfl rfl cell35 rfl (Ext.take 1 rfl (Ext.nil _)) ?_
          exact ⟨xo, hxo, rfl, rfl⟩
    · skip
      replace c19 := nF c19
      have hA : mpA s a b = a := if_neg (by omega)
      have hB : mpB s a b = b := if_neg (by omega)
      refine Run.skip ?_
      refine Run.seq ?_
      refine Run.seq ?_
      refine Run.region ?_
      refine Ops.pure rfl (Pure.assign rfl) ?_
      refine Ops.nil ?_
      refine Run.block ?_
      refine Run.loop2 (X := Nat) (Y := Value) (fun k xo => [(0, .pointer (some ⟨p, 0, none⟩)), (1, .int .i64 (s : Int)), (4, .pointer (some ⟨b4, 0, none⟩)), (5, .pointer (some ⟨b5, 0, none⟩)), (6, .int .i64 k)]) (fun k xo => [.box b5 35 [.int .i64 (mpA s a b), .int .i64 (mpB s a b), xo], .row 2 1 xo (inn a b) (ints (mapTo s a b l k)), .box b4 35 [.int .i64 0, .int .i64 0, .slice none 0 0]]) (fun k xo => xo.oneCell' = true ∧ k ≤ inn a b) (fun k xo => inn a b - k) 0 x16 ?_ ?_ ?_ ?_
      · exact ⟨by assumption, Nat.zero_le _⟩
      · exact ⟨rfl, rfl, rfl, rfl, rfl, trivial⟩
      · rw [hA, hB]
        first
          | exact Ext.take 1 rfl (Ext.take 0 rfl (Ext.take 1 rfl (Ext.nil _)))
          | exact Ext.refl _
      · intro k xo hinv0
        obtain ⟨hxo, hkn⟩ := id hinv0
        have hmm := length_mapTo s a b l k
        have hml : (ints (mapTo s a b l k)).length = inn a b := by rw [ints, List.length_map]; exact hmm
        refine Run.seq ?_
        refine Run.seq ?_
        refine Run.region ?_
        refine Ops.pure rfl (Pure.move rfl) ?_
        refine Ops.pure rfl (Pure.move rfl) ?_
        refine Ops.pure rfl (Pure.nilchk rfl) ?_
        refine Ops.pure rfl (Pure.fieldAddrB fld35_2 rfl) ?_
        refine Ops.pure rfl (Pure.ldP cell32 rfl (RdL.old hp) rfl) ?_
        refine Ops.pure rfl (Pure.len sl32 (RdL.old hv) rfl) ?_
        refine Ops.pure rfl (Pure.lss rfl rfl) ?_
        refine Ops.nil ?_
        refine Run.cond rfl (fun c35 => ?_) (fun c35 => ?_)
        · skip
          replace c35 := dT c35
          refine Run.skip ?_
          refine Run.seq ?_
          refine Run.block ?_
          refine Run.seq ?_
          have hki : k < inn a b := by omega
          obtain ⟨hpt, hne, -⟩ := pt_spec (k := (k : Int)) hs (by omega) (by omega)
          obtain ⟨hq1, hq2⟩ := mp_pt h8 hpt hne
          have hnb := num_bd (mp_size (s := s) hs) hq1 hq2
          rw [mp_inn] at hnb
          have hmk := okP_get hk hki
          refine AnyK.start ([]) follows (Ext.nil _) ?_
          refine AnyK.take 0 rfl (by kernel_rfl) rfl (QOp.pure (Pure.move rfl)) ?_
          refine AnyK.take 1 rfl (by kernel_rfl) rfl (QOp.pure (Pure.nilchk rfl)) ?_
          refine AnyK.take 2 rfl (by kernel_rfl) rfl (QOp.pure (Pure.fieldAddrB fld35_0 rfl)) ?_
          refine AnyK.take 3 rfl (by kernel_rfl) rfl (QOp.pure (Pure.ldP cell2 rfl (RdL.old hp) rfl)) ?_
          refine AnyK.take 4 rfl (by kernel_rfl) rfl (QOp.pure (Pure.move rfl)) ?_
          refine AnyK.take 5 rfl (by kernel_rfl) rfl (QOp.pure (Pure.nilchk rfl)) ?_
          refine AnyK.take 6 rfl (by kernel_rfl) rfl (QOp.pure (Pure.fieldAddrB fld35_1 rfl)) ?_
          refine AnyK.take 7 rfl (by kernel_rfl) rfl (QOp.pure (Pure.ldP cell2 rfl (RdL.old hp) rfl)) ?_
          refine AnyK.take 8 rfl (by kernel_rfl) rfl (QOp.pure (Pure.move rfl)) ?_
          refine AnyK.take 9 rfl (by kernel_rfl) rfl (QOp.pure (Pure.move rfl)) ?_
          refine AnyK.take 10 rfl (by kernel_rfl) rfl (QOp.call fn185 rfl (fun w hw => f_s_l02Point w p a b v k (RdL.old hp w hw) hs hki)) ?_
          refine AnyK.take 11 rfl (by kernel_rfl) rfl (QOp.pure (Pure.move rfl)) ?_
          refine AnyK.take 12 rfl (by kernel_rfl) rfl (QOp.call fn184 rfl (fun w hw => f_s_l06Point w a b (ptX a k) (ptY a k) s hs hpt h8)) ?_
          refine AnyK.one 13 (by kernel_rfl) ?_
          refine OneK.loud rfl rfl (Loud.alloc zero72 rfl) ?_
          rintro _ _ ⟨b7, rfl, rfl⟩
          refine ⟨(Ext.nil _), ?_⟩
          refine AnyK.one 14 (by kernel_rfl) ?_
          refine OneK.store rfl (Stores.box 0 rfl rfl rfl size72 (allOne rfl) rfl rfl) (Ext.nil _) ?_
          refine AnyK.done (by kernel_rfl) ?_
          refine AnyK.start ([.box b7 72 [.int .i64 (mpX s a b (ptX a k) (ptY a k)), .int .i64 (mpY s a b (ptX a k) (ptY a k))], .box b5 35 [.int .i64 (mpA s a b), .int .i64 (mpB s a b), xo]]) follows (Ext.take 0 rfl (Ext.take 0 rfl (Ext.nil _))) ?_
          refine AnyK.take 0 rfl (by kernel_rfl) rfl (QOp.pure (Pure.fieldAddrB fld35_2 rfl)) ?_
          refine AnyK.take 1 rfl (by kernel_rfl) rfl (QOp.pure (Pure.ldB 1 rfl cell32 rfl rfl)) ?_
          refine AnyK.take 2 rfl (by kernel_rfl) rfl (QOp.pure (Pure.ldBA 0 rfl cell72 rfl rfl rfl)) ?_
          refine AnyK.take 3 rfl (by kernel_rfl) rfl (QOp.call fn144 rfl (fun w hw => f_s_l02Number w b5 (mpA s a b) (mpB s a b) xo (mpX s a b (ptX a k) (ptY a k)) (mpY s a b (ptX a k) (ptY a k)) (RdL.boxM 1 rfl rfl w hw) (mp_size hs) hq1 hq2)) ?_
          refine AnyK.take 4 rfl (by kernel_rfl) rfl (QOp.pure (Pure.move rfl)) ?_
          refine AnyK.take 5 rfl (by kernel_rfl) rfl (QOp.pure (Pure.nilchk rfl)) ?_
          refine AnyK.take 6 rfl (by kernel_rfl) rfl (QOp.pure (Pure.fieldAddrB fld35_2 rfl)) ?_
          refine AnyK.take 7 rfl (by kernel_rfl) rfl (QOp.pure (Pure.ldP cell32 rfl (RdL.old hp) rfl)) ?_
          refine AnyK.take 8 rfl (by kernel_rfl) rfl (QOp.pure (Pure.move rfl)) ?_
          refine AnyK.take 9 rfl (by kernel_rfl) rfl (QOp.pure (Pure.idx1N sl32 (RdL.old hv) rfl rfl (by first | assumption | omega | (simp; omega)))) ?_
          refine AnyK.take 10 rfl (by kernel_rfl) rfl (QOp.pure (Pure.ld cell2 rfl (RdL.old hv) (by first | exact ints_get (by omega) | exact bools_get (by omega) | exact strs_get (by omega) | exact vals_get (by first | omega | (simp; omega))))) ?_
          refine AnyK.take 11 rfl (by kernel_rfl) rfl (QOp.pure (Pure.move rfl)) ?_
          refine AnyK.take 12 rfl (by kernel_rfl) rfl (QOp.call fn186 rfl (fun w hw => f_s_l06Kind w (l.getD k 0) s h8 hmk.1 hmk.2)) ?_
          refine AnyK.one 13 (by kernel_rfl) ?_
          refine OneK.q rfl rfl (QOp.pure (Pure.idx1 sl32 (RdL.own 2 rfl) rfl rfl (by first | assumption | omega | (simp; omega)) (by first | assumption | omega | (simp; omega)))) ?_
          refine AnyK.one 14 (by kernel_rfl) ?_
          refine OneK.store rfl (Stores.row1 2 rfl size2 rfl rfl rfl (by first | assumption | omega | (simp; omega))) (Ext.take 0 rfl (Ext.take 0 rfl (Ext.nil _))) ?_
          refine AnyK.done (by kernel_rfl) ?_
          refine Run.blk ?_
          refine Run.region ?_
          refine Ops.pure rfl (Pure.move rfl) ?_
          refine Ops.pure rfl (Pure.add rfl rfl (by omega) (by omega)) ?_
          refine Ops.pure rfl (Pure.assign rfl) ?_
          refine Ops.nil ?_
          refine Run.asrt ?_
          refine ⟨k + 1, xo, ⟨⟨hxo, by omega⟩, by omega⟩, ⟨rfl, rfl, rfl, rfl, rfl, trivial⟩, ?_⟩
          rw [show mapTo s a b l (k + 1) = (mapTo s a b l k).set (tgt s a b k) (mk s (l.getD k 0)) from rfl, ints, ints, List.map_set]
          exact Ext.right [_] _
        · skip
          replace c35 := dF c35
          refine Run.exit rfl ?_
          refine Run.seq ?_
          have e : k = inn a b := by omega
          subst e
          refine Run.region ?_
          refine Ops.pure rfl (Pure.ldBA 0 rfl cell35 rfl rfl rfl) ?_
          refine Ops.store (Stores.box 2 rfl rfl rfl size35 (one3 hxo) rfl rfl) ?_
          refine Ops.nil ?_
          refine Run.retCx 2 rfl rfl rfl cell35 rfl (Ext.take 1 rfl (Ext.nil _)) ?_
          exact ⟨xo, hxo, rfl, rfl⟩

end Go.Proofs.Ytmfinopdokkjcaa
