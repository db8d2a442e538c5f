/- Contracts of functions, printed by program from annotations. -/
import Derived.Test.YtkplanpcmkbfiaaDrw2
import Derived.Test.YtkplanpcmkbfiaaEds2
import Derived.Test.YtkplanpcmkbfiaaRdE
import Derived.Test.YtkplanpcmkbfiaaRtM
namespace Go.Proofs.Ytkplanpcmkbfiaa
open Go Go.AW Go.RowKit
set_option linter.unusedVariables false
set_option linter.unusedSimpArgs false

theorem _root_.Go.AW.RdL.skip {w0 : World} {L : List Ent} {e : Ent} {v : Value} {s n : Nat} {xs : List Value} (h : RdL w0 L v s n xs) : RdL w0 (e :: L) v s n xs := fun w hw => h w (hw.ext (Ext.right [e] _))
theorem betw_bd {l m : List Int} : ∀ {k i : Nat}, i < (betw l m k).length → 0 ≤ ((betw l m k).getD i (0, 0)).1 ∧ ((betw l m k).getD i (0, 0)).1 < k
  | 0, i, h => by exact absurd h (Nat.not_lt_zero _)
  | k + 1, i, h => by
    by_cases hd : l.getD k 0 = m.getD k 0
    · rw [betw_same hd] at h ⊢
      have := betw_bd h
      omega
    · rw [betw_diff hd] at h ⊢
      rw [List.length_append, List.length_singleton] at h
      rcases Nat.lt_or_ge i (betw l m k).length with h1 | h1
      · have := betw_bd h1
        rw [getD_app h1]
        omega
      · have e : i = (betw l m k).length := by omega
        subst e
        simp only [List.getD, List.getElem?_append_right (Nat.le_refl _), Nat.sub_self, List.getElem?_cons_zero, Option.getD_some]
        omega
theorem betw_eds {l m : List Int} (hm : ∀ x ∈ m, 0 ≤ x ∧ x ≤ 2) (hl : l.length = m.length) : ∀ {k : Nat}, k ≤ l.length → EdsOk l (betw l m k)
  | 0, _ => fun i hi => absurd hi (Nat.not_lt_zero _)
  | k + 1, hk => by
    have ih := betw_eds (l := l) hm hl (k := k) (by omega)
    by_cases hd : l.getD k 0 = m.getD k 0
    · rw [betw_same hd]; exact ih
    · rw [betw_diff hd]
      intro i hi
      rw [List.length_append, List.length_singleton] at hi
      rcases Nat.lt_or_ge i (betw l m k).length with h1 | h1
      · have h2 := ih i h1
        unfold EdOk at *
        rw [getD_app h1]
        refine ⟨h2.1, fun h0 => ?_, h2.2.2⟩
        rw [getD_app (by omega)]
        exact h2.2.1 h0
      · have e : i = (betw l m k).length := by omega
        have e2 : (betw l m k ++ [((k : Int), m.getD k 0)]).getD i (0, 0) = ((k : Int), m.getD k 0) := by
          subst e
          simp only [List.getD, List.getElem?_append_right (Nat.le_refl _), Nat.sub_self, List.getElem?_cons_zero, Option.getD_some]
        unfold EdOk
        rw [e2]
        have h3 := hm _ (mem_getD 0 (show k < m.length by omega))
        refine ⟨by simp only; omega, fun h0 => ?_, h3, ?_⟩
        · rw [getD_app (by omega)]
          exact (betw_bd (by omega)).2
        · show ¬ m.getD k 0 = l.getD (k : Int).toNat 0
          rw [Int.toNat_natCast]
          exact fun h => hd h.symm
theorem betw_ok {l m : List Int} (hm : ∀ x ∈ m, 0 ≤ x ∧ x ≤ 2) (hl : l.length = m.length) : edsB l (betw l m l.length) = true := by
  unfold edsB
  exact decide_eq_true (betw_eds hm hl (Nat.le_refl _))
theorem appE_snoc (l : List Int) (es : List (Int × Int)) (e : Int × Int) : appE l (es ++ [e]) = (appE l es).set e.1.toNat e.2 := by unfold appE; rw [List.foldl_append]; rfl
theorem app_betw_at {l m : List Int} (hl : l.length = m.length) : ∀ {k : Nat}, k ≤ l.length → ∀ i : Nat, (appE l (betw l m k)).getD i 0 = if i < k then m.getD i 0 else l.getD i 0
  | 0, _, i => by rw [if_neg (Nat.not_lt_zero _)]; rfl
  | k + 1, hk, i => by
    have ih := app_betw_at (l := l) (m := m) hl (k := k) (by omega)
    by_cases hd : l.getD k 0 = m.getD k 0
    · rw [betw_same hd, ih i]
      by_cases h1 : i = k
      · subst h1
        rw [if_neg (by omega), if_pos (by omega), hd]
      · by_cases h2 : i < k
        · rw [if_pos h2, if_pos (by omega)]
        · rw [if_neg h2, if_neg (by omega)]
    · rw [betw_diff hd, appE_snoc]
      show ((appE l (betw l m k)).set (k : Int).toNat (m.getD k 0)).getD i 0 = _
      rw [Int.toNat_natCast]
      by_cases h1 : k = i
      · subst h1
        rw [getD_set_eq (by rw [length_appE]; omega), if_pos (by omega)]
      · rw [getD_set_ne h1, ih i]
        by_cases h2 : i < k
        · rw [if_pos h2, if_pos (by omega)]
        · rw [if_neg h2, if_neg (by omega)]
theorem app_betw {l m : List Int} (hl : l.length = m.length) : appE l (betw l m l.length) = m := by
  refine ext_getD 0 (by rw [length_appE, hl]) (fun j hj => ?_)
  rw [app_betw_at hl (Nat.le_refl _), if_pos (by rw [length_appE] at hj; exact hj)]
/-- what holds of drawn edits -/
theorem eds_facts {a b : Int} {l m : List Int} (h1 : okP a b l = true) (h2 : okP a b m = true) :
    veE a b l (betw l m l.length) = 0 ∧ appE l (betw l m l.length) = m ∧ undoL l (betw l m l.length) = betw m l m.length ∧ veE a b m (betw m l m.length) = 0 ∧ appE m (betw m l m.length) = l ∧
    reE a b l (etT a b l (betw l m l.length)) = 0 ∧ reL a b l (etT a b l (betw l m l.length)) = betw l m l.length ∧ beE a b l a b m = 0 ∧ beL a b l a b m = betw l m l.length ∧ (betw l m l.length).length ≤ 112 ∧ (betw m l m.length).length ≤ 112 := by
  have e1 := okP_inn h1
  have e2 := okP_inn h2
  have hl : l.length = m.length := by omega
  have b1 := betw_ok (l := l) (okP_spec h2).2.2 hl
  have b2 := betw_ok (l := m) (okP_spec h1).2.2 hl.symm
  have v1 := veE_ok ⟨h1, b1⟩
  have a1 := app_betw (l := l) (m := m) hl
  have hu := undo_eq b1
  rw [a1] at hu
  have hT : etT a b l (betw l m l.length) = edT (betw l m l.length) := etT_ok v1
  have hin : ∀ e ∈ betw l m l.length, 0 ≤ e.1 ∧ e.1 ≤ 1073741824 ∧ 0 ≤ e.2 ∧ e.2 ≤ 2 := by
    intro e he
    obtain ⟨k, hk, rfl⟩ := List.mem_iff_getElem.1 he
    have h3 := edsB_at b1 (by have := okP_len h1; omega) hk
    have h4 := okP_len h1
    simp only [List.getD, List.getElem?_eq_getElem hk, Option.getD_some] at h3
    omega
  have hR := reC_edT hin
  have ho : okR l (edT (betw l m l.length)) = true := by rw [okR_some hR]; exact b1
  have hr := re_ok h1 ho
  have hbe := be_ok (a := a) (b := b) ⟨h1, h2⟩ ⟨rfl, rfl⟩
  have g1 := length_betw l m l.length
  have g2 := length_betw m l m.length
  have g3 := okP_len h1
  refine ⟨v1, a1, by rw [← hl]; exact hu.symm, veE_ok ⟨h2, b2⟩, app_betw hl.symm, by rw [hT]; exact hr.1, by rw [hT, hr.2, hR]; rfl, hbe.1, hbe.2.1, by omega, by omega⟩

set_option maxRecDepth 4000 in
/-- spec.l11DrawList -/
theorem f_s_l11DrawList (w0 : World) (w : World) (b : Nat) (vc : Value) (co : List Int) (q : Nat) (sd : Int) (F : List Ent) (p : Nat) (a : Int) (c : Int) (v : Value) (l : List Int) (hw : Sat w0 w (srcE b vc q sd :: F)) (hc : Rd w0 vc 1 co.length (AW.bytes co)) (hb : ∀ x ∈ co, 0 ≤ x ∧ x ≤ 255) (hcl : co.length ≤ 1000000000) (hp : RdL w0 F (boxS p) 3 1 [.int .i64 a, .int .i64 c, v]) (hv : RdL w0 F v 1 l.length (ints l)) (hk : okP a c l = true) (hq : q ≤ 999990000) : RetO Try.prog 97 [.pointer (some ⟨b, 0, none⟩), .pointer (some ⟨p, 0, none⟩)] w0 w (fun u L => ∃ (l' : List Int) (q' : Nat) (sd' : Int), okP a c l' = true ∧ q' ≤ q + 500 ∧ L = .row 74 2 u (betw l l' l.length).length (edits (betw l l' l.length)) :: srcE b vc q' sd' :: F) := by
  have hll := okP_len hk
  refine RetO.enter Try.func97 rfl Try.ntmps97 rfl hw ?_
  refine Run.seq ?_
  refine Run.region ?_
  refine Ops.pure rfl (Pure.assign rfl) ?_
  refine Ops.nil ?_
  refine Run.seq ?_
  refine Run.region ?_
  refine Ops.pure rfl (Pure.move rfl) ?_
  refine Ops.go rfl (Loud.callR fn112 rfl (fun w hw => f_s_l02Own w p a c v l (RdL.skip hp w hw) (RdL.skip hv w hw) (by omega))) ?_
  rintro v8 _ ⟨L8, hQ8, rfl⟩
  obtain ⟨x8, h8, rfl, rfl⟩ := hQ8
  refine Ops.go rfl (Loud.alloc zero28 rfl) ?_
  rintro _ _ ⟨b5, rfl, rfl⟩
  refine Ops.store (Stores.box 0 rfl rfl rfl size28 (one3 h8) rfl rfl) ?_
  refine Ops.nil ?_
  refine Run.seq ?_
  refine Run.seq ?_
  refine Run.region ?_
  refine Ops.pure rfl (Pure.assign rfl) ?_
  refine Ops.nil ?_
  refine Run.block ?_
  refine Run.loop4 (X := Nat) (Y := List Int) (Z := Nat) (V := Int) (fun i m q' sd' => [(0, .pointer (some ⟨b, 0, none⟩)), (1, .pointer (some ⟨p, 0, none⟩)), (5, .pointer (some ⟨b5, 0, none⟩)), (6, .int .i64 i)]) (fun i m q' sd' => .box b5 28 [.int .i64 a, .int .i64 c, x8] :: .row 2 1 x8 l.length (ints m) :: srcE b vc q' sd' :: F) (fun i m q' sd' => okP a c m = true ∧ i ≤ l.length ∧ q' ≤ q + 4 * i) (fun i m q' sd' => l.length - i) 0 l q sd ?_ ?_ ?_ ?_
  · exact ⟨hk, Nat.zero_le _, by omega⟩
  · exact ⟨rfl, rfl, rfl, rfl, trivial⟩
  · exact Ext.refl _
  · rintro i m q' sd' ⟨hkm, hi, hq'⟩
    have hml := okP_inn hkm
    have hll2 := okP_inn hk
    have hml2 : (ints m).length = l.length := by rw [ints, List.length_map]; omega
    refine Run.seq ?_
    refine Run.seq ?_
    refine Run.region ?_
    refine Ops.pure rfl (Pure.move rfl) ?_
    refine Ops.pure rfl (Pure.fieldAddrB fld28_2 rfl) ?_
    refine Ops.pure rfl (Pure.ldB 0 rfl cell22 rfl rfl) ?_
    refine Ops.pure rfl (Pure.len sl22 (RdL.own 1 rfl) rfl) ?_
    refine Ops.pure rfl (Pure.lss rfl rfl) ?_
    refine Ops.nil ?_
    refine Run.cond rfl (fun c13 => ?_) (fun c13 => ?_)
    · skip
      replace c13 := dT c13
      refine Run.skip ?_
      refine Run.seq ?_
      refine Run.block ?_
      refine Run.seq ?_
      refine Run.region ?_
      refine Ops.pure rfl (Pure.move rfl) ?_
      refine Ops.go rfl (Loud.callO fn82 rfl (fun w hw => f_s_l00Src_one _ w b vc co _ _ _ 4 (Sat.front 2 rfl hw) hc hb hcl (by omega) (by omega))) ?_
      rintro v17 L17 hQ17
      obtain ⟨x17, q17, sd17, hq17, rfl, rfl⟩ := hQ17
      refine Ops.nil ?_
      refine Run.cond rfl (fun c17 => ?_) (fun c17 => ?_)
      · skip
        skip
        refine Any.startE (E := [88]) follows ?_
        refine Any.take 2 rfl (by kernel_rfl) rfl (QOp.pure (Pure.move rfl)) ?_
        refine Any.take 3 rfl (by kernel_rfl) rfl (QOp.pure (Pure.move rfl)) ?_
        refine Any.takeA 0 rfl (by kernel_rfl) rfl (fun _ => Pure.fieldAddrB fld28_2 rfl) ?_
        refine Any.two 1 4 (by kernel_rfl) ?_ ?_
        · skip
          refine OneL.q rfl rfl (QOp.pure (Pure.ldB 1 rfl cell22 rfl rfl)) ?_
          refine Any.one 4 (by kernel_rfl) ?_
          refine OneL.loud rfl rfl (Loud.callO fn88 rfl (fun w hw => f_s_l00Src_pick _ w b vc co _ _ _ 3 (Sat.front 0 rfl hw) hc hb hcl (by omega) (by omega))) ?_
          rintro v22 L22 hQ22
          obtain ⟨x22, q22, sd22, hx22, hy22, hq22, rfl, rfl⟩ := hQ22
          refine ⟨.inl (by kernel_rfl), ?_⟩
          refine Any.take 5 rfl (by kernel_rfl) rfl (QOp.pure (Pure.idx1N sl22 (RdL.own 2 rfl) rfl rfl (by first | assumption | omega | (simp; omega)))) ?_
          refine Any.one 6 (by kernel_rfl) ?_
          refine OneL.store rfl (Stores.row1 2 rfl size2 rfl rfl rfl (by first | assumption | omega | (simp; omega))) (by kernel_rfl) ?_
          refine Any.done (by kernel_rfl) ?_
          refine Run.blk ?_
          refine Run.region ?_
          refine Ops.pure rfl (Pure.move rfl) ?_
          refine Ops.pure rfl (Pure.add rfl rfl (by omega) (by omega)) ?_
          refine Ops.pure rfl (Pure.assign rfl) ?_
          refine Ops.nil ?_
          refine Run.asrt ?_
          first
            | (refine ⟨i + 1, m.set i x22, q22, sd22, ⟨⟨okP_setD hkm _ (by omega) (by omega), by omega, by omega⟩, by omega⟩, ⟨rfl, rfl, rfl, rfl, trivial⟩, ?_⟩
               rw [ints, List.map_set]
               exact Ext.take 1 rfl (Ext.take 1 rfl (Ext.refl _)))
            | (refine ⟨i + 1, m, q17, sd17, ⟨⟨hkm, by omega, by omega⟩, by omega⟩, ⟨rfl, rfl, rfl, rfl, trivial⟩, ?_⟩
               exact Ext.take 1 rfl (Ext.take 1 rfl (Ext.refl _)))
        · skip
          refine OneL.loud rfl rfl (Loud.callO fn88 rfl (fun w hw => f_s_l00Src_pick _ w b vc co _ _ _ 3 (Sat.front 0 rfl hw) hc hb hcl (by omega) (by omega))) ?_
          rintro v22 L22 hQ22
          obtain ⟨x22, q22, sd22, hx22, hy22, hq22, rfl, rfl⟩ := hQ22
          refine ⟨.inl (by kernel_rfl), ?_⟩
          refine Any.take 1 rfl (by kernel_rfl) rfl (QOp.pure (Pure.ldB 1 rfl cell22 rfl rfl)) ?_
          refine Any.take 5 rfl (by kernel_rfl) rfl (QOp.pure (Pure.idx1N sl22 (RdL.own 2 rfl) rfl rfl (by first | assumption | omega | (simp; omega)))) ?_
          refine Any.one 6 (by kernel_rfl) ?_
          refine OneL.store rfl (Stores.row1 2 rfl size2 rfl rfl rfl (by first | assumption | omega | (simp; omega))) (by kernel_rfl) ?_
          refine Any.done (by kernel_rfl) ?_
          refine Run.blk ?_
          refine Run.region ?_
          refine Ops.pure rfl (Pure.move rfl) ?_
          refine Ops.pure rfl (Pure.add rfl rfl (by omega) (by omega)) ?_
          refine Ops.pure rfl (Pure.assign rfl) ?_
          refine Ops.nil ?_
          refine Run.asrt ?_
          first
            | (refine ⟨i + 1, m.set i x22, q22, sd22, ⟨⟨okP_setD hkm _ (by omega) (by omega), by omega, by omega⟩, by omega⟩, ⟨rfl, rfl, rfl, rfl, trivial⟩, ?_⟩
               rw [ints, List.map_set]
               exact Ext.take 1 rfl (Ext.take 1 rfl (Ext.refl _)))
            | (refine ⟨i + 1, m, q17, sd17, ⟨⟨hkm, by omega, by omega⟩, by omega⟩, ⟨rfl, rfl, rfl, rfl, trivial⟩, ?_⟩
               exact Ext.take 1 rfl (Ext.take 1 rfl (Ext.refl _)))
      · skip
        skip
        refine Run.skip ?_
        refine Run.blk ?_
        refine Run.region ?_
        refine Ops.pure rfl (Pure.move rfl) ?_
        refine Ops.pure rfl (Pure.add rfl rfl (by omega) (by omega)) ?_
        refine Ops.pure rfl (Pure.assign rfl) ?_
        refine Ops.nil ?_
        refine Run.asrt ?_
        first
          | (refine ⟨i + 1, m.set i x22, q22, sd22, ⟨⟨okP_setD hkm _ (by omega) (by omega), by omega, by omega⟩, by omega⟩, ⟨rfl, rfl, rfl, rfl, trivial⟩, ?_⟩
             rw [ints, List.map_set]
             exact Ext.take 1 rfl (Ext.take 1 rfl (Ext.refl _)))
          | (refine ⟨i + 1, m, q17, sd17, ⟨⟨hkm, by omega, by omega⟩, by omega⟩, ⟨rfl, rfl, rfl, rfl, trivial⟩, ?_⟩
             exact Ext.take 1 rfl (Ext.take 1 rfl (Ext.refl _)))
    · skip
      replace c13 := dF c13
      refine Run.exit rfl ?_
      refine Run.seq ?_
      refine Run.region ?_
      refine Ops.pure rfl (Pure.move rfl) ?_
      refine Ops.go rfl (Loud.callR fn140 rfl (fun w hw => f_s_l11Between w p b5 a c v l a c x8 m (RdL.skip (RdL.skip (RdL.skip hp)) w hw) (RdL.boxM 0 rfl rfl w hw) (RdL.skip (RdL.skip (RdL.skip hv)) w hw) (by rw [show m.length = l.length by omega]; exact RdL.own 1 rfl w hw) (by omega) (by omega))) ?_
      rintro v25 _ ⟨L25, hQ25, rfl⟩
      subst hQ25
      refine Ops.pure rfl (Pure.assign rfl) ?_
      refine Ops.nil ?_
      refine Run.ext_ (Ext.take 0 rfl (Ext.take 2 rfl (Ext.right [_, _] _))) ?_
      refine Run.ret1 rfl rfl ?_
      exact ⟨m, q', sd', hkm, by omega, rfl⟩

set_option maxRecDepth 4000 in
/-- spec.A2Edits -/
theorem f_s_A2Edits (w : World) (vc : Value) (co : List Int) (hc : Rd w vc 1 co.length (AW.bytes co)) (hb : ∀ x ∈ co, 0 ≤ x ∧ x ≤ 255) (hcl : co.length ≤ 1000000000) : Ret Try.prog 40 [vc] w (fun u L => ∃ (a c : Int) (l l' : List Int) (x y : Value), 1 ≤ a ∧ a ≤ 4 ∧ 1 ≤ c ∧ c ≤ 4 ∧ okP a c l = true ∧ okP a c l' = true ∧ x.oneCell' = true ∧ u = .tuple #[.agg #[.int .i64 a, .int .i64 c, x], y] ∧ L = [.row 74 2 y (betw l l' l.length).length (edits (betw l l' l.length)), .row 2 1 x l.length (ints l)]) := by
  have hv1 := hc.one
  refine Ret.enter Try.func40 rfl Try.ntmps40 rfl ?_
  refine Run.seq ?_
  refine Run.region ?_
  refine Ops.go rfl (Loud.alloc zero28 rfl) ?_
  rintro _ _ ⟨b2, rfl, rfl⟩
  refine Ops.pure rfl (Pure.assign rfl) ?_
  refine Ops.nil ?_
  refine Run.seq ?_
  refine Run.region ?_
  refine Ops.pure rfl (Pure.move rfl) ?_
  refine Ops.go rfl (Loud.callR fn80 rfl (fun w hw => f_s_l00From w vc co hv1)) ?_
  rintro v7 _ ⟨L7, hQ7, rfl⟩
  obtain ⟨s7, rfl, rfl⟩ := hQ7
  refine Ops.pure rfl (Pure.assign rfl) ?_
  refine Ops.nil ?_
  refine Run.seq ?_
  refine Run.region ?_
  refine Ops.pure rfl (Pure.move rfl) ?_
  refine Ops.go rfl (Loud.callO fn81 rfl (fun w hw => f_s_l02Draw _ w _ vc co _ _ _ 4 (Sat.front 0 rfl hw) hc hb hcl (by omega) (by omega) (by omega))) ?_
  rintro v9 L9 hQ9
  obtain ⟨a9, c9, l9, x9, q9, sd9, ha9, hA9, hc9, hC9, hk9, h9, hq9, rfl, rfl⟩ := hQ9
  refine Ops.go rfl (Loud.alloc zero28 rfl) ?_
  rintro _ _ ⟨b5, rfl, rfl⟩
  refine Ops.store (Stores.box 0 rfl rfl rfl size28 (one3 h9) rfl rfl) ?_
  refine Ops.nil ?_
  refine Run.seq ?_
  refine Any.startE (E := [97]) follows ?_
  refine Any.take 1 rfl (by kernel_rfl) rfl (QOp.pure (Pure.move rfl)) ?_
  refine Any.two 0 2 (by kernel_rfl) ?_ ?_
  · skip
    refine OneL.q rfl rfl (QOp.pure (Pure.ldBA 0 rfl cell28 rfl rfl rfl)) ?_
    refine Any.one 2 (by kernel_rfl) ?_
    refine OneL.loud rfl rfl (Loud.callO fn97 rfl (fun w hw => f_s_l11DrawList _ w _ vc co _ _ _ _ a9 c9 x9 l9 (Sat.front 2 rfl hw) hc hb hcl (RdL.boxM 0 rfl rfl) (RdL.own 1 rfl) hk9 (by omega))) ?_
    rintro v12 L12 hQ12
    obtain ⟨l12, q12, sd12, hk12, hq12, rfl⟩ := hQ12
    refine ⟨.inl (by kernel_rfl), ?_⟩
    refine Any.one 3 (by kernel_rfl) ?_
    refine OneL.store rfl (Stores.box 4 rfl rfl rfl size28 (one3 h9) rfl rfl) (by kernel_rfl) ?_
    refine Any.take 4 rfl (by kernel_rfl) rfl (QOp.pure (Pure.assign rfl)) ?_
    refine Any.done (by kernel_rfl) ?_
    refine Run.retC1x 4 rfl rfl rfl rfl cell28 rfl (Ext.take 0 rfl (Ext.take 2 rfl (Ext.nil _))) ?_
    exact ⟨a9, c9, l9, l12, x9, _, ha9, hA9, hc9, hC9, hk9, hk12, h9, rfl, rfl⟩
  · skip
    refine OneL.loud rfl rfl (Loud.callO fn97 rfl (fun w hw => f_s_l11DrawList _ w _ vc co _ _ _ _ a9 c9 x9 l9 (Sat.front 2 rfl hw) hc hb hcl (RdL.boxM 0 rfl rfl) (RdL.own 1 rfl) hk9 (by omega))) ?_
    rintro v12 L12 hQ12
    obtain ⟨l12, q12, sd12, hk12, hq12, rfl⟩ := hQ12
    refine ⟨.inl (by kernel_rfl), ?_⟩
    refine Any.take 0 rfl (by kernel_rfl) rfl (QOp.pure (Pure.ldBA 2 rfl cell28 rfl rfl rfl)) ?_
    refine Any.one 3 (by kernel_rfl) ?_
    refine OneL.store rfl (Stores.box 4 rfl rfl rfl size28 (one3 h9) rfl rfl) (by kernel_rfl) ?_
    refine Any.take 4 rfl (by kernel_rfl) rfl (QOp.pure (Pure.assign rfl)) ?_
    refine Any.done (by kernel_rfl) ?_
    refine Run.retC1x 4 rfl rfl rfl rfl cell28 rfl (Ext.take 0 rfl (Ext.take 2 rfl (Ext.nil _))) ?_
    exact ⟨a9, c9, l9, l12, x9, _, ha9, hA9, hc9, hC9, hk9, hk12, h9, rfl, rfl⟩

end Go.Proofs.Ytkplanpcmkbfiaa
