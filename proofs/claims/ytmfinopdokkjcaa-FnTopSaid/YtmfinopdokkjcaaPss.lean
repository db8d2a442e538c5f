/- Contracts of functions, printed by program from annotations. -/
import Derived.Test.YtmfinopdokkjcaaPssM
namespace Go.Proofs.Ytmfinopdokkjcaa
open Go Go.AW Go.RowKit
set_option linter.unusedVariables false
set_option linter.unusedSimpArgs false

set_option maxRecDepth 4000 in
/-- (impl.Panel).passes -/
theorem f_i_Panel_passes (w : World) (a : Int) (b : Int) (v : Value) (l : List Int) (u : Value) (ws : List Wk) (hv : Rd w v 1 l.length (ints l)) (hk : okP a b l = true) (hu : Rd w u 4 ws.length (ws.flatMap encW)) (hwl : ws.length ≤ 1048576) (hvw : ∀ x ∈ ws, VW a b x) : Ret Try.prog 98 [.agg #[.int .i64 a, .int .i64 b, v], u] w (fun u L => L = [.row 108 2 u (pasL a b l ws).length (passes (pasL a b l ws))]) := by
  have hs := okP_size hk
  obtain ⟨hs1, hs2, hs3, hs4⟩ := id hs
  have hsl := segN_le hs
  refine Ret.enter Try.func98 rfl Try.ntmps98 rfl ?_
  refine Run.seq ?_
  refine Run.region ?_
  refine Ops.go rfl (Loud.box rfl rfl) ?_
  rintro _ _ ⟨b2, rfl, rfl⟩
  refine Ops.pure rfl (Pure.assign rfl) ?_
  refine Ops.nil ?_
  refine Run.seq ?_
  refine Run.region ?_
  refine Ops.go rfl (Loud.lit0 sl88) ?_
  rintro v9 _ rfl
  refine Ops.pure rfl (Pure.assign rfl) ?_
  refine Ops.nil ?_
  refine Run.seq ?_
  refine Run.seq ?_
  refine Run.region ?_
  refine Ops.pure rfl (Pure.move rfl) ?_
  refine Ops.pure rfl (Pure.len sl105 (RdL.old hu) rfl) ?_
  refine Ops.pure rfl (Pure.move rfl) ?_
  refine Ops.nil ?_
  refine Run.block ?_
  refine Run.loop2 (X := Nat) (Y := Value) (fun k vo => [(2, .pointer (some ⟨b2, 0, none⟩)), (5, vo), (10, u), (11, .int .i64 ws.length), (12, .int .i64 k)]) (fun k vo => [.row 108 2 vo (pasL a b l (ws.take k)).length (passes (pasL a b l (ws.take k))), .box b2 35 [.int .i64 a, .int .i64 b, v]]) (fun k vo => k ≤ ws.length) (fun k vo => ws.length - k) 0 v9 ?_ ?_ ?_ ?_
  · exact Nat.zero_le _
  · exact ⟨rfl, rfl, rfl, rfl, rfl, trivial⟩
  · exact Ext.refl _
  · intro k vo hinv0
    have hvk := fun (h : k < ws.length) => hvw _ (mem_getD ((0, 0, 0, 0) : Wk) h)
    have hlp := length_pasL a b l (ws.take k)
    rw [List.length_take] at hlp
    refine Run.seq ?_
    refine Run.region ?_
    refine Ops.pure rfl (Pure.lss rfl rfl) ?_
    refine Ops.nil ?_
    refine Run.seq ?_
    refine Run.cond rfl (fun c13 => ?_) (fun c13 => ?_)
    · skip
      replace c13 := dT c13
      refine Run.skip ?_
      refine Run.seq ?_
      refine Run.block ?_
      refine Run.seq ?_
      refine Run.region ?_
      refine Ops.pure rfl (Pure.idxN sl105 (RdL.old hu) rfl rfl (by first | assumption | omega | (simp; omega))) ?_
      refine Ops.pure rfl (Pure.ldA cell167 rfl (RdL.old hu) (seg_get encW_len (by omega) ((0, 0, 0, 0) : Wk)) rfl (by decide)) ?_
      refine Ops.go rfl (Loud.alloc zero167 rfl) ?_
      rintro _ _ ⟨b7, rfl, rfl⟩
      refine Ops.store (Stores.box 0 rfl rfl rfl size167 (allOne rfl) rfl rfl) ?_
      refine Ops.nil ?_
      refine Run.seq ?_
      have hvi := hvk (by omega)
      have hmk := VW_mid hs (show VW a b ((ws.getD k ((0, 0, 0, 0) : Wk)).1, (ws.getD k ((0, 0, 0, 0) : Wk)).2.1, (ws.getD k ((0, 0, 0, 0) : Wk)).2.2.1, (ws.getD k ((0, 0, 0, 0) : Wk)).2.2.2) from hvi)
      have hptk := hmk.2.2.2.2.2.2.2.2.1
      have hxk := ptOk_mid hs hptk
      refine Run.region ?_
      refine Ops.pure rfl (Pure.ldBA 0 rfl cell167 rfl rfl rfl) ?_
      refine Ops.q rfl (QOp.call fn175 rfl (fun w hw => f_i_Walker_next w _ _ _ _ (by omega) (by omega) (by omega) (by omega))) ?_
      refine Ops.go rfl (Loud.alloc zero72 rfl) ?_
      rintro _ _ ⟨b8, rfl, rfl⟩
      refine Ops.store (Stores.box 0 rfl rfl rfl size72 (allOne rfl) rfl rfl) ?_
      refine Ops.nil ?_
      refine Run.seq ?_
      refine Run.region ?_
      refine Ops.pure rfl (Pure.ldBA 3 rfl cell35 rfl rfl rfl) ?_
      refine Ops.pure rfl (Pure.ldBA 0 rfl cell72 rfl rfl rfl) ?_
      refine Ops.q rfl (QOp.call fn176 rfl (fun w hw => f_i_Panel_isCrossing w a b v l _ _ (RdL.old hv w hw) hk hptk)) ?_
      refine Ops.nil ?_
      refine Run.cond rfl (fun c20 => ?_) (fun c20 => ?_)
      · skip
        replace c20 := dT c20
        refine Any.start follows ?_
        refine Any.take 0 rfl (by kernel_rfl) rfl (QOp.pure (Pure.move rfl)) ?_
        refine Any.take 1 rfl (by kernel_rfl) rfl (QOp.pure (Pure.ldBA 3 rfl cell35 rfl rfl rfl)) ?_
        refine Any.take 2 rfl (by kernel_rfl) rfl (QOp.pure (Pure.ldBA 0 rfl cell72 rfl rfl rfl)) ?_
        refine Any.take 3 rfl (by kernel_rfl) rfl (QOp.call fn177 rfl (fun w hw => f_i_Panel_crossingIndex w a b v l _ _ (RdL.old hv w hw) hk hptk c20)) ?_
        refine Any.take 4 rfl (by kernel_rfl) rfl (QOp.pure (Pure.fieldAddrB fld167_1 rfl)) ?_
        refine Any.take 5 rfl (by kernel_rfl) rfl (QOp.pure (Pure.ldB 1 rfl cell2 rfl rfl)) ?_
        refine Any.take 6 rfl (by kernel_rfl) rfl (QOp.pure (Pure.fieldAddrB fld167_2 rfl)) ?_
        refine Any.take 7 rfl (by kernel_rfl) rfl (QOp.pure (Pure.ldB 1 rfl cell2 rfl rfl)) ?_
        refine Any.take 8 rfl (by kernel_rfl) rfl (QOp.pure (Pure.mul rfl rfl (by omega) (by omega))) ?_
        refine Any.take 9 rfl (by kernel_rfl) rfl (QOp.pure (Pure.ldBA 0 rfl cell72 rfl rfl rfl)) ?_
        refine Any.take 10 rfl (by kernel_rfl) rfl (QOp.call fn178 rfl (fun w hw => f_i_overSlope w _ _ hxk.1)) ?_
        refine Any.take 11 rfl (by kernel_rfl) rfl (QOp.pure (Pure.eql rfl rfl)) ?_
        refine Any.take 12 rfl (by kernel_rfl) rfl (QOp.pure (Pure.build rfl (bld108_2 _ _ (by first | rfl | assumption) (by first | rfl | assumption)))) ?_
        refine Any.one 13 (by kernel_rfl) ?_
        refine OneL.loud rfl rfl (Loud.litA sl88 rfl rfl rfl) ?_
        rintro v34 _ rfl
        refine ⟨.inl (by kernel_rfl), ?_⟩
        refine Any.one 14 (by kernel_rfl) ?_
        refine OneL.loud rfl rfl (Loud.append 3 rfl sl88 rfl rfl (RdL.own 0 rfl) (by simp [Value.oneCell']) (by omega) (by omega)) ?_
        rintro v35 _ rfl
        refine ⟨.inl (by kernel_rfl), ?_⟩
        refine Any.take 15 rfl (by kernel_rfl) rfl (QOp.pure (Pure.assign rfl)) ?_
        refine Any.done (by kernel_rfl) ?_
        refine Run.blk ?_
        refine Run.region ?_
        refine Ops.pure rfl (Pure.add rfl rfl (by omega) (by omega)) ?_
        refine Ops.pure rfl (Pure.move rfl) ?_
        refine Ops.nil ?_
        refine Run.asrt ?_
        first
          | (refine ⟨k + 1, v35, ⟨by omega, by omega⟩, ⟨rfl, rfl, rfl, rfl, rfl, trivial⟩, Ext.trans (Ext.eq ?_) (Ext.take 3 rfl (Ext.take 3 rfl (Ext.nil _)))⟩
             rw [take_snoc ((0, 0, 0, 0) : Wk) (by omega), pasL_yes c20, passes_append, List.length_append]
             rfl)
          | (refine ⟨k + 1, vo, ⟨by omega, by omega⟩, ⟨rfl, rfl, rfl, rfl, rfl, trivial⟩, Ext.trans (Ext.eq ?_) (Ext.take 2 rfl (Ext.take 2 rfl (Ext.nil _)))⟩
             rw [take_snoc ((0, 0, 0, 0) : Wk) (by omega), pasL_no c20])
      · skip
        replace c20 := dF c20
        refine Run.skip ?_
        refine Run.blk ?_
        refine Run.region ?_
        refine Ops.pure rfl (Pure.add rfl rfl (by omega) (by omega)) ?_
        refine Ops.pure rfl (Pure.move rfl) ?_
        refine Ops.nil ?_
        refine Run.asrt ?_
        first
          | (refine ⟨k + 1, v35, ⟨by omega, by omega⟩, ⟨rfl, rfl, rfl, rfl, rfl, trivial⟩, Ext.trans (Ext.eq ?_) (Ext.take 3 rfl (Ext.take 3 rfl (Ext.nil _)))⟩
             rw [take_snoc ((0, 0, 0, 0) : Wk) (by omega), pasL_yes c20, passes_append, List.length_append]
             rfl)
          | (refine ⟨k + 1, vo, ⟨by omega, by omega⟩, ⟨rfl, rfl, rfl, rfl, rfl, trivial⟩, Ext.trans (Ext.eq ?_) (Ext.take 2 rfl (Ext.take 2 rfl (Ext.nil _)))⟩
             rw [take_snoc ((0, 0, 0, 0) : Wk) (by omega), pasL_no c20])
    · skip
      replace c13 := dF c13
      refine Run.exit rfl ?_
      refine Run.seq ?_
      refine Run.region ?_
      refine Ops.pure rfl (Pure.move rfl) ?_
      refine Ops.pure rfl (Pure.assign rfl) ?_
      refine Ops.nil ?_
      refine Run.ext_ (Ext.take 0 rfl (Ext.nil _)) ?_
      refine Run.ret1 rfl rfl ?_
      have e : k = ws.length := by omega
      subst e
      rw [List.take_length]

set_option maxRecDepth 4000 in
/-- spec.l13Passes -/
theorem f_s_l13Passes (w : World) (p : Nat) (a : Int) (b : Int) (v : Value) (l : List Int) (om : Wk) (hp : Rd w (boxS p) 3 1 [.int .i64 a, .int .i64 b, v]) (hv : Rd w v 1 l.length (ints l)) (hk : okP a b l = true) (hw0 : VW a b om) : Ret Try.prog 230 [.pointer (some ⟨p, 0, none⟩), .agg (encW om).toArray] w (fun u L => L = [.row 108 2 u (pasL a b l (orb a b l om)).length (passes (pasL a b l (orb a b l om)))]) := by
  have hs := okP_size hk
  obtain ⟨hs1, hs2, hs3, hs4⟩ := id hs
  have hsl := segN_le hs
  have hpr := per_at (l := l) hs hw0
  refine Ret.enter Try.func230 rfl Try.ntmps230 rfl ?_
  refine Run.seq ?_
  refine Run.region ?_
  refine Ops.go rfl (Loud.box rfl rfl) ?_
  rintro _ _ ⟨b3, rfl, rfl⟩
  refine Ops.pure rfl (Pure.assign rfl) ?_
  refine Ops.nil ?_
  refine Run.seq ?_
  refine Run.region ?_
  refine Ops.go rfl (Loud.lit0 sl88) ?_
  rintro v9 _ rfl
  refine Ops.pure rfl (Pure.assign rfl) ?_
  refine Ops.nil ?_
  refine Run.seq ?_
  refine Run.region ?_
  refine Ops.pure rfl (Pure.ldBA 1 rfl cell167 rfl rfl rfl) ?_
  refine Ops.go rfl (Loud.alloc zero167 rfl) ?_
  rintro _ _ ⟨b6, rfl, rfl⟩
  refine Ops.store (Stores.box 0 rfl rfl rfl size167 (allOne rfl) rfl rfl) ?_
  refine Ops.nil ?_
  refine Run.seq ?_
  refine Run.seq ?_
  refine Run.region ?_
  refine Ops.pure rfl (Pure.assign rfl) ?_
  refine Ops.nil ?_
  refine Run.block ?_
  refine Run.loop2 (X := Nat) (Y := Value) (fun i vo => [(0, .pointer (some ⟨p, 0, none⟩)), (3, .pointer (some ⟨b3, 0, none⟩)), (5, vo), (6, .pointer (some ⟨b6, 0, none⟩)), (7, .int .i64 i)]) (fun i vo => [.box b6 167 (encW (itr (stp a b l) i om)), .row 108 2 vo (pasL a b l (orbTo a b l om i)).length (passes (pasL a b l (orbTo a b l om i))), .box b3 167 (encW om)]) (fun i vo => i ≤ per a b l om) (fun i vo => per a b l om - i) 0 v9 ?_ ?_ ?_ ?_
  · exact Nat.zero_le _
  · exact ⟨rfl, rfl, rfl, rfl, rfl, trivial⟩
  · exact Ext.refl _
  · intro i vo hinv0
    have hvi := VW_itr (l := l) hs1 hs3 hw0 i
    have hmk := VW_mid hs (show VW a b ((itr (stp a b l) i om).1, (itr (stp a b l) i om).2.1, (itr (stp a b l) i om).2.2.1, (itr (stp a b l) i om).2.2.2) from hvi)
    have hptk := hmk.2.2.2.2.2.2.2.2.1
    have hxk := ptOk_mid hs hptk
    have hlp := length_pasL a b l (orbTo a b l om i)
    rw [length_orbTo] at hlp
    refine Run.seq ?_
    refine Run.seq ?_
    refine Run.region ?_
    refine Ops.pure rfl (Pure.move rfl) ?_
    refine Ops.pure rfl (Pure.eql rfl rfl) ?_
    refine Ops.pure rfl (Pure.move rfl) ?_
    refine Ops.guard rfl rfl rfl rfl (fun c13 => ?_) (fun c13 => ?_)
    · skip
      have c13' := dF c13
      refine Ops.pure rfl (Pure.ldBA 0 rfl cell167 rfl rfl rfl) ?_
      refine Ops.guardY rfl rfl rfl c13 ?_
      refine Ops.pure rfl (Pure.ldBA 2 rfl cell167 rfl rfl rfl) ?_
      refine Ops.guardY rfl rfl rfl c13 ?_
      refine Ops.pure rfl (Pure.neq4 eqs167 rfl rfl) ?_
      refine Ops.pure rfl (Pure.pickF rfl c13 rfl) ?_
      refine Ops.nil ?_
      refine Run.cond rfl (fun c17 => ?_) (fun c17 => ?_)
      · skip
        replace c17 := nT c17
        refine Run.skip ?_
        refine Run.seq ?_
        refine Run.block ?_
        refine Run.seq ?_
        have hilt : i < per a b l om := by
          rcases Nat.lt_or_ge i (per a b l om) with h | h
          · exact h
          · exfalso
            have ei : i = per a b l om := by omega
            first
              | omega
              | (rw [ei, hpr.1] at c17; exact c17 ⟨rfl, rfl, rfl, rfl⟩)
        refine Run.region ?_
        refine Ops.pure rfl (Pure.ldBA 0 rfl cell167 rfl rfl rfl) ?_
        refine Ops.q rfl (QOp.call fn226 rfl (fun w hw => f_s_l03Next w _ _ _ _ (by omega) (by omega) (by omega) (by omega))) ?_
        refine Ops.go rfl (Loud.alloc zero72 rfl) ?_
        rintro _ _ ⟨b8, rfl, rfl⟩
        refine Ops.store (Stores.box 0 rfl rfl rfl size72 (allOne rfl) rfl rfl) ?_
        refine Ops.nil ?_
        refine Run.seq ?_
        refine Run.seq ?_
        refine Run.region ?_
        refine Ops.pure rfl (Pure.move rfl) ?_
        refine Ops.pure rfl (Pure.ldBA 0 rfl cell72 rfl rfl rfl) ?_
        refine Ops.q rfl (QOp.call fn244 rfl (fun w hw => f_s_l13Is w p a b v l _ _ (RdL.old hp w hw) (RdL.old hv w hw) hk hptk)) ?_
        refine Ops.nil ?_
        refine Run.cond rfl (fun c24 => ?_) (fun c24 => ?_)
        · skip
          replace c24 := dT c24
          refine Any.start follows ?_
          refine Any.take 0 rfl (by kernel_rfl) rfl (QOp.pure (Pure.move rfl)) ?_
          refine Any.take 1 rfl (by kernel_rfl) rfl (QOp.pure (Pure.move rfl)) ?_
          refine Any.take 2 rfl (by kernel_rfl) rfl (QOp.pure (Pure.ldBA 0 rfl cell72 rfl rfl rfl)) ?_
          refine Any.take 3 rfl (by kernel_rfl) rfl (QOp.call fn245 rfl (fun w hw => f_s_l13Index w p a b v l _ _ (RdL.old hp w hw) (RdL.old hv w hw) hk hptk c24)) ?_
          refine Any.take 4 rfl (by kernel_rfl) rfl (QOp.pure (Pure.ldBA 1 rfl cell167 rfl rfl rfl)) ?_
          refine Any.take 5 rfl (by kernel_rfl) rfl (QOp.call fn246 rfl (fun w hw => f_s_l13Over w a b _ _ _ _ hs hvi)) ?_
          refine Any.take 6 rfl (by kernel_rfl) rfl (QOp.pure (Pure.build rfl (bld108_2 _ _ (by first | rfl | assumption) (by first | rfl | assumption)))) ?_
          refine Any.one 7 (by kernel_rfl) ?_
          refine OneL.loud rfl rfl (Loud.litA sl88 rfl rfl rfl) ?_
          rintro v32 _ rfl
          refine ⟨.inl (by kernel_rfl), ?_⟩
          refine Any.one 8 (by kernel_rfl) ?_
          refine OneL.loud rfl rfl (Loud.append 3 rfl sl88 rfl rfl (RdL.own 0 rfl) (by simp [Value.oneCell']) (by omega) (by omega)) ?_
          rintro v33 _ rfl
          refine ⟨.inl (by kernel_rfl), ?_⟩
          refine Any.take 9 rfl (by kernel_rfl) rfl (QOp.pure (Pure.assign rfl)) ?_
          refine Any.done (by kernel_rfl) ?_
          refine Run.region ?_
          refine Ops.pure rfl (Pure.move rfl) ?_
          refine Ops.pure rfl (Pure.ldBA 2 rfl cell167 rfl rfl rfl) ?_
          refine Ops.q rfl (QOp.call fn213 rfl (fun w hw => f_s_l03Step w p a b v l _ _ _ _ (RdL.old hp w hw) (RdL.old hv w hw) hk hvi)) ?_
          refine Ops.store (Stores.box 2 rfl rfl rfl size167 (allOne rfl) rfl rfl) ?_
          refine Ops.nil ?_
          refine Run.blk ?_
          refine Run.region ?_
          refine Ops.pure rfl (Pure.move rfl) ?_
          refine Ops.pure rfl (Pure.add rfl rfl (by omega) (by omega)) ?_
          refine Ops.pure rfl (Pure.assign rfl) ?_
          refine Ops.nil ?_
          refine Run.asrt ?_
          first
            | (refine ⟨i + 1, v33, ⟨by omega, by omega⟩, ⟨rfl, rfl, rfl, rfl, rfl, trivial⟩, ?_⟩
               rw [orbTo_succ, pasL_yes c24, passes_append, List.length_append, decide_eq_decide.2 (eq_comm)]
               exact Ext.take 2 rfl (Ext.take 2 rfl (Ext.take 2 rfl (Ext.nil _))))
            | (refine ⟨i + 1, vo, ⟨by omega, by omega⟩, ⟨rfl, rfl, rfl, rfl, rfl, trivial⟩, ?_⟩
               rw [orbTo_succ, pasL_no c24]
               exact Ext.take 1 rfl (Ext.take 1 rfl (Ext.take 1 rfl (Ext.nil _))))
        · skip
          replace c24 := dF c24
          refine Run.skip ?_
          refine Run.region ?_
          refine Ops.pure rfl (Pure.move rfl) ?_
          refine Ops.pure rfl (Pure.ldBA 1 rfl cell167 rfl rfl rfl) ?_
          refine Ops.q rfl (QOp.call fn213 rfl (fun w hw => f_s_l03Step w p a b v l _ _ _ _ (RdL.old hp w hw) (RdL.old hv w hw) hk hvi)) ?_
          refine Ops.store (Stores.box 1 rfl rfl rfl size167 (allOne rfl) rfl rfl) ?_
          refine Ops.nil ?_
          refine Run.blk ?_
          refine Run.region ?_
          refine Ops.pure rfl (Pure.move rfl) ?_
          refine Ops.pure rfl (Pure.add rfl rfl (by omega) (by omega)) ?_
          refine Ops.pure rfl (Pure.assign rfl) ?_
          refine Ops.nil ?_
          refine Run.asrt ?_
          first
            | (refine ⟨i + 1, v33, ⟨by omega, by omega⟩, ⟨rfl, rfl, rfl, rfl, rfl, trivial⟩, ?_⟩
               rw [orbTo_succ, pasL_yes c24, passes_append, List.length_append, decide_eq_decide.2 (eq_comm)]
               exact Ext.take 2 rfl (Ext.take 2 rfl (Ext.take 2 rfl (Ext.nil _))))
            | (refine ⟨i + 1, vo, ⟨by omega, by omega⟩, ⟨rfl, rfl, rfl, rfl, rfl, trivial⟩, ?_⟩
               rw [orbTo_succ, pasL_no c24]
               exact Ext.take 1 rfl (Ext.take 1 rfl (Ext.take 1 rfl (Ext.nil _))))
      · skip
        replace c17 := nF c17
        refine Run.exit rfl ?_
        refine Run.seq ?_
        have hie : i = per a b l om := by
          rcases Nat.lt_or_ge i (per a b l om) with h | h
          · exfalso; exact hpr.2.2.2 i (by omega) h (Prod.ext c17.1 (Prod.ext c17.2.1 (Prod.ext c17.2.2.1 c17.2.2.2)))
          · omega
        refine Run.region ?_
        refine Ops.pure rfl (Pure.move rfl) ?_
        refine Ops.pure rfl (Pure.assign rfl) ?_
        refine Ops.nil ?_
        subst hie
        refine Run.ext_ (Ext.take 1 rfl (Ext.nil _)) ?_
        refine Run.ret1 rfl rfl ?_
        rfl
    · skip
      replace c13 := Bool.eq_true_of_ne c13
      have c13' := dT c13
      refine Ops.guardN rfl rfl rfl rfl (by rw [c13]; decide) ?_
      refine Ops.guardN rfl rfl rfl rfl (by rw [c13]; decide) ?_
      refine Ops.pure rfl (Pure.pickT rfl c13 rfl) ?_
      refine Ops.nil ?_
      refine Run.condE rfl rfl ?_
      refine Run.skip ?_
      refine Run.seq ?_
      refine Run.block ?_
      refine Run.seq ?_
      have hilt : i < per a b l om := by
        rcases Nat.lt_or_ge i (per a b l om) with h | h
        · exact h
        · exfalso
          have ei : i = per a b l om := by omega
          first
            | omega
            | (rw [ei, hpr.1] at c17; exact c17 ⟨rfl, rfl, rfl, rfl⟩)
      refine Run.region ?_
      refine Ops.pure rfl (Pure.ldBA 0 rfl cell167 rfl rfl rfl) ?_
      refine Ops.q rfl (QOp.call fn226 rfl (fun w hw => f_s_l03Next w _ _ _ _ (by omega) (by omega) (by omega) (by omega))) ?_
      refine Ops.go rfl (Loud.alloc zero72 rfl) ?_
      rintro _ _ ⟨b8, rfl, rfl⟩
      refine Ops.store (Stores.box 0 rfl rfl rfl size72 (allOne rfl) rfl rfl) ?_
      refine Ops.nil ?_
      refine Run.seq ?_
      refine Run.seq ?_
      refine Run.region ?_
      refine Ops.pure rfl (Pure.move rfl) ?_
      refine Ops.pure rfl (Pure.ldBA 0 rfl cell72 rfl rfl rfl) ?_
      refine Ops.q rfl (QOp.call fn244 rfl (fun w hw => f_s_l13Is w p a b v l _ _ (RdL.old hp w hw) (RdL.old hv w hw) hk hptk)) ?_
      refine Ops.nil ?_
      refine Run.cond rfl (fun c24 => ?_) (fun c24 => ?_)
      · skip
        replace c24 := dT c24
        refine Any.start follows ?_
        refine Any.take 0 rfl (by kernel_rfl) rfl (QOp.pure (Pure.move rfl)) ?_
        refine Any.take 1 rfl (by kernel_rfl) rfl (QOp.pure (Pure.move rfl)) ?_
        refine Any.take 2 rfl (by kernel_rfl) rfl (QOp.pure (Pure.ldBA 0 rfl cell72 rfl rfl rfl)) ?_
        refine Any.take 3 rfl (by kernel_rfl) rfl (QOp.call fn245 rfl (fun w hw => f_s_l13Index w p a b v l _ _ (RdL.old hp w hw) (RdL.old hv w hw) hk hptk c24)) ?_
        refine Any.take 4 rfl (by kernel_rfl) rfl (QOp.pure (Pure.ldBA 1 rfl cell167 rfl rfl rfl)) ?_
        refine Any.take 5 rfl (by kernel_rfl) rfl (QOp.call fn246 rfl (fun w hw => f_s_l13Over w a b _ _ _ _ hs hvi)) ?_
        refine Any.take 6 rfl (by kernel_rfl) rfl (QOp.pure (Pure.build rfl (bld108_2 _ _ (by first | rfl | assumption) (by first | rfl | assumption)))) ?_
        refine Any.one 7 (by kernel_rfl) ?_
        refine OneL.loud rfl rfl (Loud.litA sl88 rfl rfl rfl) ?_
        rintro v32 _ rfl
        refine ⟨.inl (by kernel_rfl), ?_⟩
        refine Any.one 8 (by kernel_rfl) ?_
        refine OneL.loud rfl rfl (Loud.append 3 rfl sl88 rfl rfl (RdL.own 0 rfl) (by simp [Value.oneCell']) (by omega) (by omega)) ?_
        rintro v33 _ rfl
        refine ⟨.inl (by kernel_rfl), ?_⟩
        refine Any.take 9 rfl (by kernel_rfl) rfl (QOp.pure (Pure.assign rfl)) ?_
        refine Any.done (by kernel_rfl) ?_
        refine Run.region ?_
        refine Ops.pure rfl (Pure.move rfl) ?_
        refine Ops.pure rfl (Pure.ldBA 2 rfl cell167 rfl rfl rfl) ?_
        refine Ops.q rfl (QOp.call fn213 rfl (fun w hw => f_s_l03Step w p a b v l _ _ _ _ (RdL.old hp w hw) (RdL.old hv w hw) hk hvi)) ?_
        refine Ops.store (Stores.box 2 rfl rfl rfl size167 (allOne rfl) rfl rfl) ?_
        refine Ops.nil ?_
        refine Run.blk ?_
        refine Run.region ?_
        refine Ops.pure rfl (Pure.move rfl) ?_
        refine Ops.pure rfl (Pure.add rfl rfl (by omega) (by omega)) ?_
        refine Ops.pure rfl (Pure.assign rfl) ?_
        refine Ops.nil ?_
        refine Run.asrt ?_
        first
          | (refine ⟨i + 1, v33, ⟨by omega, by omega⟩, ⟨rfl, rfl, rfl, rfl, rfl, trivial⟩, ?_⟩
             rw [orbTo_succ, pasL_yes c24, passes_append, List.length_append, decide_eq_decide.2 (eq_comm)]
             exact Ext.take 2 rfl (Ext.take 2 rfl (Ext.take 2 rfl (Ext.nil _))))
          | (refine ⟨i + 1, vo, ⟨by omega, by omega⟩, ⟨rfl, rfl, rfl, rfl, rfl, trivial⟩, ?_⟩
             rw [orbTo_succ, pasL_no c24]
             exact Ext.take 1 rfl (Ext.take 1 rfl (Ext.take 1 rfl (Ext.nil _))))
      · skip
        replace c24 := dF c24
        refine Run.skip ?_
        refine Run.region ?_
        refine Ops.pure rfl (Pure.move rfl) ?_
        refine Ops.pure rfl (Pure.ldBA 1 rfl cell167 rfl rfl rfl) ?_
        refine Ops.q rfl (QOp.call fn213 rfl (fun w hw => f_s_l03Step w p a b v l _ _ _ _ (RdL.old hp w hw) (RdL.old hv w hw) hk hvi)) ?_
        refine Ops.store (Stores.box 1 rfl rfl rfl size167 (allOne rfl) rfl rfl) ?_
        refine Ops.nil ?_
        refine Run.blk ?_
        refine Run.region ?_
        refine Ops.pure rfl (Pure.move rfl) ?_
        refine Ops.pure rfl (Pure.add rfl rfl (by omega) (by omega)) ?_
        refine Ops.pure rfl (Pure.assign rfl) ?_
        refine Ops.nil ?_
        refine Run.asrt ?_
        first
          | (refine ⟨i + 1, v33, ⟨by omega, by omega⟩, ⟨rfl, rfl, rfl, rfl, rfl, trivial⟩, ?_⟩
             rw [orbTo_succ, pasL_yes c24, passes_append, List.length_append, decide_eq_decide.2 (eq_comm)]
             exact Ext.take 2 rfl (Ext.take 2 rfl (Ext.take 2 rfl (Ext.nil _))))
          | (refine ⟨i + 1, vo, ⟨by omega, by omega⟩, ⟨rfl, rfl, rfl, rfl, rfl, trivial⟩, ?_⟩
             rw [orbTo_succ, pasL_no c24]
             exact Ext.take 1 rfl (Ext.take 1 rfl (Ext.take 1 rfl (Ext.nil _))))

set_option maxRecDepth 4000 in
/-- spec.l13Start -/
theorem f_s_l13Start (w : World) (p : Nat) (a : Int) (b : Int) (v : Value) (l : List Int) (c : Int) (hp : Rd w (boxS p) 3 1 [.int .i64 a, .int .i64 b, v]) (hv : Rd w v 1 l.length (ints l)) (hk : okP a b l = true) : RetV Try.prog 229 [.pointer (some ⟨p, 0, none⟩), .int .i64 c] w (.tuple #[.agg (encW (stW a b l c)).toArray, .bool (stF a b l c).isSome]) := by
  have hs := okP_size hk
  obtain ⟨hs1, hs2, hs3, hs4⟩ := id hs
  have hsl := segN_le hs
  have hT := allTI (l := l) hs1 hs3
  refine Ret.enter Try.func229 rfl Try.ntmps229 rfl ?_
  refine Run.seq ?_
  refine Run.region ?_
  refine Ops.go rfl (Loud.alloc zero167 rfl) ?_
  rintro _ _ ⟨b4, rfl, rfl⟩
  refine Ops.pure rfl (Pure.assign rfl) ?_
  refine Ops.nil ?_
  refine Run.seq ?_
  refine Run.region ?_
  refine Ops.pure rfl (Pure.move rfl) ?_
  refine Ops.go rfl (Loud.callR fn191 rfl (fun w hw => f_s_l04All w _ _ _ _ _ (by exact RdL.old (by assumption) w hw) (by exact RdL.old (by assumption) w hw) (by assumption))) ?_
  rintro v11 _ ⟨L11, hQ11, rfl⟩
  obtain ⟨x11, y11, us11, rfl, rfl⟩ := hQ11
  refine Ops.pure rfl (Pure.move rfl) ?_
  refine Ops.pure rfl (Pure.extract rfl rfl) ?_
  refine Ops.pure rfl (Pure.extract rfl rfl) ?_
  refine Ops.pure rfl (Pure.assign rfl) ?_
  refine Ops.pure rfl (Pure.assign rfl) ?_
  refine Ops.nil ?_
  refine Run.seq ?_
  refine Run.seq ?_
  refine Run.region ?_
  refine Ops.pure rfl (Pure.assign rfl) ?_
  refine Ops.nil ?_
  refine Run.block ?_
  refine Run.loop (X := Nat) (fun k => [(0, .pointer (some ⟨p, 0, none⟩)), (1, .int .i64 c), (4, .pointer (some ⟨b4, 0, none⟩)), (7, y11), (8, .int .i64 k)]) (fun k => [.row 2 1 y11 (segN a b) (ints (ownL a b l)), .box b4 167 [.int .i64 0, .int .i64 0, .int .i64 0, .int .i64 0]]) (fun k => k ≤ segN a b ∧ ∀ j, j < k → ¬ (ownL a b l).getD j 0 = c) (fun k => segN a b - k) 0 ?_ ?_ ?_ ?_
  · exact ⟨Nat.zero_le _, by omega⟩
  · exact ⟨rfl, rfl, rfl, rfl, rfl, trivial⟩
  · exact Ext.take 0 rfl (Ext.take 1 rfl (Ext.nil _))
  · intro k hinv0
    have hol := hT.len
    refine Run.seq ?_
    refine Run.seq ?_
    refine Run.region ?_
    refine Ops.pure rfl (Pure.move rfl) ?_
    refine Ops.pure rfl (Pure.move rfl) ?_
    refine Ops.pure rfl (Pure.len sl32 (RdL.own 0 rfl) rfl) ?_
    refine Ops.pure rfl (Pure.lss rfl rfl) ?_
    refine Ops.nil ?_
    refine Run.cond rfl (fun c17 => ?_) (fun c17 => ?_)
    · skip
      replace c17 := dT c17
      refine Run.skip ?_
      refine Run.seq ?_
      refine Run.block ?_
      refine Run.seq ?_
      refine Run.region ?_
      refine Ops.pure rfl (Pure.move rfl) ?_
      refine Ops.pure rfl (Pure.move rfl) ?_
      refine Ops.pure rfl (Pure.idx1N sl32 (RdL.own 0 rfl) rfl rfl (by first | assumption | omega | (simp; omega))) ?_
      refine Ops.pure rfl (Pure.ld cell2 rfl (RdL.own 0 rfl) (by first | exact ints_get (by omega) | exact bools_get (by omega) | exact strs_get (by omega) | exact vals_get (by first | omega | (simp; omega)))) ?_
      refine Ops.pure rfl (Pure.move rfl) ?_
      refine Ops.pure rfl (Pure.eql rfl rfl) ?_
      refine Ops.nil ?_
      refine Run.cond rfl (fun c25 => ?_) (fun c25 => ?_)
      · skip
        replace c25 := dT c25
        refine Run.seq ?_
        refine Run.region ?_
        refine Ops.pure rfl (Pure.move rfl) ?_
        refine Ops.pure rfl (Pure.move rfl) ?_
        refine Ops.q rfl (QOp.call fn209 rfl (fun w hw => f_s_l03Walker w _ _ _ _ _ (by exact RdL.old (by assumption) w hw) (by assumption) (by omega) (by omega))) ?_
        refine Ops.store (Stores.box 1 rfl rfl rfl size167 (allOne rfl) rfl rfl) ?_
        refine Ops.pure rfl (Pure.assign rfl) ?_
        refine Ops.nil ?_
        refine Run.retC1 1 rfl rfl rfl rfl cell167 rfl ?_
        obtain ⟨e1, e2⟩ := st_some (by omega) c25 hinv0.2
        rw [e1, e2]
        rfl
      · skip
        replace c25 := dF c25
        refine Run.skip ?_
        refine Run.blk ?_
        refine Run.region ?_
        refine Ops.pure rfl (Pure.move rfl) ?_
        refine Ops.pure rfl (Pure.add rfl rfl (by omega) (by omega)) ?_
        refine Ops.pure rfl (Pure.assign rfl) ?_
        refine Ops.nil ?_
        refine Run.asrt ?_
        exact ⟨k + 1, ⟨⟨by omega, fun j hj => step_lt (p := fun j => ¬ (ownL a b l).getD j 0 = c) hj hinv0.2 c25⟩, by omega⟩, ⟨rfl, rfl, rfl, rfl, rfl, trivial⟩, Ext.refl _⟩
    · skip
      replace c17 := dF c17
      refine Run.exit rfl ?_
      refine Run.seq ?_
      refine Run.region ?_
      refine Ops.pure rfl (Pure.build rfl bld167) ?_
      refine Ops.store (Stores.box 1 rfl rfl rfl size167 (allOne rfl) rfl rfl) ?_
      refine Ops.pure rfl (Pure.assign rfl) ?_
      refine Ops.nil ?_
      refine Run.retC1 1 rfl rfl rfl rfl cell167 rfl ?_
      obtain ⟨e1, e2⟩ := st_none (c := c) (fun j hj => hinv0.2 j (by omega))
      rw [e1, e2]
      rfl

set_option maxRecDepth 4000 in
/-- spec.l13Of -/
theorem f_s_l13Of (w : World) (p : Nat) (a : Int) (b : Int) (v : Value) (l : List Int) (c : Int) (hp : Rd w (boxS p) 3 1 [.int .i64 a, .int .i64 b, v]) (hv : Rd w v 1 l.length (ints l)) (hl : l.length ≤ 1073741824) (a0 : -9223372036854775808 ≤ a) (a1 : a ≤ 9223372036854775807) (b0 : -9223372036854775808 ≤ b) (b1 : b ≤ 9223372036854775807) : Ret Try.prog 214 [.pointer (some ⟨p, 0, none⟩), .int .i64 c] w (retPs (psL a b l c) (psE a b l c)) := by
  refine Ret.enter Try.func214 rfl Try.ntmps214 rfl ?_
  refine Run.seq ?_
  refine Run.region ?_
  refine Ops.pure rfl (Pure.assign rfl) ?_
  refine Ops.pure rfl (Pure.assign rfl) ?_
  refine Ops.nil ?_
  refine Run.seq ?_
  refine Run.seq ?_
  refine Run.region ?_
  refine Ops.pure rfl (Pure.move rfl) ?_
  refine Ops.q rfl (QOp.call fn99 rfl (fun w hw => f_s_l02Ok w _ _ _ _ _ (by exact RdL.old (by assumption) w hw) (by exact RdL.old (by assumption) w hw) (by assumption) (by assumption) (by assumption) (by assumption) (by assumption))) ?_
  refine Ops.pure rfl (Pure.not rfl) ?_
  refine Ops.nil ?_
  refine Run.cond rfl (fun c10 => ?_) (fun c10 => ?_)
  · skip
    replace c10 := bT c10
    refine Run.seq ?_
    refine Run.region ?_
    refine Ops.pure rfl (Pure.assign rfl) ?_
    refine Ops.pure rfl (Pure.assign rfl) ?_
    refine Ops.nil ?_
    refine Run.addNil 108 2 ?_
    refine Run.ext_ (Ext.take 0 rfl (Ext.nil _)) ?_
    refine Run.ret2 rfl rfl rfl ?_
    rw [(ps_bad c10).1]
    exact retPs_nil (ps_bad c10).2
  · skip
    replace c10 := bF c10
    have hs := okP_size c10
    refine Run.skip ?_
    refine Run.seq ?_
    refine Run.region ?_
    refine Ops.pure rfl (Pure.move rfl) ?_
    refine Ops.pure rfl (Pure.move rfl) ?_
    refine Ops.q rfl (QOp.call fn229 rfl (fun w hw => f_s_l13Start w _ _ _ _ _ _ (by exact RdL.old (by assumption) w hw) (by exact RdL.old (by assumption) w hw) (by assumption))) ?_
    refine Ops.pure rfl (Pure.move rfl) ?_
    refine Ops.pure rfl (Pure.extract rfl rfl) ?_
    refine Ops.pure rfl (Pure.extract rfl rfl) ?_
    refine Ops.go rfl (Loud.alloc zero167 rfl) ?_
    rintro _ _ ⟨b6, rfl, rfl⟩
    refine Ops.store (Stores.box 0 rfl rfl rfl size167 (allOne rfl) rfl rfl) ?_
    refine Ops.pure rfl (Pure.assign rfl) ?_
    refine Ops.nil ?_
    refine Run.seq ?_
    refine Run.seq ?_
    refine Run.region ?_
    refine Ops.pure rfl (Pure.move rfl) ?_
    refine Ops.pure rfl (Pure.not rfl) ?_
    refine Ops.pure rfl (Pure.move rfl) ?_
    refine Ops.guard rfl rfl rfl rfl (fun c19 => ?_) (fun c19 => ?_)
    · skip
      have c19' := bF c19
      refine Ops.pure rfl (Pure.move rfl) ?_
      refine Ops.guardY rfl rfl rfl c19 ?_
      refine Ops.pure rfl (Pure.lss rfl rfl) ?_
      refine Ops.pure rfl (Pure.pickF rfl c19 rfl) ?_
      refine Ops.nil ?_
      refine Run.cond rfl (fun c22 => ?_) (fun c22 => ?_)
      · skip
        replace c22 := dT c22
        refine Run.seq ?_
        refine Run.region ?_
        refine Ops.pure rfl (Pure.assign rfl) ?_
        refine Ops.pure rfl (Pure.assign rfl) ?_
        refine Ops.nil ?_
        refine Run.addNil 108 2 ?_
        refine Run.ext_ (Ext.take 0 rfl (Ext.nil _)) ?_
        refine Run.ret2 rfl rfl rfl ?_
        have hno : ¬ (0 ≤ c ∧ c ≤ (cnt a b l : Int) - 1) := by
          intro hh
          have h2 := (st_iff (l := l) hs hh.1).2 hh.2
          first
            | omega
            | (rw [h2] at c19'; cases c19')
        rw [(ps_out c10 hno).1]
        exact retPs_nil (ps_out c10 hno).2
      · skip
        replace c22 := dF c22
        refine Run.skip ?_
        refine Run.seq ?_
        have hyes : 0 ≤ c ∧ c ≤ (cnt a b l : Int) - 1 := ⟨by omega, (st_iff (l := l) hs (by omega)).1 c19'⟩
        obtain ⟨hcu, hvs⟩ := st_cur (l := l) hs hyes.1 hyes.2
        refine Run.region ?_
        refine Ops.pure rfl (Pure.move rfl) ?_
        refine Ops.pure rfl (Pure.ldBA 0 rfl cell167 rfl rfl rfl) ?_
        refine Ops.go rfl (Loud.callR fn230 rfl (fun w hw => f_s_l13Passes w p a b v l (stW a b l c) (RdL.old hp w hw) (RdL.old hv w hw) c10 hvs)) ?_
        rintro v25 _ ⟨L25, hQ25, rfl⟩
        subst hQ25
        refine Ops.pure rfl (Pure.assign rfl) ?_
        refine Ops.pure rfl (Pure.assign rfl) ?_
        refine Ops.nil ?_
        refine Run.ext_ (Ext.take 0 rfl (Ext.nil _)) ?_
        refine Run.ret2 rfl rfl rfl ?_
        rw [(ps_ok c10 hyes).1, (ps_ok c10 hyes).2, ← hcu]
        exact ⟨_, rfl, rfl⟩
    · skip
      replace c19 := Bool.eq_true_of_ne c19
      have c19' := bT c19
      refine Ops.guardN rfl rfl rfl rfl (by rw [c19]; decide) ?_
      refine Ops.pure rfl (Pure.pickT rfl c19 rfl) ?_
      refine Ops.nil ?_
      refine Run.condE rfl rfl ?_
      refine Run.seq ?_
      refine Run.region ?_
      refine Ops.pure rfl (Pure.assign rfl) ?_
      refine Ops.pure rfl (Pure.assign rfl) ?_
      refine Ops.nil ?_
      refine Run.addNil 108 2 ?_
      refine Run.ext_ (Ext.take 0 rfl (Ext.nil _)) ?_
      refine Run.ret2 rfl rfl rfl ?_
      have hno : ¬ (0 ≤ c ∧ c ≤ (cnt a b l : Int) - 1) := by
        intro hh
        have h2 := (st_iff (l := l) hs hh.1).2 hh.2
        first
          | omega
          | (rw [h2] at c19'; cases c19')
      rw [(ps_out c10 hno).1]
      exact retPs_nil (ps_out c10 hno).2

theorem Ext.rot (x y : Ent) (I : List Ent) : Ext (y :: I) (I ++ [x, y]) := ⟨[x], by
  rw [show I ++ [x, y] = (I ++ [x]) ++ [y] by simp]
  exact List.perm_append_comm (l₁ := [y]) (l₂ := I ++ [x])⟩
def ccE (a b : Int) (l : List Int) (cs : List Int) : Int := if okP a b l = true then (if ∀ k, k < cs.length → 0 ≤ cs.getD k 0 ∧ cs.getD k 0 ≤ (cnt a b l : Int) - 1 then 0 else 2) else 1
theorem cc_bad {a b : Int} {l cs : List Int} (h : okP a b l = false) : ccE a b l cs = 1 := by unfold ccE; rw [if_neg (by rw [h]; decide)]
theorem cc_out {a b : Int} {l cs : List Int} {k : Nat} (h : okP a b l = true) (hk : k < cs.length) (hc : ¬ (0 ≤ cs.getD k 0 ∧ cs.getD k 0 ≤ (cnt a b l : Int) - 1)) : ccE a b l cs = 2 := by unfold ccE; rw [if_pos h, if_neg (fun hh => hc (hh k hk))]
theorem cc_ok {a b : Int} {l cs : List Int} (h : okP a b l = true) (hc : ∀ k, k < cs.length → 0 ≤ cs.getD k 0 ∧ cs.getD k 0 ≤ (cnt a b l : Int) - 1) : ccE a b l cs = 0 := by unfold ccE; rw [if_pos h, if_pos hc]
theorem cc_one (a b : Int) (l : List Int) (c : Int) : ccE a b l [c] = psE a b l c := by
  unfold ccE psE
  by_cases h : okP a b l = true
  · rw [if_pos h, if_pos h]
    by_cases hc : 0 ≤ c ∧ c ≤ (cnt a b l : Int) - 1
    · rw [if_pos hc, if_pos (fun k hk => by have : k = 0 := by simpa using hk
                                            subst this; exact hc)]
    · rw [if_neg hc, if_neg (fun hh => hc (hh 0 (by simp)))]
  · rw [if_neg h, if_neg h]

set_option maxRecDepth 4000 in
/-- impl.curveCode -/
theorem f_i_curveCode (w : World) (a : Int) (b : Int) (v : Value) (l : List Int) (u : Value) (cs : List Int) (hv : Rd w v 1 l.length (ints l)) (hl : l.length ≤ 1073741824) (a0 : -9223372036854775808 ≤ a) (a1 : a ≤ 9223372036854775807) (b0 : -9223372036854775808 ≤ b) (b1 : b ≤ 9223372036854775807) (hu : Rd w u 1 cs.length (ints cs)) (hcl : cs.length ≤ 1048576) : RetV Try.prog 132 [.agg #[.int .i64 a, .int .i64 b, v], u] w (.int .i64 (ccE a b l cs)) := by
  refine Ret.enter Try.func132 rfl Try.ntmps132 rfl ?_
  refine Run.seq ?_
  refine Run.region ?_
  refine Ops.go rfl (Loud.box rfl rfl) ?_
  rintro _ _ ⟨b2, rfl, rfl⟩
  refine Ops.pure rfl (Pure.assign rfl) ?_
  refine Ops.nil ?_
  refine Run.seq ?_
  refine Run.seq ?_
  refine Run.region ?_
  refine Ops.pure rfl (Pure.ldBA 0 rfl cell35 rfl rfl rfl) ?_
  refine Ops.q rfl (QOp.call fn96 rfl (fun w hw => f_i_ValidPanel w _ _ _ _ (by exact RdL.old (by assumption) w hw) (by assumption) (by assumption) (by assumption) (by assumption) (by assumption))) ?_
  refine Ops.pure rfl (Pure.not rfl) ?_
  refine Ops.nil ?_
  refine Run.cond rfl (fun c9 => ?_) (fun c9 => ?_)
  · skip
    replace c9 := bT c9
    refine Run.seq ?_
    refine Run.region ?_
    refine Ops.pure rfl (Pure.assign rfl) ?_
    refine Ops.nil ?_
    refine Run.ret1 rfl rfl ?_
    rw [cc_bad c9]
  · skip
    replace c9 := bF c9
    refine Run.skip ?_
    refine Run.seq ?_
    refine Run.seq ?_
    refine Run.region ?_
    refine Ops.pure rfl (Pure.move rfl) ?_
    refine Ops.pure rfl (Pure.len sl32 (RdL.old hu) rfl) ?_
    refine Ops.pure rfl (Pure.move rfl) ?_
    refine Ops.nil ?_
    refine Run.block ?_
    refine Run.loop (X := Nat) (fun k => [(2, .pointer (some ⟨b2, 0, none⟩)), (10, u), (11, .int .i64 cs.length), (12, .int .i64 k)]) (fun k => [.box b2 35 [.int .i64 a, .int .i64 b, v]]) (fun k => k ≤ cs.length ∧ ∀ j, j < k → 0 ≤ cs.getD j 0 ∧ cs.getD j 0 ≤ (cnt a b l : Int) - 1) (fun k => cs.length - k) 0 ?_ ?_ ?_ ?_
    · exact ⟨Nat.zero_le _, by omega⟩
    · exact ⟨rfl, rfl, rfl, rfl, trivial⟩
    · exact Ext.refl _
    · intro k hinv0
      have hcp := cnt_pos (l := l) (okP_size c9).1 (okP_size c9).2.2.1
      have hsl := segN_le (okP_size c9)
      refine Run.seq ?_
      refine Run.region ?_
      refine Ops.pure rfl (Pure.lss rfl rfl) ?_
      refine Ops.nil ?_
      refine Run.seq ?_
      refine Run.cond rfl (fun c13 => ?_) (fun c13 => ?_)
      · skip
        replace c13 := dT c13
        refine Run.skip ?_
        refine Run.seq ?_
        refine Run.block ?_
        refine Run.seq ?_
        refine Run.region ?_
        refine Ops.pure rfl (Pure.idx1N sl32 (RdL.old hu) rfl rfl (by first | assumption | omega | (simp; omega))) ?_
        refine Ops.pure rfl (Pure.ld cell2 rfl (RdL.old hu) (by first | exact ints_get (by omega) | exact bools_get (by omega) | exact strs_get (by omega) | exact vals_get (by first | omega | (simp; omega)))) ?_
        refine Ops.pure rfl (Pure.assign rfl) ?_
        refine Ops.nil ?_
        refine Run.seq ?_
        refine Run.region ?_
        refine Ops.pure rfl (Pure.move rfl) ?_
        refine Ops.pure rfl (Pure.ldBA 0 rfl cell35 rfl rfl rfl) ?_
        refine Ops.q rfl (QOp.call fn121 rfl (fun w hw => f_i_countCurves w _ _ _ _ (by exact RdL.old (by assumption) w hw) (by assumption))) ?_
        refine Ops.pure rfl (Pure.sub rfl rfl (by omega) (by omega)) ?_
        refine Ops.q rfl (QOp.call fn93 rfl (fun w hw => f_i_inRange w _ _ _)) ?_
        refine Ops.pure rfl (Pure.not rfl) ?_
        refine Ops.nil ?_
        refine Run.cond rfl (fun c21 => ?_) (fun c21 => ?_)
        · skip
          replace c21 := nT c21
          refine Run.seq ?_
          refine Run.region ?_
          refine Ops.pure rfl (Pure.assign rfl) ?_
          refine Ops.nil ?_
          refine Run.ret1 rfl rfl ?_
          rw [cc_out c9 (by omega) c21]
        · skip
          replace c21 := nF c21
          refine Run.skip ?_
          refine Run.blk ?_
          refine Run.region ?_
          refine Ops.pure rfl (Pure.add rfl rfl (by omega) (by omega)) ?_
          refine Ops.pure rfl (Pure.move rfl) ?_
          refine Ops.nil ?_
          refine Run.asrt ?_
          exact ⟨k + 1, ⟨⟨by omega, fun j hj => step_lt (p := fun j => 0 ≤ cs.getD j 0 ∧ cs.getD j 0 ≤ (cnt a b l : Int) - 1) hj hinv0.2 c21⟩, by omega⟩, ⟨rfl, rfl, rfl, rfl, trivial⟩, Ext.refl _⟩
      · skip
        replace c13 := dF c13
        refine Run.exit rfl ?_
        refine Run.seq ?_
        refine Run.region ?_
        refine Ops.pure rfl (Pure.assign rfl) ?_
        refine Ops.nil ?_
        refine Run.ret1 rfl rfl ?_
        rw [cc_ok c9 (fun j hj => hinv0.2 j (by omega))]

set_option maxRecDepth 4000 in
/-- impl.PassesOf -/
theorem f_i_PassesOf (w : World) (a : Int) (b : Int) (v : Value) (l : List Int) (c : Int) (hv : Rd w v 1 l.length (ints l)) (hl : l.length ≤ 1073741824) (a0 : -9223372036854775808 ≤ a) (a1 : a ≤ 9223372036854775807) (b0 : -9223372036854775808 ≤ b) (b1 : b ≤ 9223372036854775807) (c0 : -9223372036854775808 ≤ c) (c1 : c ≤ 9223372036854775807) : Ret Try.prog 84 [.agg #[.int .i64 a, .int .i64 b, v], .int .i64 c] w (retPs (psL a b l c) (psE a b l c)) := by
  refine Ret.enter Try.func84 rfl Try.ntmps84 rfl ?_
  refine Run.seq ?_
  refine Run.region ?_
  refine Ops.go rfl (Loud.box rfl rfl) ?_
  rintro _ _ ⟨b2, rfl, rfl⟩
  refine Ops.pure rfl (Pure.assign rfl) ?_
  refine Ops.pure rfl (Pure.assign rfl) ?_
  refine Ops.nil ?_
  refine Run.seq ?_
  refine Run.seq ?_
  refine Run.region ?_
  refine Ops.pure rfl (Pure.ldBA 0 rfl cell35 rfl rfl rfl) ?_
  refine Ops.pure rfl (Pure.move rfl) ?_
  refine Ops.go rfl (Loud.lit sl32 rfl rfl rfl (by simp [Value.oneCell'])) ?_
  rintro v11 _ rfl
  refine Ops.q rfl (QOp.call fn132 rfl (fun w hw => (f_i_curveCode w a b v l v11 [c] (RdL.old hv w hw) hl a0 a1 b0 b1 (RdL.own 0 rfl w hw) (by simp)).cong (by rw [cc_one]))) ?_
  refine Ops.pure rfl (Pure.assign rfl) ?_
  refine Ops.nil ?_
  refine Run.seq ?_
  refine Run.region ?_
  refine Ops.pure rfl (Pure.move rfl) ?_
  refine Ops.pure rfl (Pure.neq rfl rfl) ?_
  refine Ops.nil ?_
  refine Run.cond rfl (fun c14 => ?_) (fun c14 => ?_)
  · skip
    replace c14 := nT c14
    refine Run.seq ?_
    refine Run.region ?_
    refine Ops.pure rfl (Pure.move rfl) ?_
    refine Ops.pure rfl (Pure.assign rfl) ?_
    refine Ops.pure rfl (Pure.assign rfl) ?_
    refine Ops.nil ?_
    refine Run.addNil 108 2 ?_
    refine Run.ext_ (Ext.take 0 rfl (Ext.nil _)) ?_
    refine Run.ret2 rfl rfl rfl ?_
    have h0 : psL a b l c = [] := by unfold psL; rw [if_neg c14]
    exact retPs_nil h0
  · skip
    replace c14 := nF c14
    obtain ⟨hk, hc0, hc1⟩ := ps_zero c14
    have hs := okP_size hk
    refine Run.skip ?_
    refine Run.seq ?_
    refine Run.region ?_
    refine Ops.pure rfl (Pure.ldBA 1 rfl cell35 rfl rfl rfl) ?_
    refine Ops.go rfl (Loud.callR fn97 rfl (fun w hw => f_i_Panel_trace w _ _ _ _ (by exact RdL.old (by assumption) w hw) (by assumption))) ?_
    rintro v18 _ ⟨L18, hQ18, rfl⟩
    obtain ⟨x18, y18, us18, hus18, rfl, rfl⟩ := hQ18
    refine Ops.pure rfl (Pure.move rfl) ?_
    refine Ops.pure rfl (Pure.extract rfl rfl) ?_
    refine Ops.pure rfl (Pure.extract rfl rfl) ?_
    refine Ops.pure rfl (Pure.assign rfl) ?_
    refine Ops.pure rfl (Pure.assign rfl) ?_
    refine Ops.nil ?_
    refine Run.seq ?_
    refine Run.ext_ (Ext.take 0 rfl (Ext.take 0 rfl (Ext.rot _ _ _))) ?_
    have hcl : c.toNat < cnt a b l := by omega
    have hcl2 : c.toNat < (curL a b l).length := hcl
    have hsl := segN_le hs
    have hcz := cur_len (l := l) hs hcl2
    refine Any.start follows ?_
    refine Any.take 0 rfl (by kernel_rfl) rfl (QOp.pure (Pure.ldBA 2 rfl cell35 rfl rfl rfl)) ?_
    refine Any.take 1 rfl (by kernel_rfl) rfl (QOp.pure (Pure.move rfl)) ?_
    refine Any.take 2 rfl (by kernel_rfl) rfl (QOp.pure (Pure.move rfl)) ?_
    refine Any.take 3 rfl (by kernel_rfl) rfl (QOp.pure (Pure.idx1 sl102 (RdL.own 1 rfl) rfl rfl (by first | assumption | omega | (simp; omega)) (by first | assumption | omega | (simp; omega)))) ?_
    refine Any.take 4 rfl (by kernel_rfl) rfl (QOp.pure (Pure.ld cell105 rfl (RdL.own 1 rfl) (by first | exact ints_get (by omega) | exact bools_get (by omega) | exact strs_get (by omega) | exact vals_get (by first | omega | (simp; omega))))) ?_
    refine Any.one 5 (by kernel_rfl) ?_
    refine OneL.loud rfl rfl (Loud.callR fn98 rfl (fun w hw => f_i_Panel_passes w a b v l (us18.getD c.toNat undef) ((curL a b l).getD c.toNat []) (RdL.old hv w hw) hk (RdL.mem (List.mem_cons_of_mem _ (List.mem_cons_of_mem _ (List.mem_cons_of_mem _ (innerG_mem hus18 hcl2)))) w hw) (by omega) (cur_VW hs hcl2))) ?_
    rintro v26 _ ⟨L26, hQ26, rfl⟩
    subst hQ26
    refine ⟨.inl (by kernel_rfl), ?_⟩
    refine Any.take 6 rfl (by kernel_rfl) rfl (QOp.pure (Pure.assign rfl)) ?_
    refine Any.take 7 rfl (by kernel_rfl) rfl (QOp.pure (Pure.assign rfl)) ?_
    refine Any.done (by kernel_rfl) ?_
    refine Run.ext_ (Ext.take 0 rfl (Ext.nil _)) ?_
    refine Run.ret2 rfl rfl rfl ?_
    rw [c14, (ps_ok hk ⟨hc0, hc1⟩).2]
    exact ⟨_, rfl, rfl⟩

end Go.Proofs.Ytmfinopdokkjcaa
