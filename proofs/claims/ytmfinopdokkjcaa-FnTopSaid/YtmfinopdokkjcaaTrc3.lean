/- Contracts of functions, printed by program from annotations. -/
import Derived.Test.YtmfinopdokkjcaaTrc2
namespace Go.Proofs.Ytmfinopdokkjcaa
open Go Go.AW Go.RowKit
set_option linter.unusedVariables false
set_option linter.unusedSimpArgs false

set_option maxRecDepth 4000 in
/-- spec.l04Trace -/
theorem f_s_l04Trace (w : World) (p : Nat) (a : Int) (b : Int) (v : Value) (l : List Int) (om : Wk) (hp : Rd w (boxS p) 3 1 [.int .i64 a, .int .i64 b, v]) (hv : Rd w v 1 l.length (ints l)) (hk : okP a b l = true) (hw0 : VW a b om) : Ret Try.prog 220 [.pointer (some ⟨p, 0, none⟩), .agg (encW om).toArray] w (fun u L => ∃ x y, u = .tuple #[x, y] ∧ L = [.row 2 1 y (per a b l om) (ints ((orb a b l om).map (sg b))), .row 72 2 x (per a b l om) ((orb a b l om).flatMap (fun q : Wk => encQ (q.1, q.2.1)))]) := by
  have hs := okP_size hk
  obtain ⟨hs1, hs2, hs3, hs4⟩ := id hs
  have hsl := segN_le hs
  have hpr := per_at (l := l) hs hw0
  refine Ret.enter Try.func220 rfl Try.ntmps220 rfl ?_
  refine Run.seq ?_
  refine Run.region ?_
  refine Ops.go rfl (Loud.box rfl rfl) ?_
  rintro _ _ ⟨b3, rfl, rfl⟩
  refine Ops.pure rfl (Pure.assign rfl) ?_
  refine Ops.pure rfl (Pure.assign rfl) ?_
  refine Ops.nil ?_
  refine Run.seq ?_
  refine Run.region ?_
  refine Ops.go rfl (Loud.lit0 sl134) ?_
  rintro v9 _ rfl
  refine Ops.pure rfl (Pure.assign rfl) ?_
  refine Ops.nil ?_
  refine Run.seq ?_
  refine Run.region ?_
  refine Ops.go rfl (Loud.lit sl32 rfl rfl rfl (by simp [Value.oneCell'])) ?_
  rintro v10 _ rfl
  refine Ops.pure rfl (Pure.assign rfl) ?_
  refine Ops.nil ?_
  refine Run.seq ?_
  refine Run.seq ?_
  refine Run.region ?_
  refine Ops.pure rfl (Pure.ldBA 2 rfl cell167 rfl rfl rfl) ?_
  refine Ops.go rfl (Loud.alloc zero167 rfl) ?_
  rintro _ _ ⟨b8, rfl, rfl⟩
  refine Ops.store (Stores.box 0 rfl rfl rfl size167 (allOne rfl) rfl rfl) ?_
  refine Ops.nil ?_
  refine Run.block ?_
  refine Run.loop4 (X := Nat) (Y := Value) (Z := Value) (V := Nat) (fun i vp vs bx => [(0, .pointer (some ⟨p, 0, none⟩)), (3, .pointer (some ⟨b3, 0, none⟩)), (6, vp), (7, vs), (8, .pointer (some ⟨bx, 0, none⟩))]) (fun i vp vs bx => [.box bx 167 (encW (itr (stp a b l) i om)), .row 2 1 vs i (ints ((orbTo a b l om i).map (sg b))), .row 72 2 vp i ((orbTo a b l om i).flatMap (fun q : Wk => encQ (q.1, q.2.1))), .box b3 167 (encW om)]) (fun i vp vs bx => i ≤ per a b l om) (fun i vp vs bx => per a b l om - i) 0 v9 v10 b8 ?_ ?_ ?_ ?_
  · exact Nat.zero_le _
  · exact ⟨rfl, rfl, rfl, rfl, rfl, trivial⟩
  · exact Ext.refl _
  · intro i vp vs bx hinv0
    have hvi := VW_itr (l := l) hs1 hs3 hw0 i
    refine Run.seq ?_
    refine Run.seq ?_
    refine Run.region ?_
    refine Ops.pure rfl (Pure.move rfl) ?_
    refine Ops.pure rfl (Pure.len sl134 (RdL.own 2 rfl) rfl) ?_
    refine Ops.pure rfl (Pure.eql rfl rfl) ?_
    refine Ops.pure rfl (Pure.move rfl) ?_
    refine Ops.guard rfl rfl rfl rfl (fun c15 => ?_) (fun c15 => ?_)
    · skip
      have c15' := dF c15
      refine Ops.pure rfl (Pure.ldBA 0 rfl cell167 rfl rfl rfl) ?_
      refine Ops.guardY rfl rfl rfl c15 ?_
      refine Ops.pure rfl (Pure.ldBA 3 rfl cell167 rfl rfl rfl) ?_
      refine Ops.guardY rfl rfl rfl c15 ?_
      refine Ops.pure rfl (Pure.neq4 eqs167 rfl rfl) ?_
      refine Ops.pure rfl (Pure.pickF rfl c15 rfl) ?_
      refine Ops.nil ?_
      refine Run.cond rfl (fun c19 => ?_) (fun c19 => ?_)
      · skip
        replace c19 := nT c19
        refine Run.skip ?_
        refine Run.seq ?_
        refine Run.block ?_
        refine Run.seq ?_
        have hilt : i < per a b l om := by
          rcases Nat.lt_or_ge i (per a b l om) with h | h
          · exact h
          · exfalso
            have ei : i = per a b l om := by omega
            first
              | omega
              | (rw [ei, hpr.1] at c19; exact c19 ⟨rfl, rfl, rfl, rfl⟩)
        refine Run.region ?_
        refine Ops.pure rfl (Pure.move rfl) ?_
        refine Ops.pure rfl (Pure.fieldAddrB fld167_0 rfl) ?_
        refine Ops.pure rfl (Pure.ldBA 0 rfl cell72 rfl rfl rfl) ?_
        refine Ops.go rfl (Loud.litA sl134 rfl rfl rfl) ?_
        rintro v26 _ rfl
        refine Ops.go rfl (Loud.append 3 rfl sl134 rfl rfl (RdL.own 0 rfl) (by simp [Value.oneCell']) (by omega) (by omega)) ?_
        rintro v27 _ rfl
        refine Ops.pure rfl (Pure.assign rfl) ?_
        refine Ops.nil ?_
        refine Run.region ?_
        refine Ops.pure rfl (Pure.move rfl) ?_
        refine Ops.pure rfl (Pure.move rfl) ?_
        refine Ops.pure rfl (Pure.ldBA 1 rfl cell167 rfl rfl rfl) ?_
        refine Ops.q rfl (QOp.call fn212 rfl (fun w hw => (f_s_l03Segment w p a b v _ _ _ _ (RdL.old hp w hw) hs hvi).cong (show _ = Value.int .i64 (sg b (itr (stp a b l) i om)) from rfl))) ?_
        refine Ops.go rfl (Loud.lit sl32 rfl rfl rfl (by simp [Value.oneCell'])) ?_
        rintro v32 _ rfl
        refine Ops.go rfl (Loud.append 3 rfl sl32 rfl rfl (RdL.own 0 rfl) (by simp [Value.oneCell']) (by omega) (by omega)) ?_
        rintro v33 _ rfl
        refine Ops.pure rfl (Pure.assign rfl) ?_
        refine Ops.nil ?_
        refine Run.blk ?_
        refine Run.seq ?_
        refine Run.seq ?_
        refine Run.region ?_
        refine Ops.pure rfl (Pure.ldBA 2 rfl cell167 rfl rfl rfl) ?_
        refine Ops.nil ?_
        refine Run.region ?_
        refine Ops.go rfl (Loud.alloc zero167 rfl) ?_
        rintro _ _ ⟨b8, rfl, rfl⟩
        refine Ops.store (Stores.box 0 rfl rfl rfl size167 (allOne rfl) rfl rfl) ?_
        refine Ops.nil ?_
        refine Run.region ?_
        refine Ops.pure rfl (Pure.move rfl) ?_
        refine Ops.pure rfl (Pure.ldBA 0 rfl cell167 rfl rfl rfl) ?_
        refine Ops.q rfl (QOp.call fn213 rfl (fun w hw => f_s_l03Step w p a b v l _ _ _ _ (RdL.old hp w hw) (RdL.old hv w hw) hk hvi)) ?_
        refine Ops.store (Stores.box 0 rfl rfl rfl size167 (allOne rfl) rfl rfl) ?_
        refine Ops.nil ?_
        refine Run.asrt ?_
        refine ⟨i + 1, v27, v33, b8, ⟨by omega, by omega⟩, ⟨rfl, rfl, rfl, rfl, rfl, trivial⟩, ?_⟩
        rw [orbTo_succ, List.map_append, List.flatMap_append, ints, List.map_append]
        exact Ext.take 0 rfl (Ext.take 3 rfl (Ext.take 3 rfl (Ext.take 3 rfl (Ext.nil _))))
      · skip
        replace c19 := nF c19
        refine Run.exit rfl ?_
        refine Run.seq ?_
        have hie : i = per a b l om := by
          rcases Nat.lt_or_ge i (per a b l om) with h | h
          · exfalso; exact hpr.2.2.2 i (by omega) h (Prod.ext c19.1 (Prod.ext c19.2.1 (Prod.ext c19.2.2.1 c19.2.2.2)))
          · omega
        refine Run.region ?_
        refine Ops.pure rfl (Pure.move rfl) ?_
        refine Ops.pure rfl (Pure.move rfl) ?_
        refine Ops.pure rfl (Pure.assign rfl) ?_
        refine Ops.pure rfl (Pure.assign rfl) ?_
        refine Ops.nil ?_
        subst hie
        refine Run.ext_ (Ext.take 1 rfl (Ext.take 1 rfl (Ext.nil _))) ?_
        refine Run.ret2 rfl rfl rfl ?_
        exact ⟨_, _, rfl, rfl⟩
    · skip
      replace c15 := Bool.eq_true_of_ne c15
      have c15' := dT c15
      refine Ops.guardN rfl rfl rfl rfl (by rw [c15]; decide) ?_
      refine Ops.guardN rfl rfl rfl rfl (by rw [c15]; decide) ?_
      refine Ops.pure rfl (Pure.pickT rfl c15 rfl) ?_
      refine Ops.nil ?_
      refine Run.condE rfl rfl ?_
      refine Run.skip ?_
      refine Run.seq ?_
      refine Run.block ?_
      refine Run.seq ?_
      have hilt : i < per a b l om := by
        rcases Nat.lt_or_ge i (per a b l om) with h | h
        · exact h
        · exfalso
          have ei : i = per a b l om := by omega
          first
            | omega
            | (rw [ei, hpr.1] at c19; exact c19 ⟨rfl, rfl, rfl, rfl⟩)
      refine Run.region ?_
      refine Ops.pure rfl (Pure.move rfl) ?_
      refine Ops.pure rfl (Pure.fieldAddrB fld167_0 rfl) ?_
      refine Ops.pure rfl (Pure.ldBA 0 rfl cell72 rfl rfl rfl) ?_
      refine Ops.go rfl (Loud.litA sl134 rfl rfl rfl) ?_
      rintro v26 _ rfl
      refine Ops.go rfl (Loud.append 3 rfl sl134 rfl rfl (RdL.own 0 rfl) (by simp [Value.oneCell']) (by omega) (by omega)) ?_
      rintro v27 _ rfl
      refine Ops.pure rfl (Pure.assign rfl) ?_
      refine Ops.nil ?_
      refine Run.region ?_
      refine Ops.pure rfl (Pure.move rfl) ?_
      refine Ops.pure rfl (Pure.move rfl) ?_
      refine Ops.pure rfl (Pure.ldBA 1 rfl cell167 rfl rfl rfl) ?_
      refine Ops.q rfl (QOp.call fn212 rfl (fun w hw => (f_s_l03Segment w p a b v _ _ _ _ (RdL.old hp w hw) hs hvi).cong (show _ = Value.int .i64 (sg b (itr (stp a b l) i om)) from rfl))) ?_
      refine Ops.go rfl (Loud.lit sl32 rfl rfl rfl (by simp [Value.oneCell'])) ?_
      rintro v32 _ rfl
      refine Ops.go rfl (Loud.append 3 rfl sl32 rfl rfl (RdL.own 0 rfl) (by simp [Value.oneCell']) (by omega) (by omega)) ?_
      rintro v33 _ rfl
      refine Ops.pure rfl (Pure.assign rfl) ?_
      refine Ops.nil ?_
      refine Run.blk ?_
      refine Run.seq ?_
      refine Run.seq ?_
      refine Run.region ?_
      refine Ops.pure rfl (Pure.ldBA 2 rfl cell167 rfl rfl rfl) ?_
      refine Ops.nil ?_
      refine Run.region ?_
      refine Ops.go rfl (Loud.alloc zero167 rfl) ?_
      rintro _ _ ⟨b8, rfl, rfl⟩
      refine Ops.store (Stores.box 0 rfl rfl rfl size167 (allOne rfl) rfl rfl) ?_
      refine Ops.nil ?_
      refine Run.region ?_
      refine Ops.pure rfl (Pure.move rfl) ?_
      refine Ops.pure rfl (Pure.ldBA 0 rfl cell167 rfl rfl rfl) ?_
      refine Ops.q rfl (QOp.call fn213 rfl (fun w hw => f_s_l03Step w p a b v l _ _ _ _ (RdL.old hp w hw) (RdL.old hv w hw) hk hvi)) ?_
      refine Ops.store (Stores.box 0 rfl rfl rfl size167 (allOne rfl) rfl rfl) ?_
      refine Ops.nil ?_
      refine Run.asrt ?_
      refine ⟨i + 1, v27, v33, b8, ⟨by omega, by omega⟩, ⟨rfl, rfl, rfl, rfl, rfl, trivial⟩, ?_⟩
      rw [orbTo_succ, List.map_append, List.flatMap_append, ints, List.map_append]
      exact Ext.take 0 rfl (Ext.take 3 rfl (Ext.take 3 rfl (Ext.take 3 rfl (Ext.nil _))))

set_option maxRecDepth 4000 in
/-- spec.l04All -/
theorem f_s_l04All (w : World) (p : Nat) (a : Int) (b : Int) (v : Value) (l : List Int) (hp : Rd w (boxS p) 3 1 [.int .i64 a, .int .i64 b, v]) (hv : Rd w v 1 l.length (ints l)) (hk : okP a b l = true) : Ret Try.prog 191 [.pointer (some ⟨p, 0, none⟩)] w (fun u L => ∃ x y us, u = .tuple #[x, y] ∧ L = [.row 2 1 y (segN a b) (ints (ownL a b l)), .row 134 1 x (cnt a b l) us]) := by
  have hs := okP_size hk
  obtain ⟨hs1, hs2, hs3, hs4⟩ := id hs
  have hsl := segN_le hs
  refine Ret.enter Try.func191 rfl Try.ntmps191 rfl ?_
  refine Run.seq ?_
  refine Run.region ?_
  refine Ops.pure rfl (Pure.assign rfl) ?_
  refine Ops.pure rfl (Pure.assign rfl) ?_
  refine Ops.nil ?_
  refine Run.seq ?_
  refine Any.start follows ?_
  refine Any.take 0 rfl (by kernel_rfl) rfl (QOp.pure (Pure.move rfl)) ?_
  refine Any.take 1 rfl (by kernel_rfl) rfl (QOp.pure (Pure.nilchk rfl)) ?_
  refine Any.take 2 rfl (by kernel_rfl) rfl (QOp.pure (Pure.fieldAddrB fld35_0 rfl)) ?_
  refine Any.take 3 rfl (by kernel_rfl) rfl (QOp.pure (Pure.ldP cell2 rfl (RdL.old hp) rfl)) ?_
  refine Any.take 4 rfl (by kernel_rfl) rfl (QOp.pure (Pure.mul rfl rfl (by omega) (by omega))) ?_
  refine Any.take 5 rfl (by kernel_rfl) rfl (QOp.pure (Pure.move rfl)) ?_
  refine Any.take 6 rfl (by kernel_rfl) rfl (QOp.pure (Pure.nilchk rfl)) ?_
  refine Any.take 7 rfl (by kernel_rfl) rfl (QOp.pure (Pure.fieldAddrB fld35_1 rfl)) ?_
  refine Any.take 8 rfl (by kernel_rfl) rfl (QOp.pure (Pure.ldP cell2 rfl (RdL.old hp) rfl)) ?_
  refine Any.take 9 rfl (by kernel_rfl) rfl (QOp.pure (Pure.mul rfl rfl (by omega) (by omega))) ?_
  refine Any.take 10 rfl (by kernel_rfl) rfl (QOp.pure (Pure.assign rfl)) ?_
  refine Any.done (by kernel_rfl) ?_
  refine Run.seq ?_
  refine Run.region ?_
  refine Ops.pure rfl (Pure.move rfl) ?_
  refine Ops.go rfl (Loud.makeI sl32 rfl rfl (by omega) (by omega) (by omega)) ?_
  rintro v23 _ rfl
  refine Ops.pure rfl (Pure.assign rfl) ?_
  refine Ops.nil ?_
  refine Run.seq ?_
  refine Run.seq ?_
  refine Run.region ?_
  refine Ops.pure rfl (Pure.assign rfl) ?_
  refine Ops.nil ?_
  refine Run.block ?_
  refine Run.loop (X := Nat) (fun k => [(0, .pointer (some ⟨p, 0, none⟩)), (4, .int .i64 (4 * a * b)), (5, v23), (6, .int .i64 k)]) (fun k => [.row 2 1 v23 (segN a b) (ints (initO (segN a b) k))]) (fun k => k ≤ segN a b) (fun k => segN a b - k) 0 ?_ ?_ ?_ ?_
  · exact Nat.zero_le _
  · exact ⟨rfl, rfl, rfl, rfl, trivial⟩
  · exact Ext.eq (by unfold initO; rw [Nat.sub_zero, show List.replicate 0 (-1 : Int) = [] from rfl, List.nil_append, ints_rep]; rw [made_one _ rfl]; rfl)
  · intro k hinv0
    have hil : (ints (initO (segN a b) k)).length = segN a b := by rw [ints, List.length_map]; exact length_initO hinv0
    refine Run.seq ?_
    refine Run.seq ?_
    refine Run.region ?_
    refine Ops.pure rfl (Pure.move rfl) ?_
    refine Ops.pure rfl (Pure.move rfl) ?_
    refine Ops.pure rfl (Pure.lss rfl rfl) ?_
    refine Ops.nil ?_
    refine Run.cond rfl (fun c26 => ?_) (fun c26 => ?_)
    · skip
      replace c26 := dT c26
      refine Run.skip ?_
      refine Run.seq ?_
      refine Run.block ?_
      refine Run.region ?_
      refine Ops.pure rfl (Pure.move rfl) ?_
      refine Ops.pure rfl (Pure.move rfl) ?_
      refine Ops.pure rfl (Pure.idx1N sl32 (RdL.own 0 rfl) rfl rfl (by first | assumption | omega | (simp; omega))) ?_
      refine Ops.store (Stores.row1 0 rfl size2 rfl rfl rfl (by first | assumption | omega | (simp; omega))) ?_
      refine Ops.nil ?_
      refine Run.blk ?_
      refine Run.region ?_
      refine Ops.pure rfl (Pure.move rfl) ?_
      refine Ops.pure rfl (Pure.add rfl rfl (by omega) (by omega)) ?_
      refine Ops.pure rfl (Pure.assign rfl) ?_
      refine Ops.nil ?_
      refine Run.asrt ?_
      exact ⟨k + 1, ⟨by omega, by omega⟩, ⟨rfl, rfl, rfl, rfl, trivial⟩, Ext.eq (by rw [← initO_step (by omega)]; rfl)⟩
    · skip
      replace c26 := dF c26
      refine Run.exit rfl ?_
      refine Run.seq ?_
      refine Run.region ?_
      refine Ops.go rfl (Loud.lit sl190 rfl rfl rfl (by simp [Value.oneCell'])) ?_
      rintro v32 _ rfl
      refine Ops.pure rfl (Pure.assign rfl) ?_
      refine Ops.nil ?_
      refine Run.seq ?_
      refine Run.seq ?_
      refine Run.region ?_
      refine Ops.pure rfl (Pure.assign rfl) ?_
      refine Ops.nil ?_
      refine Run.block ?_
      refine Run.loop3 (X := Nat) (Y := Value) (Z := List Value) (fun k vo us => [(0, .pointer (some ⟨p, 0, none⟩)), (4, .int .i64 (4 * a * b)), (5, v23), (7, vo), (8, .int .i64 k)]) (fun k vo us => [.row 2 1 v23 (segN a b) (ints ((tr a b l k).1)), .row 134 1 vo (tr a b l k).2.length us]) (fun k vo us => k ≤ segN a b) (fun k vo us => segN a b - k) 0 v32 [] ?_ ?_ ?_ ?_
      · exact Nat.zero_le _
      · exact ⟨rfl, rfl, rfl, rfl, rfl, trivial⟩
      · exact Ext.trans (Ext.eq (by rw [show k = segN a b by omega, initO_full]; rfl)) (Ext.take 1 rfl (Ext.take 0 rfl (Ext.nil _)))
      · intro k vo us hinv1
        refine Run.seq ?_
        refine Run.seq ?_

        refine Run.region ?_
        refine Ops.pure rfl (Pure.move rfl) ?_
        refine Ops.pure rfl (Pure.move rfl) ?_
        refine Ops.pure rfl (Pure.lss rfl rfl) ?_
        refine Ops.nil ?_
        refine Run.cond rfl (fun c35 => ?_) (fun c35 => ?_)
        · skip
          replace c35 := dT c35
          refine Run.skip ?_
          refine Run.seq ?_
          refine Run.block ?_
          refine Run.seq ?_
          refine Run.seq ?_
          have hTI := tr_TI (l := l) hs1 hs3 k (by omega)
          have hlo : (ints (tr a b l k).1).length = segN a b := by rw [ints, List.length_map]; exact hTI.len
          have hlo2 := hTI.len
          have hcn := hTI.cnt
          refine Run.region ?_
          refine Ops.pure rfl (Pure.move rfl) ?_
          refine Ops.pure rfl (Pure.move rfl) ?_
          refine Ops.pure rfl (Pure.idx1N sl32 (RdL.own 0 rfl) rfl rfl (by first | assumption | omega | (simp; omega))) ?_
          refine Ops.pure rfl (Pure.ld cell2 rfl (RdL.own 0 rfl) (by first | exact ints_get (by omega) | exact bools_get (by omega) | exact strs_get (by omega) | exact vals_get (by first | omega | (simp; omega)))) ?_
          refine Ops.pure rfl (Pure.geq rfl rfl) ?_
          refine Ops.nil ?_
          refine Run.cond rfl (fun c42 => ?_) (fun c42 => ?_)
          · skip
            replace c42 := dT c42
            refine Run.exit rfl ?_
            refine Run.region ?_
            refine Ops.pure rfl (Pure.move rfl) ?_
            refine Ops.pure rfl (Pure.add rfl rfl (by omega) (by omega)) ?_
            refine Ops.pure rfl (Pure.assign rfl) ?_
            refine Ops.nil ?_
            refine Run.asrt ?_
            first
              | exact ⟨k + 1, vo, us, ⟨by omega, by omega⟩, ⟨rfl, rfl, rfl, rfl, rfl, trivial⟩, Ext.eq (by rw [tr_keep c42])⟩
              | (refine ⟨k + 1, v68, us ++ [xp48], ⟨by omega, by omega⟩, ⟨rfl, rfl, rfl, rfl, rfl, trivial⟩, ?_⟩
                 rw [tr_add c42, orb_eq, ← hie]
                 exact Ext.take 3 rfl (Ext.take 3 (by rw [List.length_append]; rfl) (Ext.nil _)))
          · skip
            replace c42 := dF c42
            refine Run.skip ?_
            refine Run.seq ?_
            obtain ⟨hv0, -, -⟩ := VW_at (l := l) (K := k) hs (by omega) 0
            have hpr := per_at (l := l) hs (show VW a b (wkAt b k) from hv0)
            refine Run.region ?_
            refine Ops.pure rfl (Pure.move rfl) ?_
            refine Ops.pure rfl (Pure.move rfl) ?_
            refine Ops.pure rfl (Pure.move rfl) ?_
            refine Ops.q rfl (QOp.call fn209 rfl (fun w hw => f_s_l03Walker w _ _ _ _ _ (by exact RdL.old (by assumption) w hw) (by assumption) (by omega) (by omega))) ?_
            refine Ops.go rfl (Loud.callR fn220 rfl (fun w hw => f_s_l04Trace w p a b v l (wkAt b k) (RdL.old hp w hw) (RdL.old hv w hw) hk hv0)) ?_
            rintro v48 _ ⟨L48, hQ48, rfl⟩
            obtain ⟨xp48, xs48, rfl, rfl⟩ := hQ48
            refine Ops.pure rfl (Pure.move rfl) ?_
            refine Ops.pure rfl (Pure.extract rfl rfl) ?_
            refine Ops.pure rfl (Pure.extract rfl rfl) ?_
            refine Ops.pure rfl (Pure.assign rfl) ?_
            refine Ops.pure rfl (Pure.assign rfl) ?_
            refine Ops.nil ?_
            refine Run.seq ?_
            refine Run.seq ?_
            refine Run.region ?_
            refine Ops.pure rfl (Pure.assign rfl) ?_
            refine Ops.nil ?_
            refine Run.block ?_
            refine Run.loop (X := Nat) (fun i => [(0, .pointer (some ⟨p, 0, none⟩)), (4, .int .i64 (4 * a * b)), (5, v23), (7, vo), (8, .int .i64 k), (9, xp48), (10, xs48), (11, .int .i64 i)]) (fun i => [.row 2 1 xs48 (per a b l (wkAt b k)) (ints ((orb a b l (wkAt b k)).map (sg b))), .row 72 2 xp48 (per a b l (wkAt b k)) ((orb a b l (wkAt b k)).flatMap (fun q : Wk => encQ (q.1, q.2.1))), .row 2 1 v23 (segN a b) (ints (paint b (tr a b l k).2.length (tr a b l k).1 (orbTo a b l (wkAt b k) i))), .row 134 1 vo (tr a b l k).2.length us]) (fun i => i ≤ per a b l (wkAt b k)) (fun i => per a b l (wkAt b k) - i) 0 ?_ ?_ ?_ ?_
            · exact Nat.zero_le _
            · exact ⟨rfl, rfl, rfl, rfl, rfl, rfl, rfl, rfl, trivial⟩
            · exact Ext.refl _
            · intro i hinv2
              obtain ⟨hvi, hs0, hsN⟩ := VW_at (l := l) (K := k) hs (by omega) i
              have hpl : (ints (paint b (tr a b l k).2.length (tr a b l k).1 (orbTo a b l (wkAt b k) i))).length = segN a b := by rw [ints, List.length_map, length_paint]; exact hTI.len
              have hml : ((orb a b l (wkAt b k)).map (sg b)).length = per a b l (wkAt b k) := by rw [List.length_map, length_orb]
              have hmg : i < per a b l (wkAt b k) → ((orb a b l (wkAt b k)).map (sg b)).getD i 0 = sg b (itr (stp a b l) i (wkAt b k)) := fun h => by simp [orb, List.getD, h]
              refine Run.seq ?_
              refine Run.seq ?_
              refine Run.region ?_
              refine Ops.pure rfl (Pure.move rfl) ?_
              refine Ops.pure rfl (Pure.move rfl) ?_
              refine Ops.pure rfl (Pure.len sl32 (RdL.own 0 rfl) rfl) ?_
              refine Ops.pure rfl (Pure.lss rfl rfl) ?_
              refine Ops.nil ?_
              refine Run.cond rfl (fun c54 => ?_) (fun c54 => ?_)
              · skip
                replace c54 := dT c54
                refine Run.skip ?_
                refine Run.seq ?_
                refine Run.block ?_
                have hmg2 := hmg (by omega)
                refine Run.region ?_
                refine Ops.pure rfl (Pure.move rfl) ?_
                refine Ops.pure rfl (Pure.move rfl) ?_
                refine Ops.pure rfl (Pure.move rfl) ?_
                refine Ops.pure rfl (Pure.idx1N sl32 (RdL.own 0 rfl) rfl rfl (by first | assumption | omega | (simp; omega))) ?_
                refine Ops.pure rfl (Pure.ld cell2 rfl (RdL.own 0 rfl) (by first | exact ints_get (by omega) | exact bools_get (by omega) | exact strs_get (by omega) | exact vals_get (by first | omega | (simp; omega)))) ?_
                refine Ops.pure rfl (Pure.move rfl) ?_
                refine Ops.pure rfl (Pure.len sl190 (RdL.own 3 rfl) rfl) ?_
                refine Ops.pure rfl (Pure.idx1 sl32 (RdL.own 2 rfl) rfl rfl (by first | assumption | omega | (simp; omega)) (by first | assumption | omega | (simp; omega))) ?_
                refine Ops.store (Stores.row1 2 rfl size2 rfl rfl rfl (by first | assumption | omega | (simp; omega))) ?_
                refine Ops.nil ?_
                refine Run.blk ?_
                refine Run.region ?_
                refine Ops.pure rfl (Pure.move rfl) ?_
                refine Ops.pure rfl (Pure.add rfl rfl (by omega) (by omega)) ?_
                refine Ops.pure rfl (Pure.assign rfl) ?_
                refine Ops.nil ?_
                refine Run.asrt ?_
                refine ⟨i + 1, ⟨by omega, by omega⟩, ⟨rfl, rfl, rfl, rfl, rfl, rfl, rfl, rfl, trivial⟩, ?_⟩
                rw [orbTo_succ, paint_snoc, ← ints_setI, ← hmg2]
                exact Ext.refl _
              · skip
                replace c54 := dF c54
                refine Run.exit rfl ?_
                have hie : i = per a b l (wkAt b k) := by omega
                refine Run.have_ (fun w hw => row_one 1 hw rfl) (fun hvw => ?_)
                refine Run.region ?_
                refine Ops.pure rfl (Pure.move rfl) ?_
                refine Ops.pure rfl (Pure.move rfl) ?_
                refine Ops.go rfl (Loud.lit sl190 rfl rfl rfl (by simp [hvw])) ?_
                rintro v67 _ rfl
                refine Ops.go rfl (Loud.append 4 rfl sl190 rfl rfl (RdL.own 0 rfl) (by simp [hvw]) (by omega) (by omega)) ?_
                rintro v68 _ rfl
                refine Ops.pure rfl (Pure.assign rfl) ?_
                refine Ops.nil ?_
                refine Run.blk ?_
                refine Run.region ?_
                refine Ops.pure rfl (Pure.move rfl) ?_
                refine Ops.pure rfl (Pure.add rfl rfl (by omega) (by omega)) ?_
                refine Ops.pure rfl (Pure.assign rfl) ?_
                refine Ops.nil ?_
                refine Run.asrt ?_
                first
                  | exact ⟨k + 1, vo, us, ⟨by omega, by omega⟩, ⟨rfl, rfl, rfl, rfl, rfl, trivial⟩, Ext.eq (by rw [tr_keep c42])⟩
                  | (refine ⟨k + 1, v68, us ++ [xp48], ⟨by omega, by omega⟩, ⟨rfl, rfl, rfl, rfl, rfl, trivial⟩, ?_⟩
                     rw [tr_add c42, orb_eq, ← hie]
                     exact Ext.take 3 rfl (Ext.take 3 (by rw [List.length_append]; rfl) (Ext.nil _)))
        · skip
          replace c35 := dF c35
          refine Run.exit rfl ?_
          refine Run.seq ?_
          refine Run.region ?_
          refine Ops.pure rfl (Pure.move rfl) ?_
          refine Ops.pure rfl (Pure.move rfl) ?_
          refine Ops.pure rfl (Pure.assign rfl) ?_
          refine Ops.pure rfl (Pure.assign rfl) ?_
          refine Ops.nil ?_
          have e : k = segN a b := by omega
          subst e
          refine Run.ret2 rfl rfl rfl ?_
          exact ⟨_, _, us, rfl, rfl⟩

set_option maxRecDepth 4000 in
/-- spec.l04Count -/
theorem f_s_l04Count (w : World) (p : Nat) (a : Int) (b : Int) (v : Value) (l : List Int) (hp : Rd w (boxS p) 3 1 [.int .i64 a, .int .i64 b, v]) (hv : Rd w v 1 l.length (ints l)) (hk : okP a b l = true) : RetV Try.prog 122 [.pointer (some ⟨p, 0, none⟩)] w (.int .i64 (cnt a b l : Int)) := by
  refine Ret.enter Try.func122 rfl Try.ntmps122 rfl ?_
  refine Run.seq ?_
  refine Run.region ?_
  refine Ops.pure rfl (Pure.assign rfl) ?_
  refine Ops.nil ?_
  refine Run.seq ?_
  refine Run.region ?_
  refine Ops.pure rfl (Pure.move rfl) ?_
  refine Ops.go rfl (Loud.callR fn191 rfl (fun w hw => f_s_l04All w _ _ _ _ _ (by exact RdL.old (by assumption) w hw) (by exact RdL.old (by assumption) w hw) (by assumption))) ?_
  rintro v7 _ ⟨L7, hQ7, rfl⟩
  obtain ⟨x7, y7, us7, rfl, rfl⟩ := hQ7
  refine Ops.pure rfl (Pure.move rfl) ?_
  refine Ops.pure rfl (Pure.extract rfl rfl) ?_
  refine Ops.pure rfl (Pure.extract rfl rfl) ?_
  refine Ops.pure rfl (Pure.assign rfl) ?_
  refine Ops.pure rfl (Pure.assign rfl) ?_
  refine Ops.nil ?_
  refine Run.seq ?_
  refine Run.region ?_
  refine Ops.pure rfl (Pure.move rfl) ?_
  refine Ops.pure rfl (Pure.len sl190 (RdL.own 1 rfl) rfl) ?_
  refine Ops.pure rfl (Pure.assign rfl) ?_
  refine Ops.nil ?_
  refine Run.ret1 rfl rfl ?_
  rfl

end Go.Proofs.Ytmfinopdokkjcaa
