/- Contracts of functions, printed by program from annotations. -/
import Derived.Test.YtmfinopdokkjcaaRdCM
namespace Go.Proofs.Ytmfinopdokkjcaa
open Go Go.AW Go.RowKit
set_option linter.unusedVariables false
set_option linter.unusedSimpArgs false

theorem inner_app {us : List Value} {cs : List (List Int)} {u : Value} {ns : List Int} (h : us.length = cs.length) : inner (us ++ [u]) (cs ++ [ns]) = inner us cs ++ [.row 2 1 u ns.length (ints ns)] := by
  unfold inner
  rw [List.zipWith_append h]
  rfl
theorem Ext.snoc1 (x r : Ent) (I : List Ent) : Ext (I ++ [r]) (x :: r :: I) := ⟨[x], by
  rw [List.append_assoc]
  show (I ++ [r, x]).Perm (x :: r :: I)
  refine List.perm_append_comm.trans ?_
  exact List.Perm.swap x r I⟩
/-- What a call gives that returns a code of its own and whether there is one. -/
def retSB (ms : List (List Int)) (f : Bool) : Value → List Ent → Prop := fun u L => ∃ x us, us.length = ms.length ∧ u = .tuple #[x, .bool f] ∧ L = ssE x us ms
theorem retSB_nil {f : Bool} {ms : List (List Int)} (h : ms = []) : retSB ms f (.tuple #[.slice none 0 0, .bool f]) [.row 32 1 (.slice none 0 0) 0 []] := by
  subst h
  exact ⟨_, [], rfl, rfl, rfl⟩

set_option maxRecDepth 4000 in
set_option maxHeartbeats 800000 in
/-- impl.ReadCode -/
theorem f_i_ReadCode (w : World) (s : ByteArray) (hs : s.size ≤ 1048576) : Ret Try.prog 25 [.string s] w (retSB (rcL s) (rcB s)) := by
  refine Ret.enter Try.func25 rfl Try.ntmps25 rfl ?_
  refine Run.seq ?_
  refine Run.region ?_
  refine Ops.pure rfl (Pure.assign rfl) ?_
  refine Ops.pure rfl (Pure.assign rfl) ?_
  refine Ops.nil ?_
  refine Run.seq ?_
  refine Run.seq ?_
  refine Run.region ?_
  refine Ops.pure rfl (Pure.move rfl) ?_
  refine Ops.pure rfl (Pure.eqlS rfl rfl) ?_
  refine Ops.nil ?_
  refine Run.setv 14 rfl (congrArg Value.bool (eqS_iff _ _)) ?_
  refine Run.cond rfl (fun c14 => ?_) (fun c14 => ?_)
  · skip
    replace c14 := dT c14
    refine Run.seq ?_
    refine Run.region ?_
    refine Ops.pure rfl (Pure.assign rfl) ?_
    refine Ops.pure rfl (Pure.assign rfl) ?_
    refine Ops.nil ?_
    refine Run.addNil 32 1 ?_
    refine Run.ext_ (Ext.take 0 rfl (Ext.nil _)) ?_
    refine Run.ret2 rfl rfl rfl ?_
    have h0 := rcL_yes (rcO_none c14) validB_nil
    rw [h0.1, h0.2]
    exact ⟨_, [], rfl, rfl, rfl⟩
  · skip
    replace c14 := dF c14
    refine Run.skip ?_
    refine Run.seq ?_
    refine Run.region ?_
    refine Ops.go rfl (Loud.lit sl24 rfl rfl rfl (by simp [Value.oneCell'])) ?_
    rintro v15 _ rfl
    refine Ops.pure rfl (Pure.assign rfl) ?_
    refine Ops.pure rfl (Pure.assign rfl) ?_
    refine Ops.nil ?_
    refine Run.seq ?_
    refine Run.seq ?_
    refine Run.region ?_
    refine Ops.pure rfl (Pure.move rfl) ?_
    refine Ops.go rfl (Loud.callR fn102 rfl (fun w hw => f_i_splitAt w _ _ (by assumption))) ?_
    rintro v17 _ ⟨L17, hQ17, rfl⟩
    subst hQ17
    refine Ops.pure rfl (Pure.len sl58 (RdL.own 0 rfl) rfl) ?_
    refine Ops.pure rfl (Pure.move rfl) ?_
    refine Ops.nil ?_
    refine Run.block ?_
    refine Run.loop4 (X := Nat) (Y := Value) (Z := List Value) (V := List (List Int)) (fun k vo us cs => [(0, .string s), (4, vo), (5, .int .i64 (tot cs : Int)), (17, v17), (18, .int .i64 (splitB s 59).length), (19, .int .i64 k)]) (fun k vo us cs => .row 9 1 v17 (splitB s 59).length (strs (splitB s 59)) :: ssE vo us cs) (fun k vo us cs => k ≤ (splitB s 59).length ∧ us.length = cs.length ∧ cs.length = k ∧ parC (splitB s 59) k = some cs ∧ tot cs ≤ 240 ∧ k ≤ 40) (fun k vo us cs => (splitB s 59).length - k) 0 v15 [] [] ?_ ?_ ?_ ?_
    · exact ⟨Nat.zero_le _, rfl, rfl, parC_zero _, by simp [tot], Nat.zero_le _⟩
    · exact ⟨rfl, rfl, rfl, rfl, rfl, rfl, trivial⟩
    · exact Ext.refl _
    · intro k vo us cs hinv0
      have hsl := splitB_len s 59
      have hpz := fun (h : k < (splitB s 59).length) => splitB_at h
      refine Run.seq ?_
      refine Run.region ?_
      refine Ops.pure rfl (Pure.lss rfl rfl) ?_
      refine Ops.nil ?_
      refine Run.seq ?_
      refine Run.cond rfl (fun c20 => ?_) (fun c20 => ?_)
      · skip
        replace c20 := dT c20
        refine Run.skip ?_
        refine Run.seq ?_
        refine Run.block ?_
        refine Run.seq ?_
        have hpk := hpz (by omega)
        refine Run.region ?_
        refine Ops.pure rfl (Pure.idx1N sl58 (RdL.own 0 rfl) rfl rfl (by first | assumption | omega | (simp; omega))) ?_
        refine Ops.pure rfl (Pure.ld cell9 rfl (RdL.own 0 rfl) (by first | exact ints_get (by omega) | exact bools_get (by omega) | exact strs_get (by omega) | exact vals_get (by first | omega | (simp; omega)))) ?_
        refine Ops.pure rfl (Pure.assign rfl) ?_
        refine Ops.nil ?_
        refine Run.seq ?_
        refine Run.region ?_
        refine Ops.go rfl (Loud.lit sl32 rfl rfl rfl (by simp [Value.oneCell'])) ?_
        rintro v23 _ rfl
        refine Ops.pure rfl (Pure.assign rfl) ?_
        refine Ops.nil ?_
        refine Run.seq ?_
        refine Run.seq ?_
        refine Run.region ?_
        refine Ops.pure rfl (Pure.move rfl) ?_
        refine Ops.pure rfl (Pure.neqS rfl rfl) ?_
        refine Ops.nil ?_
        refine Run.setv 25 rfl (congrArg (fun x => Value.bool (!x)) (eqS_iff _ _)) ?_
        refine Run.cond rfl (fun c25 => ?_) (fun c25 => ?_)
        · skip
          replace c25 := nT c25
          refine Run.seq ?_
          refine Run.region ?_
          refine Ops.pure rfl (Pure.move rfl) ?_
          refine Ops.go rfl (Loud.callR fn102 rfl (fun w hw => f_i_splitAt w _ _ (Nat.le_trans hpk hs))) ?_
          rintro v27 _ ⟨L27, hQ27, rfl⟩
          subst hQ27
          refine Ops.pure rfl (Pure.len sl58 (RdL.own 0 rfl) rfl) ?_
          refine Ops.pure rfl (Pure.move rfl) ?_
          refine Ops.nil ?_
          refine Run.block ?_
          refine Run.loop3 (X := Nat) (Y := Value) (Z := List Int) (fun j vc ns => [(0, .string s), (4, vo), (5, .int .i64 ((tot cs + ns.length : Nat) : Int)), (8, vc), (17, v17), (18, .int .i64 (splitB s 59).length), (19, .int .i64 k), (27, v27), (28, .int .i64 (splitB ((splitB s 59).getD k ByteArray.empty) 32).length), (29, .int .i64 j)]) (fun j vc ns => .row 9 1 v27 (splitB ((splitB s 59).getD k ByteArray.empty) 32).length (strs (splitB ((splitB s 59).getD k ByteArray.empty) 32)) :: .row 2 1 vc ns.length (ints ns) :: .row 9 1 v17 (splitB s 59).length (strs (splitB s 59)) :: ssE vo us cs) (fun j vc ns => j ≤ (splitB ((splitB s 59).getD k ByteArray.empty) 32).length ∧ ns.length = j ∧ parN (splitB ((splitB s 59).getD k ByteArray.empty) 32) j = some ns ∧ tot cs + ns.length ≤ 240) (fun j vc ns => (splitB ((splitB s 59).getD k ByteArray.empty) 32).length - j) 0 v23 [] ?_ ?_ ?_ ?_
          · exact ⟨Nat.zero_le _, rfl, parN_zero _, by simpa using hinv0.2.2.2.2.1⟩
          · exact ⟨rfl, rfl, rfl, rfl, rfl, rfl, rfl, rfl, rfl, rfl, trivial⟩
          · exact Ext.refl _
          · intro j vc ns hinv1
            have hwl := splitB_len ((splitB s 59).getD k ByteArray.empty) 32
            have hwz := fun (h : j < (splitB ((splitB s 59).getD k ByteArray.empty) 32).length) => splitB_at h
            refine Run.seq ?_
            refine Run.region ?_
            refine Ops.pure rfl (Pure.lss rfl rfl) ?_
            refine Ops.nil ?_
            refine Run.seq ?_
            refine Run.cond rfl (fun c30 => ?_) (fun c30 => ?_)
            · skip
              replace c30 := dT c30
              refine Run.skip ?_
              refine Run.seq ?_
              refine Run.block ?_
              refine Run.seq ?_
              have hwk := hwz (by omega)
              refine Run.region ?_
              refine Ops.pure rfl (Pure.idx1N sl58 (RdL.own 0 rfl) rfl rfl (by first | assumption | omega | (simp; omega))) ?_
              refine Ops.pure rfl (Pure.ld cell9 rfl (RdL.own 0 rfl) (by first | exact ints_get (by omega) | exact bools_get (by omega) | exact strs_get (by omega) | exact vals_get (by first | omega | (simp; omega)))) ?_
              refine Ops.pure rfl (Pure.assign rfl) ?_
              refine Ops.nil ?_
              refine Run.seq ?_
              refine Run.region ?_
              refine Ops.pure rfl (Pure.move rfl) ?_
              refine Ops.q rfl (QOp.call fn103 rfl (fun w hw => f_i_ReadDecimal w _ (Nat.le_trans hwk (Nat.le_trans hpk hs)))) ?_
              refine Ops.pure rfl (Pure.move rfl) ?_
              refine Ops.pure rfl (Pure.extract rfl rfl) ?_
              refine Ops.pure rfl (Pure.extract rfl rfl) ?_
              refine Ops.pure rfl (Pure.assign rfl) ?_
              refine Ops.pure rfl (Pure.assign rfl) ?_
              refine Ops.nil ?_
              refine Run.seq ?_
              refine Run.seq ?_
              refine Run.region ?_
              refine Ops.pure rfl (Pure.move rfl) ?_
              refine Ops.pure rfl (Pure.add rfl rfl (by omega) (by omega)) ?_
              refine Ops.pure rfl (Pure.assign rfl) ?_
              refine Ops.nil ?_
              refine Run.seq ?_
              refine Run.region ?_
              refine Ops.pure rfl (Pure.move rfl) ?_
              refine Ops.pure rfl (Pure.not rfl) ?_
              refine Ops.pure rfl (Pure.move rfl) ?_
              refine Ops.guard rfl rfl rfl rfl (fun c42 => ?_) (fun c42 => ?_)
              · skip
                have c42' := bF c42
                refine Ops.pure rfl (Pure.move rfl) ?_
                refine Ops.guardY rfl rfl rfl c42 ?_
                refine Ops.pure rfl (Pure.gtr rfl rfl) ?_
                refine Ops.pure rfl (Pure.pickF rfl c42 rfl) ?_
                refine Ops.nil ?_
                refine Run.cond rfl (fun c45 => ?_) (fun c45 => ?_)
                · skip
                  replace c45 := dT c45
                  refine Run.seq ?_
                  refine Run.region ?_
                  refine Ops.pure rfl (Pure.assign rfl) ?_
                  refine Ops.pure rfl (Pure.assign rfl) ?_
                  refine Ops.nil ?_
                  refine Run.addNil 32 1 ?_
                  refine Run.ext_ (Ext.take 0 rfl (Ext.nil _)) ?_
                  refine Run.ret2 rfl rfl rfl ?_
                  have hno : rcB s = false := by
                    first
                      | exact rc_stop (k := k) c14 (by omega) (nums_stop (j := j) c25 (by omega) c42')
                      | exact rc_many (k := k) c14 (by omega) hinv0.2.2.2.1 c25 (j := j + 1) (by omega) (parN_yes hinv1.2.2.1 c42') (by rw [List.length_append]; show 240 < tot cs + (ns.length + 1); omega)
                  rw [hno, rcL_no hno]
                  exact ⟨_, [], rfl, rfl, rfl⟩
                · skip
                  replace c45 := dF c45
                  refine Run.skip ?_
                  refine Run.region ?_
                  refine Ops.pure rfl (Pure.move rfl) ?_
                  refine Ops.pure rfl (Pure.move rfl) ?_
                  refine Ops.go rfl (Loud.lit sl32 rfl rfl rfl (by simp [Value.oneCell'])) ?_
                  rintro v48 _ rfl
                  refine Ops.go rfl (Loud.append 2 rfl sl32 rfl rfl (RdL.own 0 rfl) (by simp [Value.oneCell']) (by omega) (by omega)) ?_
                  rintro v49 _ rfl
                  refine Ops.pure rfl (Pure.assign rfl) ?_
                  refine Ops.nil ?_
                  refine Run.blk ?_
                  refine Run.region ?_
                  refine Ops.pure rfl (Pure.add rfl rfl (by omega) (by omega)) ?_
                  refine Ops.pure rfl (Pure.move rfl) ?_
                  refine Ops.nil ?_
                  refine Run.asrt ?_
                  refine ⟨j + 1, v49, ns ++ [rdN ((splitB ((splitB s 59).getD k ByteArray.empty) 32).getD j ByteArray.empty)], ⟨⟨by omega, by rw [List.length_append, hinv1.2.1]; rfl, parN_yes hinv1.2.2.1 c42', by rw [List.length_append]; show tot cs + (ns.length + 1) ≤ 240; omega⟩, by omega⟩, ⟨rfl, rfl, by rw [List.length_append]; rfl, rfl, rfl, rfl, rfl, rfl, rfl, rfl, trivial⟩, Ext.trans (Ext.eq ?_) (Ext.take 1 rfl (Ext.take 1 rfl (Ext.right [_] _)))⟩
                  rw [ints, List.map_append, List.length_append]
                  rfl
              · skip
                replace c42 := Bool.eq_true_of_ne c42
                have c42' := bT c42
                refine Ops.guardN rfl rfl rfl rfl (by rw [c42]; decide) ?_
                refine Ops.pure rfl (Pure.pickT rfl c42 rfl) ?_
                refine Ops.nil ?_
                refine Run.condE rfl rfl ?_
                refine Run.seq ?_
                refine Run.region ?_
                refine Ops.pure rfl (Pure.assign rfl) ?_
                refine Ops.pure rfl (Pure.assign rfl) ?_
                refine Ops.nil ?_
                refine Run.addNil 32 1 ?_
                refine Run.ext_ (Ext.take 0 rfl (Ext.nil _)) ?_
                refine Run.ret2 rfl rfl rfl ?_
                have hno : rcB s = false := by
                  first
                    | exact rc_stop (k := k) c14 (by omega) (nums_stop (j := j) c25 (by omega) c42')
                    | exact rc_many (k := k) c14 (by omega) hinv0.2.2.2.1 c25 (j := j + 1) (by omega) (parN_yes hinv1.2.2.1 c42') (by rw [List.length_append]; show 240 < tot cs + (ns.length + 1); omega)
                rw [hno, rcL_no hno]
                exact ⟨_, [], rfl, rfl, rfl⟩
            · skip
              replace c30 := dF c30
              refine Run.exit rfl ?_
              refine Run.seq ?_
              first
                | (refine Run.ext_ (L' := .row 2 1 vc ns.length (ints ns) :: .row 9 1 v17 (splitB s 59).length (strs (splitB s 59)) :: ssE vo us cs) (Ext.right [_] _) ?_
                   have hnum : numsE ((splitB s 59).getD k ByteArray.empty) = some ns := by rw [numsE_w c25, ← hinv1.2.2.1]; congr 1; omega)
                | skip
              refine Run.have_ (fun w hw => row_one 0 hw rfl) (fun hvw => ?_)
              refine Run.region ?_
              refine Ops.pure rfl (Pure.move rfl) ?_
              refine Ops.pure rfl (Pure.move rfl) ?_
              refine Ops.go rfl (Loud.lit sl24 rfl rfl rfl (by simp [hvw])) ?_
              rintro v53 _ rfl
              refine Ops.go rfl (Loud.append 3 rfl sl24 rfl rfl (RdL.own 0 rfl) (by simp [hvw]) (by omega) (by omega)) ?_
              rintro v54 _ rfl
              refine Ops.pure rfl (Pure.assign rfl) ?_
              refine Ops.nil ?_
              refine Run.seq ?_
              refine Run.region ?_
              refine Ops.pure rfl (Pure.move rfl) ?_
              refine Ops.pure rfl (Pure.len sl24 (RdL.own 3 rfl) rfl) ?_
              refine Ops.pure rfl (Pure.gtr rfl rfl) ?_
              refine Ops.nil ?_
              refine Run.cond rfl (fun c57 => ?_) (fun c57 => ?_)
              · skip
                replace c57 := dT c57
                refine Run.seq ?_
                refine Run.region ?_
                refine Ops.pure rfl (Pure.assign rfl) ?_
                refine Ops.pure rfl (Pure.assign rfl) ?_
                refine Ops.nil ?_
                refine Run.addNil 32 1 ?_
                refine Run.ext_ (Ext.take 0 rfl (Ext.nil _)) ?_
                refine Run.ret2 rfl rfl rfl ?_
                have hno : rcB s = false := rc_long c14 (k := k) (by omega) (by omega)
                rw [hno, rcL_no hno]
                exact ⟨_, [], rfl, rfl, rfl⟩
              · skip
                replace c57 := dF c57
                refine Run.skip ?_
                refine Run.blk ?_
                refine Run.region ?_
                refine Ops.pure rfl (Pure.add rfl rfl (by omega) (by omega)) ?_
                refine Ops.pure rfl (Pure.move rfl) ?_
                refine Ops.nil ?_
                refine Run.asrt ?_
                first
                  | (refine ⟨k + 1, v54, us ++ [v23], cs ++ [[]], ⟨⟨by omega, by rw [List.length_append, List.length_append, hinv0.2.1]; rfl, by rw [List.length_append, hinv0.2.2.1]; rfl, parC_yes hinv0.2.2.2.1 (numsE_o c25), by rw [tot_app, tot_one]; exact hinv0.2.2.2.2.1, by omega⟩, by omega⟩, ⟨rfl, rfl, by rw [tot_app, tot_one]; rfl, rfl, rfl, rfl, trivial⟩, ?_⟩
                     unfold ssE
                     rw [inner_app hinv0.2.1, List.length_append]
                     exact Ext.take 2 rfl (Ext.take 2 rfl (Ext.snoc1 _ _ _)))
                  | (refine ⟨k + 1, v54, us ++ [vc], cs ++ [ns], ⟨⟨by omega, by rw [List.length_append, List.length_append, hinv0.2.1]; rfl, by rw [List.length_append, hinv0.2.2.1]; rfl, parC_yes hinv0.2.2.2.1 hnum, by rw [tot_app, tot_one]; exact hinv1.2.2.2, by omega⟩, by omega⟩, ⟨rfl, rfl, by rw [tot_app, tot_one]; rfl, rfl, rfl, rfl, trivial⟩, ?_⟩
                     unfold ssE
                     rw [inner_app hinv0.2.1, List.length_append]
                     exact Ext.take 2 rfl (Ext.take 2 rfl (Ext.snoc1 _ _ _)))
        · skip
          replace c25 := nF c25
          refine Run.skip ?_
          refine Run.seq ?_
          first
            | (refine Run.ext_ (L' := .row 2 1 vc ns.length (ints ns) :: .row 9 1 v17 (splitB s 59).length (strs (splitB s 59)) :: ssE vo us cs) (Ext.right [_] _) ?_
               have hnum : numsE ((splitB s 59).getD k ByteArray.empty) = some ns := by rw [numsE_w c25, ← hinv1.2.2.1]; congr 1; omega)
            | skip
          refine Run.have_ (fun w hw => row_one 0 hw rfl) (fun hvw => ?_)
          refine Run.region ?_
          refine Ops.pure rfl (Pure.move rfl) ?_
          refine Ops.pure rfl (Pure.move rfl) ?_
          refine Ops.go rfl (Loud.lit sl24 rfl rfl rfl (by simp [hvw])) ?_
          rintro v53 _ rfl
          refine Ops.go rfl (Loud.append 3 rfl sl24 rfl rfl (RdL.own 0 rfl) (by simp [hvw]) (by omega) (by omega)) ?_
          rintro v54 _ rfl
          refine Ops.pure rfl (Pure.assign rfl) ?_
          refine Ops.nil ?_
          refine Run.seq ?_
          refine Run.region ?_
          refine Ops.pure rfl (Pure.move rfl) ?_
          refine Ops.pure rfl (Pure.len sl24 (RdL.own 3 rfl) rfl) ?_
          refine Ops.pure rfl (Pure.gtr rfl rfl) ?_
          refine Ops.nil ?_
          refine Run.cond rfl (fun c57 => ?_) (fun c57 => ?_)
          · skip
            replace c57 := dT c57
            refine Run.seq ?_
            refine Run.region ?_
            refine Ops.pure rfl (Pure.assign rfl) ?_
            refine Ops.pure rfl (Pure.assign rfl) ?_
            refine Ops.nil ?_
            refine Run.addNil 32 1 ?_
            refine Run.ext_ (Ext.take 0 rfl (Ext.nil _)) ?_
            refine Run.ret2 rfl rfl rfl ?_
            have hno : rcB s = false := rc_long c14 (k := k) (by omega) (by omega)
            rw [hno, rcL_no hno]
            exact ⟨_, [], rfl, rfl, rfl⟩
          · skip
            replace c57 := dF c57
            refine Run.skip ?_
            refine Run.blk ?_
            refine Run.region ?_
            refine Ops.pure rfl (Pure.add rfl rfl (by omega) (by omega)) ?_
            refine Ops.pure rfl (Pure.move rfl) ?_
            refine Ops.nil ?_
            refine Run.asrt ?_
            first
              | (refine ⟨k + 1, v54, us ++ [v23], cs ++ [[]], ⟨⟨by omega, by rw [List.length_append, List.length_append, hinv0.2.1]; rfl, by rw [List.length_append, hinv0.2.2.1]; rfl, parC_yes hinv0.2.2.2.1 (numsE_o c25), by rw [tot_app, tot_one]; exact hinv0.2.2.2.2.1, by omega⟩, by omega⟩, ⟨rfl, rfl, by rw [tot_app, tot_one]; rfl, rfl, rfl, rfl, trivial⟩, ?_⟩
                 unfold ssE
                 rw [inner_app hinv0.2.1, List.length_append]
                 exact Ext.take 2 rfl (Ext.take 2 rfl (Ext.snoc1 _ _ _)))
              | (refine ⟨k + 1, v54, us ++ [vc], cs ++ [ns], ⟨⟨by omega, by rw [List.length_append, List.length_append, hinv0.2.1]; rfl, by rw [List.length_append, hinv0.2.2.1]; rfl, parC_yes hinv0.2.2.2.1 hnum, by rw [tot_app, tot_one]; exact hinv1.2.2.2, by omega⟩, by omega⟩, ⟨rfl, rfl, by rw [tot_app, tot_one]; rfl, rfl, rfl, rfl, trivial⟩, ?_⟩
                 unfold ssE
                 rw [inner_app hinv0.2.1, List.length_append]
                 exact Ext.take 2 rfl (Ext.take 2 rfl (Ext.snoc1 _ _ _)))
      · skip
        replace c20 := dF c20
        refine Run.exit rfl ?_
        refine Run.seq ?_
        refine Run.seq ?_
        have hro : rcO s = some cs := by rw [rcO_par c14, ← hinv0.2.2.2.1]; congr 1; omega
        refine Run.region ?_
        refine Ops.pure rfl (Pure.move rfl) ?_
        refine Ops.q rfl (QOp.call fn23 rfl (fun w hw => f_i_ValidCode w _ cs (RdSS.own hw hinv0.2.1 (Ext.right [_] _)) (by omega))) ?_
        refine Ops.pure rfl (Pure.not rfl) ?_
        refine Ops.pure rfl (Pure.move rfl) ?_
        refine Ops.guard rfl rfl rfl rfl (fun c62 => ?_) (fun c62 => ?_)
        · skip
          have c62' := bF c62
          refine Ops.pure rfl (Pure.move rfl) ?_
          refine Ops.guardY rfl rfl rfl c62 ?_
          refine Ops.q rfl (QOp.call fn26 rfl (fun w hw => f_i_CodeText w _ cs (RdSS.own hw hinv0.2.1 (Ext.right [_] _)) (by omega))) ?_
          refine Ops.guardY rfl rfl rfl c62 ?_
          refine Ops.pure rfl (Pure.move rfl) ?_
          refine Ops.guardY rfl rfl rfl c62 ?_
          refine Ops.pure rfl (Pure.neqS rfl rfl) ?_
          first
            | refine Ops.setv 66 rfl (congrArg (fun x => Value.bool (!x)) (eqS_iff _ _)) ?_
            | skip
          refine Ops.pure rfl (Pure.pickF rfl c62 rfl) ?_
          refine Ops.nil ?_
          refine Run.cond rfl (fun c67 => ?_) (fun c67 => ?_)
          · skip
            replace c67 := nT c67
            refine Run.seq ?_
            refine Run.region ?_
            refine Ops.pure rfl (Pure.assign rfl) ?_
            refine Ops.pure rfl (Pure.assign rfl) ?_
            refine Ops.nil ?_
            refine Run.addNil 32 1 ?_
            refine Run.ext_ (Ext.take 0 rfl (Ext.nil _)) ?_
            refine Run.ret2 rfl rfl rfl ?_
            have hno : rcB s = false := by
              rw [rcB_some hro]
              first
                | exact c62'
                | exact absurd (rc_text c14 hro c62') c67
            rw [hno, rcL_no hno]
            exact ⟨_, [], rfl, rfl, rfl⟩
          · skip
            replace c67 := nF c67
            refine Run.skip ?_
            refine Run.seq ?_
            refine Run.region ?_
            refine Ops.pure rfl (Pure.move rfl) ?_
            refine Ops.pure rfl (Pure.assign rfl) ?_
            refine Ops.pure rfl (Pure.assign rfl) ?_
            refine Ops.nil ?_
            refine Run.ext_ (Ext.right [_] _) ?_
            refine Run.ret2 rfl rfl rfl ?_
            have h0 := rcL_yes hro c62'
            rw [h0.1, h0.2]
            exact ⟨_, us, hinv0.2.1, rfl, rfl⟩
        · skip
          replace c62 := Bool.eq_true_of_ne c62
          have c62' := bT c62
          refine Ops.guardN rfl rfl rfl rfl (by rw [c62]; decide) ?_
          refine Ops.guardN rfl rfl rfl rfl (by rw [c62]; decide) ?_
          refine Ops.guardN rfl rfl rfl rfl (by rw [c62]; decide) ?_
          first
            | refine Ops.setv 66 rfl (congrArg (fun x => Value.bool (!x)) (eqS_iff _ _)) ?_
            | skip
          refine Ops.pure rfl (Pure.pickT rfl c62 rfl) ?_
          refine Ops.nil ?_
          refine Run.condE rfl rfl ?_
          refine Run.seq ?_
          refine Run.region ?_
          refine Ops.pure rfl (Pure.assign rfl) ?_
          refine Ops.pure rfl (Pure.assign rfl) ?_
          refine Ops.nil ?_
          refine Run.addNil 32 1 ?_
          refine Run.ext_ (Ext.take 0 rfl (Ext.nil _)) ?_
          refine Run.ret2 rfl rfl rfl ?_
          have hno : rcB s = false := by
            rw [rcB_some hro]
            first
              | exact c62'
              | exact absurd (rc_text c14 hro c62') c67
          rw [hno, rcL_no hno]
          exact ⟨_, [], rfl, rfl, rfl⟩

end Go.Proofs.Ytmfinopdokkjcaa
