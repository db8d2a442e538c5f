/- Contracts of functions, printed by program from annotations. -/
import Derived.Test.YtmfinopdokkjcaaTab
import Derived.Test.YtmfinopdokkjcaaPtL
namespace Go.Proofs.Ytmfinopdokkjcaa
open Go Go.AW Go.RowKit
set_option linter.unusedVariables false
set_option linter.unusedSimpArgs false

/-- the number of the mirrors, up to place k -/
def mrN (l : List Int) (k : Nat) : Nat := k - (zeros l k).length
theorem mrN_yes {l : List Int} {k : Nat} (h : l.getD k 0 = 0) : mrN l (k + 1) = mrN l k := by
  have := length_zeros l k
  unfold mrN; rw [zeros_yes h, List.length_append]; show k + 1 - (_ + 1) = _; omega
theorem mrN_no {l : List Int} {k : Nat} (h : ¬ l.getD k 0 = 0) : mrN l (k + 1) = mrN l k + 1 := by
  have := length_zeros l k
  unfold mrN; rw [zeros_no h]; omega
abbrev mrP (a b : Int) (m : Nat) : Nat := mrN (pdig m (inn a b)) (pdig m (inn a b)).length
theorem mrP_le (a b : Int) (m : Nat) : mrP a b m ≤ inn a b := by
  have := length_pdig m (inn a b)
  unfold mrP mrN; omega
/-- how many panels with each number of mirrors have one curve, among the first m -/
def mtTo (a b : Int) : Nat → List Int
  | 0 => List.replicate (inn a b + 1) 0
  | m + 1 => if cntN a b m = 1 then (mtTo a b m).set (mrP a b m) ((mtTo a b m).getD (mrP a b m) 0 + 1) else mtTo a b m
theorem mtTo_yes {a b : Int} {m : Nat} (h : cntN a b m = 1) : mtTo a b (m + 1) = (mtTo a b m).set (mrP a b m) ((mtTo a b m).getD (mrP a b m) 0 + 1) := if_pos h
theorem mtTo_no {a b : Int} {m : Nat} (h : ¬ cntN a b m = 1) : mtTo a b (m + 1) = mtTo a b m := if_neg h
theorem length_mt (a b : Int) : ∀ m, (mtTo a b m).length = inn a b + 1
  | 0 => List.length_replicate ..
  | m + 1 => by
    have ih := length_mt a b m
    by_cases h : cntN a b m = 1
    · rw [mtTo_yes h, List.length_set]; exact ih
    · rw [mtTo_no h]; exact ih
theorem mt_mem (a b : Int) : ∀ (m : Nat) (x : Int), x ∈ mtTo a b m → 0 ≤ x ∧ x ≤ m
  | 0, x, h => by
    have : x = 0 := List.eq_of_mem_replicate h
    omega
  | m + 1, x, h => by
    have ih := mt_mem a b m
    by_cases hc : cntN a b m = 1
    · rw [mtTo_yes hc] at h
      rcases List.mem_or_eq_of_mem_set h with h | rfl
      · have := ih x h; omega
      · have h1 := mrP_le a b m
        have h2 := length_mt a b m
        have := ih _ (mem_of_getD (l := mtTo a b m) (k := mrP a b m) (by omega) rfl)
        omega
    · rw [mtTo_no hc] at h
      have := ih x h; omega
theorem mt_at (a b : Int) (m : Nat) : 0 ≤ (mtTo a b m).getD (mrP a b m) 0 ∧ (mtTo a b m).getD (mrP a b m) 0 ≤ m := by
  have h1 := mrP_le a b m
  have h2 := length_mt a b m
  exact mt_mem a b m _ (mem_of_getD (by omega) rfl)
def mtE (a b : Int) : List Int := if pcE a b = 0 then mtTo a b (many a b) else []
theorem mtE_bad {a b : Int} (h : ¬ pcE a b = 0) : mtE a b = [] := by unfold mtE; rw [if_neg h]
theorem mtE_ok {a b : Int} (h : pcE a b = 0) : mtE a b = mtTo a b (many a b) := by unfold mtE; rw [if_pos h]
theorem mtE_size (a b : Int) : (mtE a b).length ≤ 113 := by
  by_cases h : pcE a b = 0
  · rw [mtE_ok h, length_mt]
    have := inn_eq (pc_zero h).1
    omega
  · rw [mtE_bad h]; simp
theorem length_zerosE (l : List Int) : (zeros l l.length).length ≤ l.length := length_zeros l l.length

set_option maxRecDepth 4000 in
/-- (impl.Panel).crossings -/
theorem f_i_Panel_crossings (w : World) (a : Int) (b : Int) (v : Value) (l : List Int) (hv : Rd w v 1 l.length (ints l)) (hk : okP a b l = true) : Ret Try.prog 127 [.agg #[.int .i64 a, .int .i64 b, v]] w (fun u L => ∃ ps : List (Int × Int), ps.length = (zeros l l.length).length ∧ L = [.row 72 2 u (ps).length (pnts (ps))]) := by
  have hs := okP_size hk
  have hli := okP_inn hk
  have hib := (inn_eq hs).2.1
  have hpl := length_pnL a (inn a b)
  refine Ret.enter Try.func127 rfl Try.ntmps127 rfl ?_
  refine Run.seq ?_
  refine Run.region ?_
  refine Ops.go rfl (Loud.box rfl rfl) ?_
  rintro _ _ ⟨b1, rfl, rfl⟩
  refine Ops.pure rfl (Pure.assign rfl) ?_
  refine Ops.nil ?_
  refine Run.seq ?_
  refine Run.region ?_
  refine Ops.go rfl (Loud.lit0 sl134) ?_
  rintro v6 _ rfl
  refine Ops.pure rfl (Pure.assign rfl) ?_
  refine Ops.nil ?_
  refine Run.seq ?_
  refine Run.seq ?_
  refine Run.region ?_
  refine Ops.pure rfl (Pure.ldBA 1 rfl cell35 rfl rfl rfl) ?_
  refine Ops.go rfl (Loud.callR fn192 rfl (fun w hw => f_i_Panel_points w a b v l hs)) ?_
  rintro v8 _ ⟨L8, hQ8, rfl⟩
  subst hQ8
  refine Ops.pure rfl (Pure.len sl134 (RdL.own 0 rfl) rfl) ?_
  refine Ops.pure rfl (Pure.move rfl) ?_
  refine Ops.nil ?_
  refine Run.block ?_
  refine Run.loop3 (X := Nat) (Y := Value) (Z := List (Int × Int)) (fun k vo ps => [(1, .pointer (some ⟨b1, 0, none⟩)), (3, vo), (8, v8), (9, .int .i64 (inn a b : Int)), (10, .int .i64 k)]) (fun k vo ps => [.row 72 2 vo (ps).length (pnts (ps)), .row 72 2 v8 (inn a b) (pnts (pnL a (inn a b))), .box b1 35 [.int .i64 a, .int .i64 b, v]]) (fun k vo ps => k ≤ inn a b ∧ ps.length = (zeros l k).length) (fun k vo ps => inn a b - k) 0 v6 [] ?_ ?_ ?_ ?_
  · exact ⟨Nat.zero_le _, rfl⟩
  · exact ⟨rfl, rfl, rfl, rfl, rfl, trivial⟩
  · exact Ext.take 1 rfl (Ext.take 0 rfl (Ext.take 0 rfl (Ext.nil _)))
  · rintro k vo ps ⟨hki, hpk⟩
    have hzk := length_zeros l k
    refine Run.seq ?_
    refine Run.region ?_
    refine Ops.pure rfl (Pure.lss rfl rfl) ?_
    refine Ops.nil ?_
    refine Run.seq ?_
    refine Run.cond rfl (fun c11 => ?_) (fun c11 => ?_)
    · skip
      replace c11 := dT c11
      refine Run.skip ?_
      refine Run.seq ?_
      refine Run.block ?_
      refine Run.seq ?_
      refine Run.region ?_
      refine Ops.pure rfl (Pure.move rfl) ?_
      refine Ops.pure rfl (Pure.idxN sl134 (RdL.own 1 rfl) rfl rfl (by first | assumption | omega | (simp; omega))) ?_
      refine Ops.pure rfl (Pure.ldA cell72 rfl (RdL.own 1 rfl) (seg_get encQ_len (by omega) (0, 0)) rfl (by decide)) ?_
      refine Ops.go rfl (Loud.alloc zero72 rfl) ?_
      rintro _ _ ⟨b5, rfl, rfl⟩
      refine Ops.pure rfl (Pure.assign rfl) ?_
      refine Ops.store (Stores.box 0 rfl rfl rfl size72 (allOne rfl) rfl rfl) ?_
      refine Ops.nil ?_
      refine Run.seq ?_
      refine Run.region ?_
      refine Ops.pure rfl (Pure.fieldAddrB fld35_2 rfl) ?_
      refine Ops.pure rfl (Pure.ldB 3 rfl cell32 rfl rfl) ?_
      refine Ops.pure rfl (Pure.move rfl) ?_
      refine Ops.pure rfl (Pure.idx1N sl32 (RdL.old hv) rfl rfl (by first | assumption | omega | (simp; omega))) ?_
      refine Ops.pure rfl (Pure.ld cell2 rfl (RdL.old hv) (by first | exact ints_get (by omega) | exact bools_get (by omega) | exact strs_get (by omega) | exact vals_get (by first | omega | (simp; omega)))) ?_
      refine Ops.pure rfl (Pure.eql rfl rfl) ?_
      refine Ops.nil ?_
      refine Run.cond rfl (fun c20 => ?_) (fun c20 => ?_)
      · skip
        replace c20 := dT c20
        refine Run.region ?_
        refine Ops.pure rfl (Pure.move rfl) ?_
        refine Ops.pure rfl (Pure.ldBA 0 rfl cell72 rfl rfl rfl) ?_
        refine Ops.go rfl (Loud.litA sl134 rfl rfl rfl) ?_
        rintro v23 _ rfl
        refine Ops.go rfl (Loud.append 2 rfl sl134 rfl rfl (RdL.own 0 rfl) (by intro u hu; simp [over, Value.cells] at hu; rcases hu with rfl | rfl <;> rfl) (by omega) (by omega)) ?_
        rintro v24 _ rfl
        refine Ops.pure rfl (Pure.assign rfl) ?_
        refine Ops.nil ?_
        refine Run.blk ?_
        refine Run.region ?_
        refine Ops.pure rfl (Pure.add rfl rfl (by omega) (by omega)) ?_
        refine Ops.pure rfl (Pure.move rfl) ?_
        refine Ops.nil ?_
        refine Run.asrt ?_
        first
          | (refine ⟨k + 1, v24, ps ++ [(pnL a (inn a b)).getD k (0, 0)], ⟨⟨by omega, by rw [zeros_yes c20, List.length_append, List.length_append, hpk]; rfl⟩, by omega⟩, ⟨rfl, rfl, rfl, rfl, rfl, trivial⟩, Ext.trans (Ext.eq ?_) (Ext.take 2 rfl (Ext.take 2 rfl (Ext.take 2 rfl (Ext.nil _))))⟩
             rw [pnts_append, List.length_append]
             rfl)
          | (refine ⟨k + 1, vo, ps, ⟨⟨by omega, by rw [zeros_no c20]; exact hpk⟩, by omega⟩, ⟨rfl, rfl, rfl, rfl, rfl, trivial⟩, Ext.right [_] _⟩)
      · skip
        replace c20 := dF c20
        refine Run.skip ?_
        refine Run.blk ?_
        refine Run.region ?_
        refine Ops.pure rfl (Pure.add rfl rfl (by omega) (by omega)) ?_
        refine Ops.pure rfl (Pure.move rfl) ?_
        refine Ops.nil ?_
        refine Run.asrt ?_
        first
          | (refine ⟨k + 1, v24, ps ++ [(pnL a (inn a b)).getD k (0, 0)], ⟨⟨by omega, by rw [zeros_yes c20, List.length_append, List.length_append, hpk]; rfl⟩, by omega⟩, ⟨rfl, rfl, rfl, rfl, rfl, trivial⟩, Ext.trans (Ext.eq ?_) (Ext.take 2 rfl (Ext.take 2 rfl (Ext.take 2 rfl (Ext.nil _))))⟩
             rw [pnts_append, List.length_append]
             rfl)
          | (refine ⟨k + 1, vo, ps, ⟨⟨by omega, by rw [zeros_no c20]; exact hpk⟩, by omega⟩, ⟨rfl, rfl, rfl, rfl, rfl, trivial⟩, Ext.right [_] _⟩)
    · skip
      replace c11 := dF c11
      refine Run.exit rfl ?_
      refine Run.seq ?_
      refine Run.region ?_
      refine Ops.pure rfl (Pure.move rfl) ?_
      refine Ops.pure rfl (Pure.assign rfl) ?_
      refine Ops.nil ?_
      have e : k = l.length := by omega
      subst e
      refine Run.ext_ (Ext.take 0 rfl (Ext.nil _)) ?_
      refine Run.ret1 rfl rfl ?_
      exact ⟨ps, hpk, rfl⟩

set_option maxRecDepth 4000 in
/-- spec.l12Mirrors -/
theorem f_s_l12Mirrors (w : World) (p : Nat) (a : Int) (b : Int) (v : Value) (l : List Int) (hp : Rd w (boxS p) 3 1 [.int .i64 a, .int .i64 b, v]) (hv : Rd w v 1 l.length (ints l)) (hl : l.length ≤ 1073741824) : RetV Try.prog 129 [.pointer (some ⟨p, 0, none⟩)] w (.int .i64 (mrN l l.length : Int)) := by
  refine Ret.enter Try.func129 rfl Try.ntmps129 rfl ?_
  refine Run.seq ?_
  refine Run.region ?_
  refine Ops.pure rfl (Pure.assign rfl) ?_
  refine Ops.nil ?_
  refine Run.seq ?_
  refine Run.region ?_
  refine Ops.pure rfl (Pure.assign rfl) ?_
  refine Ops.nil ?_
  refine Run.seq ?_
  refine Run.seq ?_
  refine Run.region ?_
  refine Ops.pure rfl (Pure.assign rfl) ?_
  refine Ops.nil ?_
  refine Run.block ?_
  refine Run.loop (X := Nat) (fun k => [(0, .pointer (some ⟨p, 0, none⟩)), (3, .int .i64 (mrN l k : Int)), (4, .int .i64 k)]) (fun k => []) (fun k => k ≤ l.length) (fun k => l.length - k) 0 ?_ ?_ ?_ ?_
  · exact Nat.zero_le _
  · exact ⟨rfl, rfl, rfl, trivial⟩
  · exact Ext.nil _
  · intro k hinv0
    have hmk : mrN l k ≤ k := by unfold mrN; omega
    refine Run.seq ?_
    refine Run.seq ?_
    refine Run.region ?_
    refine Ops.pure rfl (Pure.move rfl) ?_
    refine Ops.pure rfl (Pure.move rfl) ?_
    refine Ops.pure rfl (Pure.nilchk rfl) ?_
    refine Ops.pure rfl (Pure.fieldAddrB fld35_2 rfl) ?_
    refine Ops.pure rfl (Pure.ldP cell32 rfl (RdL.old hp) rfl) ?_
    refine Ops.pure rfl (Pure.len sl32 (RdL.old hv) rfl) ?_
    refine Ops.pure rfl (Pure.lss rfl rfl) ?_
    refine Ops.nil ?_
    refine Run.cond rfl (fun c11 => ?_) (fun c11 => ?_)
    · skip
      replace c11 := dT c11
      refine Run.skip ?_
      refine Run.seq ?_
      refine Run.block ?_
      refine Run.seq ?_
      refine Run.region ?_
      refine Ops.pure rfl (Pure.move rfl) ?_
      refine Ops.pure rfl (Pure.nilchk rfl) ?_
      refine Ops.pure rfl (Pure.fieldAddrB fld35_2 rfl) ?_
      refine Ops.pure rfl (Pure.ldP cell32 rfl (RdL.old hp) rfl) ?_
      refine Ops.pure rfl (Pure.move rfl) ?_
      refine Ops.pure rfl (Pure.idx1N sl32 (RdL.old hv) rfl rfl (by first | assumption | omega | (simp; omega))) ?_
      refine Ops.pure rfl (Pure.ld cell2 rfl (RdL.old hv) (by first | exact ints_get (by omega) | exact bools_get (by omega) | exact strs_get (by omega) | exact vals_get (by first | omega | (simp; omega)))) ?_
      refine Ops.pure rfl (Pure.neq rfl rfl) ?_
      refine Ops.nil ?_
      refine Run.cond rfl (fun c21 => ?_) (fun c21 => ?_)
      · skip
        replace c21 := nT c21
        refine Run.region ?_
        refine Ops.pure rfl (Pure.move rfl) ?_
        refine Ops.pure rfl (Pure.add rfl rfl (by omega) (by omega)) ?_
        refine Ops.pure rfl (Pure.assign rfl) ?_
        refine Ops.nil ?_
        refine Run.blk ?_
        refine Run.region ?_
        refine Ops.pure rfl (Pure.move rfl) ?_
        refine Ops.pure rfl (Pure.add rfl rfl (by omega) (by omega)) ?_
        refine Ops.pure rfl (Pure.assign rfl) ?_
        refine Ops.nil ?_
        refine Run.asrt ?_
        first
          | exact ⟨k + 1, ⟨by omega, by omega⟩, ⟨rfl, congrArg (fun x => some (Value.int .i64 x)) (by rw [mrN_no c21]; omega), rfl, trivial⟩, Ext.nil _⟩
          | exact ⟨k + 1, ⟨by omega, by omega⟩, ⟨rfl, congrArg (fun x => some (Value.int .i64 x)) (by rw [mrN_yes c21]), rfl, trivial⟩, Ext.nil _⟩
      · skip
        replace c21 := nF c21
        refine Run.skip ?_
        refine Run.blk ?_
        refine Run.region ?_
        refine Ops.pure rfl (Pure.move rfl) ?_
        refine Ops.pure rfl (Pure.add rfl rfl (by omega) (by omega)) ?_
        refine Ops.pure rfl (Pure.assign rfl) ?_
        refine Ops.nil ?_
        refine Run.asrt ?_
        first
          | exact ⟨k + 1, ⟨by omega, by omega⟩, ⟨rfl, congrArg (fun x => some (Value.int .i64 x)) (by rw [mrN_no c21]; omega), rfl, trivial⟩, Ext.nil _⟩
          | exact ⟨k + 1, ⟨by omega, by omega⟩, ⟨rfl, congrArg (fun x => some (Value.int .i64 x)) (by rw [mrN_yes c21]), rfl, trivial⟩, Ext.nil _⟩
    · skip
      replace c11 := dF c11
      refine Run.exit rfl ?_
      refine Run.seq ?_
      refine Run.region ?_
      refine Ops.pure rfl (Pure.move rfl) ?_
      refine Ops.pure rfl (Pure.assign rfl) ?_
      refine Ops.nil ?_
      refine Run.ret1 rfl rfl ?_
      have e : k = l.length := by omega
      subst e
      rfl

set_option maxRecDepth 4000 in
set_option maxHeartbeats 800000 in
/-- impl.MirrorTable -/
theorem f_i_MirrorTable (w : World) (a : Int) (b : Int) (a0 : -9223372036854775808 ≤ a) (a1 : a ≤ 9223372036854775807) (b0 : -9223372036854775808 ≤ b) (b1 : b ≤ 9223372036854775807) : Ret Try.prog 49 [.int .i64 a, .int .i64 b] w (retI (mtE a b) (pcE a b)) := by
  refine Ret.enter Try.func49 rfl Try.ntmps49 rfl ?_
  refine Run.seq ?_
  refine Run.region ?_
  refine Ops.pure rfl (Pure.assign rfl) ?_
  refine Ops.pure rfl (Pure.assign rfl) ?_
  refine Ops.nil ?_
  refine Run.seq ?_
  refine Run.region ?_
  refine Ops.pure rfl (Pure.move rfl) ?_
  refine Ops.pure rfl (Pure.move rfl) ?_
  refine Ops.q rfl (QOp.call fn111 rfl (fun w hw => f_i_panelCount w _ _ (by assumption) (by assumption) (by assumption) (by assumption))) ?_
  refine Ops.pure rfl (Pure.move rfl) ?_
  refine Ops.pure rfl (Pure.extract rfl rfl) ?_
  refine Ops.pure rfl (Pure.extract rfl rfl) ?_
  refine Ops.pure rfl (Pure.assign rfl) ?_
  refine Ops.pure rfl (Pure.assign rfl) ?_
  refine Ops.nil ?_
  refine Run.seq ?_
  refine Run.seq ?_
  refine Run.region ?_
  refine Ops.pure rfl (Pure.move rfl) ?_
  refine Ops.pure rfl (Pure.neq rfl rfl) ?_
  refine Ops.nil ?_
  refine Run.cond rfl (fun c18 => ?_) (fun c18 => ?_)
  · skip
    replace c18 := nT c18
    refine Run.seq ?_
    refine Run.region ?_
    refine Ops.pure rfl (Pure.move rfl) ?_
    refine Ops.pure rfl (Pure.assign rfl) ?_
    refine Ops.pure rfl (Pure.assign rfl) ?_
    refine Ops.nil ?_
    refine Run.addNil 2 1 ?_
    refine Run.ext_ (Ext.take 0 rfl (Ext.nil _)) ?_
    refine Run.ret2 rfl rfl rfl ?_
    exact retI_nil (mtE_bad c18)
  · skip
    replace c18 := nF c18
    obtain ⟨hs, hmm, hpn⟩ := pc_zero c18
    have hmp := many_pos a b
    obtain ⟨hs1, hs2, hs3, hs4⟩ := id hs
    have hib := (inn_eq hs).2.1
    refine Run.skip ?_
    refine Run.seq ?_
    rw [hpn]
    refine Run.region ?_
    refine Ops.pure rfl (Pure.move rfl) ?_
    refine Ops.pure rfl (Pure.move rfl) ?_
    refine Ops.q rfl (QOp.call fn126 rfl (fun w hw => f_i_innerPoints w _ _ (by assumption))) ?_
    refine Ops.pure rfl (Pure.add rfl rfl (by omega) (by omega)) ?_
    refine Ops.go rfl (Loud.makeI sl32 rfl rfl (by omega) (by omega) (by omega)) ?_
    rintro v24 _ rfl
    refine Ops.pure rfl (Pure.assign rfl) ?_
    refine Ops.nil ?_
    refine Run.seq ?_
    refine Run.seq ?_
    refine Run.region ?_
    refine Ops.pure rfl (Pure.move rfl) ?_
    refine Ops.pure rfl (Pure.move rfl) ?_
    refine Ops.nil ?_
    refine Run.block ?_
    refine Run.loop (X := Nat) (fun k => [(0, .int .i64 a), (1, .int .i64 b), (8, v24), (25, .int .i64 (many a b : Int)), (26, .int .i64 k)]) (fun k => [.row 2 1 v24 (inn a b + 1) (ints (mtTo a b k))]) (fun k => k ≤ many a b) (fun k => many a b - k) 0 ?_ ?_ ?_ ?_
    · exact Nat.zero_le _
    · exact ⟨rfl, rfl, rfl, rfl, rfl, trivial⟩
    · exact Ext.eq (by rw [show mtTo a b 0 = List.replicate (inn a b + 1) 0 from rfl, ints_rep]; first | (rw [made_one _ rfl]; rfl) | (rw [made_one _ rfl]; try rfl; congr 1; omega))
    · intro k hinv0
      have hcb := cntN_bd hs k
      have hma := mt_at a b k
      have hml := length_mt a b k
      have hmr := mrP_le a b k
      have hml2 : (ints (mtTo a b k)).length = inn a b + 1 := by rw [ints, List.length_map]; exact hml
      have hpl := length_pdig k (inn a b)
      refine Run.seq ?_
      refine Run.region ?_
      refine Ops.pure rfl (Pure.lss rfl rfl) ?_
      refine Ops.nil ?_
      refine Run.seq ?_
      refine Run.cond rfl (fun c27 => ?_) (fun c27 => ?_)
      · skip
        replace c27 := dT c27
        refine Run.skip ?_
        refine Run.seq ?_
        refine Run.block ?_
        refine Run.seq ?_
        refine Run.region ?_
        refine Ops.pure rfl (Pure.move rfl) ?_
        refine Ops.pure rfl (Pure.assign rfl) ?_
        refine Ops.nil ?_
        refine Run.seq ?_
        refine Run.region ?_
        refine Ops.pure rfl (Pure.move rfl) ?_
        refine Ops.pure rfl (Pure.move rfl) ?_
        refine Ops.pure rfl (Pure.move rfl) ?_
        refine Ops.go rfl (Loud.callR fn114 rfl (fun w hw => f_i_panelWith w _ _ _ (by assumption) (by omega))) ?_
        rintro v32 _ ⟨L32, hQ32, rfl⟩
        obtain ⟨x32, h32, rfl, rfl⟩ := hQ32
        refine Ops.go rfl (Loud.alloc zero35 rfl) ?_
        rintro _ _ ⟨b10, rfl, rfl⟩
        refine Ops.store (Stores.box 0 rfl rfl rfl size35 (one3 h32) rfl rfl) ?_
        refine Ops.nil ?_
        refine Run.seq ?_
        refine Run.region ?_
        refine Ops.pure rfl (Pure.ldBA 0 rfl cell35 rfl rfl rfl) ?_
        refine Ops.q rfl (QOp.call fn121 rfl (fun w hw => f_i_countCurves w a b x32 (pdig k (inn a b)) (by rw [length_pdig]; exact RdL.own 1 rfl w hw) (okP_pdig hs k))) ?_
        refine Ops.pure rfl (Pure.eql rfl rfl) ?_
        refine Ops.nil ?_
        refine Run.cond rfl (fun c35 => ?_) (fun c35 => ?_)
        · skip
          replace c35 := dT c35
          refine Any.start follows ?_
          refine Any.take 0 rfl (by kernel_rfl) rfl (QOp.pure (Pure.move rfl)) ?_
          refine Any.take 1 rfl (by kernel_rfl) rfl (QOp.pure (Pure.fieldAddrB fld35_2 rfl)) ?_
          refine Any.take 2 rfl (by kernel_rfl) rfl (QOp.pure (Pure.ldB 0 rfl cell32 rfl rfl)) ?_
          refine Any.take 3 rfl (by kernel_rfl) rfl (QOp.pure (Pure.len sl32 (RdL.own 1 rfl) rfl)) ?_
          refine Any.take 4 rfl (by kernel_rfl) rfl (QOp.pure (Pure.ldBA 0 rfl cell35 rfl rfl rfl)) ?_
          refine Any.one 5 (by kernel_rfl) ?_
          refine OneL.loud rfl rfl (Loud.callR fn127 rfl (fun w hw => f_i_Panel_crossings w a b x32 (pdig k (inn a b)) (by rw [length_pdig]; exact RdL.own 1 rfl w hw) (okP_pdig hs k))) ?_
          rintro v41 _ ⟨L41, hQ41, rfl⟩
          obtain ⟨ps41, hps41, rfl⟩ := hQ41
          have hzz := length_zerosE (pdig k (inn a b))
          have hmq : ((inn a b : Int) - (ps41.length : Int)).toNat = mrP a b k := by unfold mrP mrN; omega
          have hma2 := hma
          rw [← hmq] at hma2
          refine ⟨.inr (by first | exact Ext.right _ _ | exact Ext.right [_] _ | exact Ext.refl _), ?_⟩
          refine Any.take 6 rfl (by kernel_rfl) rfl (QOp.pure (Pure.len sl134 (RdL.own 0 rfl) rfl)) ?_
          refine Any.take 7 rfl (by kernel_rfl) rfl (QOp.pure (Pure.sub rfl rfl (by omega) (by omega))) ?_
          refine Any.take 8 rfl (by kernel_rfl) rfl (QOp.pure (Pure.idx1 sl32 (RdL.own 3 rfl) rfl rfl (by first | assumption | omega | (simp; omega)) (by first | assumption | omega | (simp; omega)))) ?_
          refine Any.take 9 rfl (by kernel_rfl) rfl (QOp.pure (Pure.ld cell2 rfl (RdL.own 3 rfl) (by first | exact ints_get (by omega) | exact bools_get (by omega) | exact strs_get (by omega) | exact vals_get (by first | omega | (simp; omega))))) ?_
          refine Any.take 10 rfl (by kernel_rfl) rfl (QOp.pure (Pure.add rfl rfl (by omega) (by omega))) ?_
          refine Any.take 11 rfl (by kernel_rfl) rfl (QOp.pure (Pure.idx1 sl32 (RdL.own 3 rfl) rfl rfl (by first | assumption | omega | (simp; omega)) (by first | assumption | omega | (simp; omega)))) ?_
          refine Any.one 12 (by kernel_rfl) ?_
          refine OneL.store rfl (Stores.row1 3 rfl size2 rfl rfl rfl (by first | assumption | omega | (simp; omega))) (by kernel_rfl) ?_
          refine Any.done (by kernel_rfl) ?_
          refine Run.blk ?_
          refine Run.region ?_
          refine Ops.pure rfl (Pure.add rfl rfl (by omega) (by omega)) ?_
          refine Ops.pure rfl (Pure.move rfl) ?_
          refine Ops.nil ?_
          refine Run.asrt ?_
          by_cases hc1 : cnt a b (pdig k (inn a b)) = 1
          · first
              | (exfalso; omega)
              | (refine ⟨k + 1, ⟨by omega, by omega⟩, ⟨rfl, rfl, rfl, rfl, rfl, trivial⟩, Ext.trans (Ext.eq ?_) (Ext.take 3 rfl (Ext.nil _))⟩
                 rw [mtTo_yes hc1, ← hmq, ints, List.map_set]
                 try rfl)
          · first
              | (exfalso; omega)
              | (refine ⟨k + 1, ⟨by omega, by omega⟩, ⟨rfl, rfl, rfl, rfl, rfl, trivial⟩, Ext.trans (Ext.eq ?_) (Ext.take 2 rfl (Ext.nil _))⟩
                 rw [mtTo_no hc1])
        · skip
          replace c35 := dF c35
          refine Run.skip ?_
          refine Run.blk ?_
          refine Run.region ?_
          refine Ops.pure rfl (Pure.add rfl rfl (by omega) (by omega)) ?_
          refine Ops.pure rfl (Pure.move rfl) ?_
          refine Ops.nil ?_
          refine Run.asrt ?_
          by_cases hc1 : cnt a b (pdig k (inn a b)) = 1
          · first
              | (exfalso; omega)
              | (refine ⟨k + 1, ⟨by omega, by omega⟩, ⟨rfl, rfl, rfl, rfl, rfl, trivial⟩, Ext.trans (Ext.eq ?_) (Ext.take 3 rfl (Ext.nil _))⟩
                 rw [mtTo_yes hc1, ← hmq, ints, List.map_set]
                 try rfl)
          · first
              | (exfalso; omega)
              | (refine ⟨k + 1, ⟨by omega, by omega⟩, ⟨rfl, rfl, rfl, rfl, rfl, trivial⟩, Ext.trans (Ext.eq ?_) (Ext.take 2 rfl (Ext.nil _))⟩
                 rw [mtTo_no hc1])
      · skip
        replace c27 := dF c27
        refine Run.exit rfl ?_
        refine Run.seq ?_
        refine Run.region ?_
        refine Ops.pure rfl (Pure.move rfl) ?_
        refine Ops.pure rfl (Pure.assign rfl) ?_
        refine Ops.pure rfl (Pure.assign rfl) ?_
        refine Ops.nil ?_
        refine Run.ret2 rfl rfl rfl ?_
        have e : k = many a b := by omega
        subst e
        rw [mtE_ok c18, c18]
        exact ⟨_, rfl, by rw [length_mt]⟩

set_option maxRecDepth 4000 in
set_option maxHeartbeats 800000 in
/-- spec.MirrorTable -/
theorem f_s_MirrorTable (w : World) (a : Int) (b : Int) (a0 : -9223372036854775808 ≤ a) (a1 : a ≤ 9223372036854775807) (b0 : -9223372036854775808 ≤ b) (b1 : b ≤ 9223372036854775807) : Ret Try.prog 50 [.int .i64 a, .int .i64 b] w (retI (mtE a b) (pcE a b)) := by
  refine Ret.enter Try.func50 rfl Try.ntmps50 rfl ?_
  refine Run.seq ?_
  refine Run.region ?_
  refine Ops.pure rfl (Pure.assign rfl) ?_
  refine Ops.pure rfl (Pure.assign rfl) ?_
  refine Ops.nil ?_
  refine Run.seq ?_
  refine Run.region ?_
  refine Ops.pure rfl (Pure.move rfl) ?_
  refine Ops.pure rfl (Pure.move rfl) ?_
  refine Ops.q rfl (QOp.call fn107 rfl (fun w hw => f_s_l12Code w _ _ (by assumption) (by assumption) (by assumption) (by assumption))) ?_
  refine Ops.pure rfl (Pure.assign rfl) ?_
  refine Ops.nil ?_
  refine Run.seq ?_
  refine Run.seq ?_
  refine Run.region ?_
  refine Ops.pure rfl (Pure.move rfl) ?_
  refine Ops.pure rfl (Pure.neq rfl rfl) ?_
  refine Ops.nil ?_
  refine Run.cond rfl (fun c14 => ?_) (fun c14 => ?_)
  · skip
    replace c14 := nT c14
    refine Run.seq ?_
    refine Run.region ?_
    refine Ops.pure rfl (Pure.move rfl) ?_
    refine Ops.pure rfl (Pure.assign rfl) ?_
    refine Ops.pure rfl (Pure.assign rfl) ?_
    refine Ops.nil ?_
    refine Run.addNil 2 1 ?_
    refine Run.ext_ (Ext.take 0 rfl (Ext.nil _)) ?_
    refine Run.ret2 rfl rfl rfl ?_
    exact retI_nil (mtE_bad c14)
  · skip
    replace c14 := nF c14
    obtain ⟨hs, hmm, hpn⟩ := pc_zero c14
    have hmp := many_pos a b
    obtain ⟨hs1, hs2, hs3, hs4⟩ := id hs
    have hib := (inn_eq hs).2.1
    refine Run.skip ?_
    refine Run.seq ?_
    refine Run.region ?_
    refine Ops.pure rfl (Pure.move rfl) ?_
    refine Ops.pure rfl (Pure.move rfl) ?_
    refine Ops.q rfl (QOp.call fn128 rfl (fun w hw => f_s_l02Inner w _ _ (by assumption))) ?_
    refine Ops.pure rfl (Pure.add rfl rfl (by omega) (by omega)) ?_
    refine Ops.go rfl (Loud.makeI sl32 rfl rfl (by omega) (by omega) (by omega)) ?_
    rintro v20 _ rfl
    refine Ops.pure rfl (Pure.assign rfl) ?_
    refine Ops.nil ?_
    refine Run.seq ?_
    refine Run.seq ?_
    refine Run.region ?_
    refine Ops.pure rfl (Pure.assign rfl) ?_
    refine Ops.nil ?_
    refine Run.block ?_
    refine Run.loop (X := Nat) (fun k => [(0, .int .i64 a), (1, .int .i64 b), (7, v20), (8, .int .i64 k)]) (fun k => [.row 2 1 v20 (inn a b + 1) (ints (mtTo a b k))]) (fun k => k ≤ many a b) (fun k => many a b - k) 0 ?_ ?_ ?_ ?_
    · exact Nat.zero_le _
    · exact ⟨rfl, rfl, rfl, rfl, trivial⟩
    · exact Ext.eq (by rw [show mtTo a b 0 = List.replicate (inn a b + 1) 0 from rfl, ints_rep]; first | (rw [made_one _ rfl]; rfl) | (rw [made_one _ rfl]; try rfl; congr 1; omega))
    · intro k hinv0
      have hcb := cntN_bd hs k
      have hma := mt_at a b k
      have hml := length_mt a b k
      have hmr := mrP_le a b k
      have hml2 : (ints (mtTo a b k)).length = inn a b + 1 := by rw [ints, List.length_map]; exact hml
      have hpl := length_pdig k (inn a b)
      refine Run.seq ?_
      refine Run.seq ?_
      refine Run.region ?_
      refine Ops.pure rfl (Pure.move rfl) ?_
      refine Ops.pure rfl (Pure.move rfl) ?_
      refine Ops.pure rfl (Pure.move rfl) ?_
      refine Ops.q rfl (QOp.call fn108 rfl (fun w hw => f_s_l12Many w _ _ (by assumption))) ?_
      refine Ops.pure rfl (Pure.lss rfl rfl) ?_
      refine Ops.nil ?_
      refine Run.cond rfl (fun c25 => ?_) (fun c25 => ?_)
      · skip
        replace c25 := dT c25
        refine Run.skip ?_
        refine Run.seq ?_
        refine Run.block ?_
        refine Run.seq ?_
        refine Run.region ?_
        refine Ops.pure rfl (Pure.move rfl) ?_
        refine Ops.pure rfl (Pure.move rfl) ?_
        refine Ops.pure rfl (Pure.move rfl) ?_
        refine Ops.go rfl (Loud.callR fn109 rfl (fun w hw => f_s_l12At w _ _ _ (by assumption) (by omega))) ?_
        rintro v31 _ ⟨L31, hQ31, rfl⟩
        obtain ⟨x31, h31, rfl, rfl⟩ := hQ31
        refine Ops.go rfl (Loud.alloc zero35 rfl) ?_
        rintro _ _ ⟨b9, rfl, rfl⟩
        refine Ops.store (Stores.box 0 rfl rfl rfl size35 (one3 h31) rfl rfl) ?_
        refine Ops.nil ?_
        refine Run.seq ?_
        refine Run.region ?_
        refine Ops.q rfl (QOp.call fn122 rfl (fun w hw => f_s_l04Count w _ a b x31 (pdig k (inn a b)) (RdL.boxM 0 rfl rfl w hw) (by rw [length_pdig]; exact RdL.own 1 rfl w hw) (okP_pdig hs k))) ?_
        refine Ops.pure rfl (Pure.eql rfl rfl) ?_
        refine Ops.nil ?_
        refine Run.cond rfl (fun c33 => ?_) (fun c33 => ?_)
        · skip
          replace c33 := dT c33
          refine Run.region ?_
          refine Ops.pure rfl (Pure.move rfl) ?_
          refine Ops.q rfl (QOp.call fn129 rfl (fun w hw => (f_s_l12Mirrors w _ a b x31 (pdig k (inn a b)) (RdL.boxM 0 rfl rfl w hw) (by rw [length_pdig]; exact RdL.own 1 rfl w hw) (by omega)).cong (show _ = Value.int .i64 ((mrP a b k : Nat) : Int) from rfl))) ?_
          refine Ops.pure rfl (Pure.idx1N sl32 (RdL.own 2 rfl) rfl rfl (by first | assumption | omega | (simp; omega))) ?_
          refine Ops.pure rfl (Pure.ld cell2 rfl (RdL.own 2 rfl) (by first | exact ints_get (by omega) | exact bools_get (by omega) | exact strs_get (by omega) | exact vals_get (by first | omega | (simp; omega)))) ?_
          refine Ops.pure rfl (Pure.add rfl rfl (by omega) (by omega)) ?_
          refine Ops.pure rfl (Pure.idx1N sl32 (RdL.own 2 rfl) rfl rfl (by first | assumption | omega | (simp; omega))) ?_
          refine Ops.store (Stores.row1 2 rfl size2 rfl rfl rfl (by first | assumption | omega | (simp; omega))) ?_
          refine Ops.nil ?_
          refine Run.blk ?_
          refine Run.region ?_
          refine Ops.pure rfl (Pure.move rfl) ?_
          refine Ops.pure rfl (Pure.add rfl rfl (by omega) (by omega)) ?_
          refine Ops.pure rfl (Pure.assign rfl) ?_
          refine Ops.nil ?_
          refine Run.asrt ?_
          by_cases hc1 : cnt a b (pdig k (inn a b)) = 1
          · first
              | (exfalso; omega)
              | (refine ⟨k + 1, ⟨by omega, by omega⟩, ⟨rfl, rfl, rfl, rfl, trivial⟩, Ext.trans (Ext.eq ?_) (Ext.take 2 rfl (Ext.nil _))⟩
                 rw [mtTo_yes hc1, ints, List.map_set]
                 try rfl)
          · first
              | (exfalso; omega)
              | (refine ⟨k + 1, ⟨by omega, by omega⟩, ⟨rfl, rfl, rfl, rfl, trivial⟩, Ext.trans (Ext.eq ?_) (Ext.take 2 rfl (Ext.nil _))⟩
                 rw [mtTo_no hc1])
        · skip
          replace c33 := dF c33
          refine Run.skip ?_
          refine Run.blk ?_
          refine Run.region ?_
          refine Ops.pure rfl (Pure.move rfl) ?_
          refine Ops.pure rfl (Pure.add rfl rfl (by omega) (by omega)) ?_
          refine Ops.pure rfl (Pure.assign rfl) ?_
          refine Ops.nil ?_
          refine Run.asrt ?_
          by_cases hc1 : cnt a b (pdig k (inn a b)) = 1
          · first
              | (exfalso; omega)
              | (refine ⟨k + 1, ⟨by omega, by omega⟩, ⟨rfl, rfl, rfl, rfl, trivial⟩, Ext.trans (Ext.eq ?_) (Ext.take 2 rfl (Ext.nil _))⟩
                 rw [mtTo_yes hc1, ints, List.map_set]
                 try rfl)
          · first
              | (exfalso; omega)
              | (refine ⟨k + 1, ⟨by omega, by omega⟩, ⟨rfl, rfl, rfl, rfl, trivial⟩, Ext.trans (Ext.eq ?_) (Ext.take 2 rfl (Ext.nil _))⟩
                 rw [mtTo_no hc1])
      · skip
        replace c25 := dF c25
        refine Run.exit rfl ?_
        refine Run.seq ?_
        refine Run.region ?_
        refine Ops.pure rfl (Pure.move rfl) ?_
        refine Ops.pure rfl (Pure.assign rfl) ?_
        refine Ops.pure rfl (Pure.assign rfl) ?_
        refine Ops.nil ?_
        refine Run.ret2 rfl rfl rfl ?_
        have e : k = many a b := by omega
        subst e
        rw [mtE_ok c14, c14]
        exact ⟨_, rfl, by rw [length_mt]⟩

end Go.Proofs.Ytmfinopdokkjcaa
