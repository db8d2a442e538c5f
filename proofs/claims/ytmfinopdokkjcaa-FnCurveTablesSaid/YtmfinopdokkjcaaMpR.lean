/- Contracts of functions, printed by program from annotations. -/
import Derived.Test.YtmfinopdokkjcaaAwv
import Derived.Test.YtmfinopdokkjcaaMpS
import Derived.Test.YtmfinopdokkjcaaMpT
import Derived.Test.YtmfinopdokkjcaaPNum
namespace Go.Proofs.Ytmfinopdokkjcaa
open Go Go.AW Go.RowKit
set_option linter.unusedVariables false
set_option linter.unusedSimpArgs false

/-- the marks of one number -/
def mkS (a b : Int) (n : Nat) (seen : List Bool) : Nat → List Bool
  | 0 => seen
  | s + 1 => if mpA s a b = a ∧ mpB s a b = b then (mkS a b n seen s).set (numTo (mapL s a b (pdig n (inn a b))) (inn a b)).toNat true else mkS a b n seen s
theorem mkS_yes {a b : Int} {n s : Nat} {seen : List Bool} (h : mpA s a b = a ∧ mpB s a b = b) : mkS a b n seen (s + 1) = (mkS a b n seen s).set (numTo (mapL s a b (pdig n (inn a b))) (inn a b)).toNat true := if_pos h
theorem mkS_no {a b : Int} {n s : Nat} {seen : List Bool} (h : ¬ (mpA s a b = a ∧ mpB s a b = b)) : mkS a b n seen (s + 1) = mkS a b n seen s := if_neg h
theorem length_mkS (a b : Int) (n : Nat) (seen : List Bool) : ∀ s, (mkS a b n seen s).length = seen.length
  | 0 => rfl
  | s + 1 => by
    have ih := length_mkS a b n seen s
    by_cases h : mpA s a b = a ∧ mpB s a b = b
    · rw [mkS_yes h, List.length_set, ih]
    · rw [mkS_no h, ih]
/-- what is marked, and how many numbers were not when their turn came -/
def spS (a b : Int) : Nat → List Bool × Nat
  | 0 => (List.replicate (many a b) false, 0)
  | n + 1 => if (spS a b n).1.getD n false = true then spS a b n else (mkS a b n (spS a b n).1 8, (spS a b n).2 + 1)
theorem spS_yes {a b : Int} {n : Nat} (h : (spS a b n).1.getD n false = true) : spS a b (n + 1) = spS a b n := if_pos h
theorem spS_no {a b : Int} {n : Nat} (h : (spS a b n).1.getD n false = false) : spS a b (n + 1) = (mkS a b n (spS a b n).1 8, (spS a b n).2 + 1) := if_neg (by rw [h]; decide)
theorem spS_len (a b : Int) : ∀ n, (spS a b n).1.length = many a b ∧ (spS a b n).2 ≤ n
  | 0 => ⟨List.length_replicate .., Nat.le_refl _⟩
  | n + 1 => by
    obtain ⟨h1, h2⟩ := spS_len a b n
    cases h : (spS a b n).1.getD n false with
    | true => rw [spS_yes h]; exact ⟨h1, by omega⟩
    | false =>
      rw [spS_no h]
      exact ⟨(length_mkS ..).trans h1, by show (spS a b n).2 + 1 ≤ n + 1; omega⟩
def cnS (a b : Int) : Int := if pcE a b = 0 then ((spS a b (many a b)).2 : Int) else 0
theorem cnS_bad {a b : Int} (h : ¬ pcE a b = 0) : cnS a b = 0 := by unfold cnS; rw [if_neg h]
theorem cnS_ok {a b : Int} (h : pcE a b = 0) : cnS a b = ((spS a b (many a b)).2 : Int) := by unfold cnS; rw [if_pos h]
theorem many_p3 {a b : Int} (h : many a b ≤ 2500) : p3 (inn a b) = many a b := by unfold many at *; omega
theorem num_in {s : Nat} (h : s < 8) {a b : Int} (hs : SizeOk a b) (hm : many a b ≤ 2500) (n : Nat) : 0 ≤ numTo (mapL s a b (pdig n (inn a b))) (inn a b) ∧ numTo (mapL s a b (pdig n (inn a b))) (inn a b) < many a b := by
  have h1 := numTo_bd (mapL_ok h (okP_pdig hs n)) (inn a b) (by rw [length_mapL]; exact Nat.le_refl _)
  rw [many_p3 hm] at h1
  exact h1

set_option maxRecDepth 4000 in
set_option maxHeartbeats 1000000 in
/-- spec.CanonicalCount -/
theorem f_s_CanonicalCount (w : World) (a : Int) (b : Int) (a0 : -9223372036854775808 ≤ a) (a1 : a ≤ 9223372036854775807) (b0 : -9223372036854775808 ≤ b) (b1 : b ≤ 9223372036854775807) : RetV Try.prog 29 [.int .i64 a, .int .i64 b] w (.tuple #[.int .i64 (cnS a b), .int .i64 (pcE a b)]) := by
  refine Ret.enter Try.func29 rfl Try.ntmps29 rfl ?_
  refine Run.seq ?_
  refine Run.region ?_
  refine Ops.pure rfl (Pure.assign rfl) ?_
  refine Ops.pure rfl (Pure.assign rfl) ?_
  refine Ops.nil ?_
  refine Run.seq ?_
  refine Run.region ?_
  refine Ops.pure rfl (Pure.move rfl) ?_
  refine Ops.pure rfl (Pure.move rfl) ?_
  refine Ops.q rfl (QOp.call fn107 rfl (fun w hw => f_s_l12Code w a b a0 a1 b0 b1)) ?_
  refine Ops.pure rfl (Pure.assign rfl) ?_
  refine Ops.nil ?_
  refine Run.seq ?_
  refine Run.seq ?_
  refine Run.region ?_
  refine Ops.pure rfl (Pure.move rfl) ?_
  refine Ops.pure rfl (Pure.neq rfl rfl) ?_
  refine Ops.nil ?_
  refine Run.cond rfl (fun c19 => ?_) (fun c19 => ?_)
  · skip
    replace c19 := nT c19
    refine Run.seq ?_
    refine Run.region ?_
    refine Ops.pure rfl (Pure.move rfl) ?_
    refine Ops.pure rfl (Pure.assign rfl) ?_
    refine Ops.pure rfl (Pure.assign rfl) ?_
    refine Ops.nil ?_
    refine Run.ret2 rfl rfl rfl ?_
    rw [cnS_bad c19]
    try rfl
  · skip
    replace c19 := nF c19
    obtain ⟨hs, hm, hpn⟩ := pc_zero c19
    have hib := (inn_eq hs).2.1
    refine Run.skip ?_
    refine Run.seq ?_
    refine Run.region ?_
    refine Ops.pure rfl (Pure.move rfl) ?_
    refine Ops.pure rfl (Pure.move rfl) ?_
    refine Ops.q rfl (QOp.call fn108 rfl (fun w hw => f_s_l12Many w a b hs)) ?_
    refine Ops.go rfl (Loud.make sl113 rfl rfl (by omega) (by omega)) ?_
    rintro v24 _ rfl
    refine Ops.pure rfl (Pure.assign rfl) ?_
    refine Ops.nil ?_
    refine Run.seq ?_
    refine Run.region ?_
    refine Ops.pure rfl (Pure.assign rfl) ?_
    refine Ops.nil ?_
    refine Run.seq ?_
    refine Run.seq ?_
    refine Run.region ?_
    refine Ops.pure rfl (Pure.assign rfl) ?_
    refine Ops.nil ?_
    refine Run.block ?_
    refine Run.loop (X := Nat) (fun k => [(0, .int .i64 a), (1, .int .i64 b), (7, v24), (8, .int .i64 (((spS a b k).2 : Nat) : Int)), (9, .int .i64 k)]) (fun k => [.row 4 1 v24 (many a b) (bools ((spS a b k).1))]) (fun k => k ≤ many a b) (fun k => many a b - k) 0 ?_ ?_ ?_ ?_
    · exact Nat.zero_le _
    · exact ⟨rfl, rfl, rfl, rfl, rfl, trivial⟩
    · exact Ext.eq (by rw [made_one _ rfl]; simp [spS, bools])
    · intro k hinv0
      obtain ⟨hsl, hsn⟩ := spS_len a b k
      have hsb : (bools (spS a b k).1).length = many a b := by rw [bools, List.length_map]; exact hsl
      refine Run.seq ?_
      refine Run.seq ?_
      refine Run.region ?_
      refine Ops.pure rfl (Pure.move rfl) ?_
      refine Ops.pure rfl (Pure.move rfl) ?_
      refine Ops.pure rfl (Pure.move rfl) ?_
      refine Ops.q rfl (QOp.call fn108 rfl (fun w hw => f_s_l12Many w a b hs)) ?_
      refine Ops.pure rfl (Pure.lss rfl rfl) ?_
      refine Ops.nil ?_
      refine Run.cond rfl (fun c29 => ?_) (fun c29 => ?_)
      · skip
        replace c29 := dT c29
        refine Run.skip ?_
        refine Run.seq ?_
        refine Run.block ?_
        refine Run.seq ?_
        refine Run.seq ?_
        refine Run.region ?_
        refine Ops.pure rfl (Pure.move rfl) ?_
        refine Ops.pure rfl (Pure.move rfl) ?_
        refine Ops.pure rfl (Pure.idx1N sl113 (RdL.own 0 rfl) rfl rfl (by first | assumption | omega | (simp; omega))) ?_
        refine Ops.pure rfl (Pure.ld cell4 rfl (RdL.own 0 rfl) (by first | exact ints_get (by omega) | exact bools_get (by omega) | exact strs_get (by omega) | exact vals_get (by first | omega | (simp; omega)))) ?_
        refine Ops.nil ?_
        refine Run.cond rfl (fun c35 => ?_) (fun c35 => ?_)
        · skip
          skip
          refine Run.exit rfl ?_
          refine Run.region ?_
          refine Ops.pure rfl (Pure.move rfl) ?_
          refine Ops.pure rfl (Pure.add rfl rfl (by omega) (by omega)) ?_
          refine Ops.pure rfl (Pure.assign rfl) ?_
          refine Ops.nil ?_
          refine Run.asrt ?_
          first
            | (refine ⟨k + 1, ⟨by omega, by omega⟩, ⟨rfl, rfl, rfl, by rw [spS_yes c35]; rfl, rfl, trivial⟩, Ext.eq ?_⟩
               rw [spS_yes c35])
            | (have e : j = 8 := by omega
               subst e
               refine ⟨k + 1, ⟨by omega, by omega⟩, ⟨rfl, rfl, rfl, by rw [spS_no c35]; rfl, rfl, trivial⟩, Ext.trans (Ext.eq ?_) (Ext.take 0 rfl (Ext.nil _))⟩
               rw [spS_no c35])
        · skip
          skip
          refine Run.skip ?_
          refine Run.seq ?_
          refine Run.region ?_
          refine Ops.pure rfl (Pure.move rfl) ?_
          refine Ops.pure rfl (Pure.add rfl rfl (by omega) (by omega)) ?_
          refine Ops.pure rfl (Pure.assign rfl) ?_
          refine Ops.nil ?_
          refine Run.seq ?_
          refine Run.region ?_
          refine Ops.pure rfl (Pure.move rfl) ?_
          refine Ops.pure rfl (Pure.move rfl) ?_
          refine Ops.pure rfl (Pure.move rfl) ?_
          refine Ops.go rfl (Loud.callR fn109 rfl (fun w hw => f_s_l12At w a b k hs (by omega))) ?_
          rintro v41 _ ⟨L41, hQ41, rfl⟩
          obtain ⟨x41, h41, rfl, rfl⟩ := hQ41
          refine Ops.go rfl (Loud.alloc zero35 rfl) ?_
          rintro _ _ ⟨b10, rfl, rfl⟩
          refine Ops.store (Stores.box 0 rfl rfl rfl size35 (one3 h41) rfl rfl) ?_
          refine Ops.nil ?_
          refine Run.seq ?_
          refine Run.region ?_
          refine Ops.pure rfl (Pure.assign rfl) ?_
          refine Ops.nil ?_
          refine Run.block ?_
          refine Run.loop (X := Nat) (fun j => [(0, .int .i64 a), (1, .int .i64 b), (7, v24), (8, .int .i64 (((spS a b k).2 : Nat) + 1 : Int)), (9, .int .i64 k), (10, .pointer (some ⟨b10, 0, none⟩)), (11, .int .i64 j)]) (fun j => [.row 4 1 v24 (many a b) (bools (mkS a b k (spS a b k).1 j)), .box b10 35 [.int .i64 a, .int .i64 b, x41], .row 2 1 x41 (inn a b) (ints (pdig k (inn a b)))]) (fun j => j ≤ 8) (fun j => 8 - j) 0 ?_ ?_ ?_ ?_
          · exact Nat.zero_le _
          · exact ⟨rfl, rfl, rfl, rfl, rfl, rfl, rfl, trivial⟩
          · exact Ext.take 2 rfl (Ext.take 0 rfl (Ext.take 0 rfl (Ext.nil _)))
          · intro j hinv1
            have hml := length_mkS a b k (spS a b k).1 j
            have hmb : (bools (mkS a b k (spS a b k).1 j)).length = many a b := by rw [bools, List.length_map]; omega
            refine Run.seq ?_
            refine Run.seq ?_
            refine Run.region ?_
            refine Ops.pure rfl (Pure.move rfl) ?_
            refine Ops.pure rfl (Pure.lss rfl rfl) ?_
            refine Ops.nil ?_
            refine Run.cond rfl (fun c43 => ?_) (fun c43 => ?_)
            · skip
              replace c43 := dT c43
              refine Run.skip ?_
              refine Run.seq ?_
              refine Run.block ?_
              refine Run.seq ?_
              have hj8 : j < 8 := by omega
              have hok := okP_pdig hs k
              have hnm := num_in hj8 hs hm k
              have hmo := mapL_ok hj8 hok
              have hll := length_mapL j a b (pdig k (inn a b))
              refine Run.region ?_
              refine Ops.pure rfl (Pure.move rfl) ?_
              refine Ops.go rfl (Loud.callR fn110 rfl (fun w hw => f_s_l06Map w b10 a b x41 (pdig k (inn a b)) j (RdL.boxM 1 rfl rfl w hw) (by rw [length_pdig]; exact RdL.own 2 rfl w hw) hok hj8)) ?_
              rintro v47 _ ⟨L47, hQ47, rfl⟩
              obtain ⟨x47, h47, rfl, rfl⟩ := hQ47
              refine Ops.go rfl (Loud.alloc zero35 rfl) ?_
              rintro _ _ ⟨b12, rfl, rfl⟩
              refine Ops.store (Stores.box 0 rfl rfl rfl size35 (one3 h47) rfl rfl) ?_
              refine Ops.nil ?_
              refine Run.seq ?_
              refine Run.region ?_
              refine Ops.pure rfl (Pure.fieldAddrB fld35_0 rfl) ?_
              refine Ops.pure rfl (Pure.ldB 0 rfl cell2 rfl rfl) ?_
              refine Ops.pure rfl (Pure.move rfl) ?_
              refine Ops.pure rfl (Pure.eql rfl rfl) ?_
              refine Ops.pure rfl (Pure.move rfl) ?_
              refine Ops.guard rfl rfl rfl rfl (fun c52 => ?_) (fun c52 => ?_)
              · skip
                have c52' := dT c52
                refine Ops.pure rfl (Pure.fieldAddrB fld35_1 rfl) ?_
                refine Ops.guardY rfl rfl rfl c52 ?_
                refine Ops.pure rfl (Pure.ldB 0 rfl cell2 rfl rfl) ?_
                refine Ops.guardY rfl rfl rfl c52 ?_
                refine Ops.pure rfl (Pure.move rfl) ?_
                refine Ops.guardY rfl rfl rfl c52 ?_
                refine Ops.pure rfl (Pure.eql rfl rfl) ?_
                refine Ops.pure rfl (Pure.pickT rfl c52 rfl) ?_
                refine Ops.nil ?_
                refine Run.cond rfl (fun c57 => ?_) (fun c57 => ?_)
                · skip
                  replace c57 := dT c57
                  refine Run.seq ?_
                  have hAB : mpA j a b = a ∧ mpB j a b = b := by first | exact ⟨by assumption, by assumption⟩ | (simp_all; done)
                  have hpc : pcE (mpA j a b) (mpB j a b) = 0 := by rw [hAB.1, hAB.2]; exact c19
                  refine Run.region ?_
                  refine Ops.pure rfl (Pure.ldBA 0 rfl cell35 rfl rfl rfl) ?_
                  refine Ops.q rfl (QOp.call fn37 rfl (fun w hw => (f_s_PanelNumber w (mpA j a b) (mpB j a b) x47 (mapL j a b (pdig k (inn a b))) (by rw [hll]; exact RdL.own 1 rfl w hw) (by omega) (by omega) (by omega) (by omega) (by omega)).cong (show _ = Value.tuple #[.int .i64 (numTo (mapL j a b (pdig k (inn a b))) (inn a b)), .int .i64 0] by rw [(pn_ok hmo hpc).1, (pn_ok hmo hpc).2, hll]))) ?_
                  refine Ops.pure rfl (Pure.move rfl) ?_
                  refine Ops.pure rfl (Pure.extract rfl rfl) ?_
                  refine Ops.pure rfl (Pure.extract rfl rfl) ?_
                  refine Ops.pure rfl (Pure.assign rfl) ?_
                  refine Ops.pure rfl (Pure.assign rfl) ?_
                  refine Ops.nil ?_
                  refine Run.region ?_
                  refine Ops.pure rfl (Pure.move rfl) ?_
                  refine Ops.pure rfl (Pure.move rfl) ?_
                  refine Ops.pure rfl (Pure.idx1 sl113 (RdL.own 2 rfl) rfl rfl (by first | assumption | omega | (simp; omega)) (by first | assumption | omega | (simp; omega))) ?_
                  refine Ops.store (Stores.row1 2 rfl size4 rfl rfl rfl (by first | assumption | omega | (simp; omega))) ?_
                  refine Ops.nil ?_
                  refine Run.blk ?_
                  refine Run.region ?_
                  refine Ops.pure rfl (Pure.move rfl) ?_
                  refine Ops.pure rfl (Pure.add rfl rfl (by omega) (by omega)) ?_
                  refine Ops.pure rfl (Pure.assign rfl) ?_
                  refine Ops.nil ?_
                  refine Run.asrt ?_
                  first
                    | (refine ⟨j + 1, ⟨by omega, by omega⟩, ⟨rfl, rfl, rfl, rfl, rfl, rfl, rfl, trivial⟩, Ext.trans (Ext.eq ?_) (Ext.take 2 rfl (Ext.take 2 rfl (Ext.take 2 rfl (Ext.nil _))))⟩
                       rw [mkS_yes hAB, bools, bools, List.map_set])
                    | (refine ⟨j + 1, ⟨by omega, by omega⟩, ⟨rfl, rfl, rfl, rfl, rfl, rfl, rfl, trivial⟩, Ext.trans (Ext.eq ?_) (Ext.take 2 rfl (Ext.take 2 rfl (Ext.take 2 rfl (Ext.nil _))))⟩
                       rw [mkS_no (by first | (simp_all; done) | (intro hh; simp_all; done))])
                · skip
                  replace c57 := dF c57
                  refine Run.skip ?_
                  refine Run.blk ?_
                  refine Run.region ?_
                  refine Ops.pure rfl (Pure.move rfl) ?_
                  refine Ops.pure rfl (Pure.add rfl rfl (by omega) (by omega)) ?_
                  refine Ops.pure rfl (Pure.assign rfl) ?_
                  refine Ops.nil ?_
                  refine Run.asrt ?_
                  first
                    | (refine ⟨j + 1, ⟨by omega, by omega⟩, ⟨rfl, rfl, rfl, rfl, rfl, rfl, rfl, trivial⟩, Ext.trans (Ext.eq ?_) (Ext.take 2 rfl (Ext.take 2 rfl (Ext.take 2 rfl (Ext.nil _))))⟩
                       rw [mkS_yes hAB, bools, bools, List.map_set])
                    | (refine ⟨j + 1, ⟨by omega, by omega⟩, ⟨rfl, rfl, rfl, rfl, rfl, rfl, rfl, trivial⟩, Ext.trans (Ext.eq ?_) (Ext.take 2 rfl (Ext.take 2 rfl (Ext.take 2 rfl (Ext.nil _))))⟩
                       rw [mkS_no (by first | (simp_all; done) | (intro hh; simp_all; done))])
              · skip
                replace c52 := Bool.eq_false_of_ne c52
                have c52' := dF c52
                refine Ops.guardN rfl rfl rfl rfl (by rw [c52]; decide) ?_
                refine Ops.guardN rfl rfl rfl rfl (by rw [c52]; decide) ?_
                refine Ops.guardN rfl rfl rfl rfl (by rw [c52]; decide) ?_
                refine Ops.pure rfl (Pure.pickF rfl c52 rfl) ?_
                refine Ops.nil ?_
                refine Run.condEF rfl rfl ?_
                refine Run.skip ?_
                refine Run.blk ?_
                refine Run.region ?_
                refine Ops.pure rfl (Pure.move rfl) ?_
                refine Ops.pure rfl (Pure.add rfl rfl (by omega) (by omega)) ?_
                refine Ops.pure rfl (Pure.assign rfl) ?_
                refine Ops.nil ?_
                refine Run.asrt ?_
                first
                  | (refine ⟨j + 1, ⟨by omega, by omega⟩, ⟨rfl, rfl, rfl, rfl, rfl, rfl, rfl, trivial⟩, Ext.trans (Ext.eq ?_) (Ext.take 2 rfl (Ext.take 2 rfl (Ext.take 2 rfl (Ext.nil _))))⟩
                     rw [mkS_yes hAB, bools, bools, List.map_set])
                  | (refine ⟨j + 1, ⟨by omega, by omega⟩, ⟨rfl, rfl, rfl, rfl, rfl, rfl, rfl, trivial⟩, Ext.trans (Ext.eq ?_) (Ext.take 2 rfl (Ext.take 2 rfl (Ext.take 2 rfl (Ext.nil _))))⟩
                     rw [mkS_no (by first | (simp_all; done) | (intro hh; simp_all; done))])
            · skip
              replace c43 := dF c43
              refine Run.exit rfl ?_
              refine Run.blk ?_
              refine Run.region ?_
              refine Ops.pure rfl (Pure.move rfl) ?_
              refine Ops.pure rfl (Pure.add rfl rfl (by omega) (by omega)) ?_
              refine Ops.pure rfl (Pure.assign rfl) ?_
              refine Ops.nil ?_
              refine Run.asrt ?_
              first
                | (refine ⟨k + 1, ⟨by omega, by omega⟩, ⟨rfl, rfl, rfl, by rw [spS_yes c35]; rfl, rfl, trivial⟩, Ext.eq ?_⟩
                   rw [spS_yes c35])
                | (have e : j = 8 := by omega
                   subst e
                   refine ⟨k + 1, ⟨by omega, by omega⟩, ⟨rfl, rfl, rfl, by rw [spS_no c35]; rfl, rfl, trivial⟩, Ext.trans (Ext.eq ?_) (Ext.take 0 rfl (Ext.nil _))⟩
                   rw [spS_no c35])
      · skip
        replace c29 := dF c29
        refine Run.exit rfl ?_
        refine Run.seq ?_
        refine Run.region ?_
        refine Ops.pure rfl (Pure.move rfl) ?_
        refine Ops.pure rfl (Pure.assign rfl) ?_
        refine Ops.pure rfl (Pure.assign rfl) ?_
        refine Ops.nil ?_
        refine Run.ret2 rfl rfl rfl ?_
        have e : k = many a b := by omega
        subst e
        rw [cnS_ok c19, c19]

end Go.Proofs.Ytmfinopdokkjcaa
