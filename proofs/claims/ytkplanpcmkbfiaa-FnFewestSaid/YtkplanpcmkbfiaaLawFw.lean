/- Contracts of functions, printed by program from annotations. -/
import Derived.Test.YtkplanpcmkbfiaaLawRg
import Derived.Test.YtkplanpcmkbfiaaLawSx
namespace Go.Proofs.Ytkplanpcmkbfiaa
open Go Go.AW Go.RowKit
set_option linter.unusedVariables false
set_option linter.unusedSimpArgs false

theorem few_no {a b c : Int} {l : List Int} {j : Nat} (h : (cut (hitC a b c) (lv j 0 [] l)).2 = false) : cnL a b c (lv j 0 [] l) = 0 := by
  unfold cnL
  rw [List.countP_eq_zero]
  rw [cut_any, List.any_eq_false] at h
  exact h
theorem few_none {a b c : Int} {l : List Int} {M : Nat} (h0 : scE a b l c M = 0) (h : ¬ feE a b l c M = 0) : feE a b l c M = 3 ∧ ∀ j : Nat, (j : Int) ≤ M → cnL a b c (lv j 0 [] l) = 0 := by
  have h1 : ¬ (feF a b l c M).isSome = true := by
    intro hh
    apply h
    unfold feE
    rw [if_pos h0, if_pos hh]
  refine ⟨by unfold feE; rw [if_pos h0, if_neg h1], fun j hj => few_no ?_⟩
  unfold feF at h1
  rw [if_pos h0, Int.toNat_natCast] at h1
  cases hc : (cut (hitC a b c) (lv j 0 [] l)).2 with
  | false => rfl
  | true =>
    exfalso
    have key : ∀ (n i : Nat), i ≤ j → j < i + n → (firstF (fun n => (cut (hitC a b c) (lv n 0 [] l)).2) n i).isSome = true := by
      intro n
      induction n with
      | zero => intro i h2 h3; omega
      | succ n ih =>
        intro i h2 h3
        show (if (cut (hitC a b c) (lv i 0 [] l)).2 then some i else firstF (fun n => (cut (hitC a b c) (lv n 0 [] l)).2) n (i + 1)).isSome = true
        by_cases hi : (cut (hitC a b c) (lv i 0 [] l)).2 = true
        · rw [if_pos hi]; rfl
        · rw [if_neg hi]
          have : i ≠ j := fun e => hi (by rw [e]; exact hc)
          exact ih (i + 1) (by omega) (by omega)
    exact h1 (key (M + 1) 0 (Nat.zero_le _) (by omega))
theorem few_facts {a b c : Int} {l : List Int} {M : Nat} (hk : okP a b l = true) (h : feE a b l c M = 0) : ∃ (k : Nat) (m : List Int), (feL a b l c M).length = k ∧ k ≤ M ∧ (∀ j : Nat, j < k → cnL a b c (lv j 0 [] l) = 0) ∧ 1 ≤ cnL a b c (lv k 0 [] l) ∧ okP a b m = true ∧ appE l (feL a b l c M) = m ∧ veE a b l (feL a b l c M) = 0 ∧ (cnt a b m : Int) = c := by
  obtain ⟨k, x, h1, h2, h3, h4, h5, h6⟩ := fe_spec h
  obtain ⟨q1, q2, q3, q4⟩ := lv_spec k 0 [] l (LvI.nil l) x h2
  refine ⟨k, x.2, by rw [h4, q3]; simp, by omega, fun j hj => few_no (h6 j hj), ?_, lv_ok k 0 [] l hk x h2, by rw [h4]; exact q1, ?_, of_decide_eq_true h3⟩
  · unfold cnL
    exact List.countP_pos_iff.2 ⟨x, h2, h3⟩
  · rw [h4]
    refine veE_ok ⟨hk, ?_⟩
    unfold edsB
    exact decide_eq_true q2

set_option maxRecDepth 4000 in
/-- laws.FnFewest -/
theorem f_l_FnFewest (w : World) (vc : Value) (co : List Int) (vc' : Value) (co' : List Int) (hc : Rd w vc 1 co.length (AW.bytes co)) (hcl : co.length ≤ 9223372036854775807) (hb : ∀ x ∈ co, 0 ≤ x ∧ x ≤ 255) (hc' : Rd w vc' 1 co'.length (AW.bytes co')) (hcl' : co'.length ≤ 9223372036854775807) (hb' : ∀ x ∈ co', 0 ≤ x ∧ x ≤ 255) : RetV Try.prog 8 [vc, vc'] w (.bool true) := by
  refine Ret.enter Try.func8 rfl Try.ntmps8 rfl ?_
  refine Run.seq ?_
  refine Run.region ?_
  refine Ops.pure rfl (Pure.assign rfl) ?_
  refine Ops.nil ?_
  refine Run.seq ?_
  refine Run.seq ?_
  refine Run.region ?_
  refine Ops.pure rfl (Pure.move rfl) ?_
  refine Ops.pure rfl (Pure.move rfl) ?_
  refine Ops.q rfl (QOp.call fn31 rfl (fun w hw => f_l_a2Long w vc _ _ vc' _ _ (RdL.old hc w hw) (RdL.old hc' w hw))) ?_
  refine Ops.nil ?_
  refine Run.cond rfl (fun c22 => ?_) (fun c22 => ?_)
  · skip
    replace c22 := dT c22
    refine Run.seq ?_
    refine Run.region ?_
    refine Ops.pure rfl (Pure.assign rfl) ?_
    refine Ops.nil ?_
    refine Run.ret1 rfl rfl ?_
    rfl
  · skip
    replace c22 := dF c22
    have hcl2 : co.length ≤ 1000000000 := by omega
    have hcl2' : co'.length ≤ 1000000000 := by omega
    refine Run.skip ?_
    refine Run.seq ?_
    refine Run.region ?_
    refine Ops.pure rfl (Pure.move rfl) ?_
    refine Ops.go rfl (Loud.callR fn32 rfl (fun w hw => f_s_A2Small w vc co (RdL.old hc w hw) hb hcl2)) ?_
    rintro v24 _ ⟨L24, hQ24, rfl⟩
    obtain ⟨a24, c24, l24, x24, ha24, hA24, hc24, hC24, hk24, h24, rfl, rfl⟩ := hQ24
    refine Ops.go rfl (Loud.alloc zero28 rfl) ?_
    rintro _ _ ⟨b5, rfl, rfl⟩
    refine Ops.store (Stores.box 0 rfl rfl rfl size28 (one3 h24) rfl rfl) ?_
    refine Ops.nil ?_
    refine Run.seq ?_
    have hli := okP_inn hk24
    have hib := (inn_eq (okP_size hk24)).2.1
    have hbd1 := atCo_bd (co := co') (i := 0) (n := 4) (by omega)
    have hbd2 := atCo_bd (co := co') (i := 1) (n := 3) (by omega)
    refine Run.region ?_
    refine Ops.pure rfl (Pure.move rfl) ?_
    refine Ops.q rfl (QOp.call fn34 rfl (fun w hw => f_l_a2At w vc' co' 0 4 (RdL.old hc' w hw) hb' hcl2' (by omega))) ?_
    refine Ops.pure rfl (Pure.add rfl rfl (by omega) (by omega)) ?_
    refine Ops.pure rfl (Pure.assign rfl) ?_
    refine Ops.nil ?_
    refine Run.seq ?_
    refine Run.region ?_
    refine Ops.pure rfl (Pure.move rfl) ?_
    refine Ops.q rfl (QOp.call fn34 rfl (fun w hw => f_l_a2At w vc' co' 1 3 (RdL.old hc' w hw) hb' hcl2' (by omega))) ?_
    refine Ops.pure rfl (Pure.assign rfl) ?_
    refine Ops.nil ?_
    refine Run.seq ?_
    obtain ⟨M, hM⟩ := Int.eq_ofNat_of_zero_le hbd2.1
    rw [hM] at hbd2 ⊢
    have hsc : scE a24 c24 l24 (1 + atCo co' 0 4) M = 0 := small_sc hk24 hA24 hC24 (by omega) (by omega)
    refine Run.region ?_
    refine Ops.pure rfl (Pure.ldBA 0 rfl cell28 rfl rfl rfl) ?_
    refine Ops.pure rfl (Pure.move rfl) ?_
    refine Ops.pure rfl (Pure.move rfl) ?_
    refine Ops.go rfl (Loud.callR fn27 rfl (fun w hw => f_i_FewestEdits w a24 c24 x24 l24 (1 + atCo co' 0 4) M (RdL.own 1 rfl w hw) (by omega) (by omega) (by omega) (by omega) (by omega) (by omega) (by omega))) ?_
    rintro v34 _ ⟨L34, hQ34, rfl⟩
    obtain ⟨x34, rfl, rfl⟩ := hQ34
    refine Ops.pure rfl (Pure.move rfl) ?_
    refine Ops.pure rfl (Pure.extract rfl rfl) ?_
    refine Ops.pure rfl (Pure.extract rfl rfl) ?_
    refine Ops.pure rfl (Pure.assign rfl) ?_
    refine Ops.pure rfl (Pure.assign rfl) ?_
    refine Ops.nil ?_
    refine Run.seq ?_
    refine Run.region ?_
    refine Ops.pure rfl (Pure.move rfl) ?_
    refine Ops.pure rfl (Pure.add rfl rfl (by omega) (by omega)) ?_
    refine Ops.pure rfl (Pure.assign rfl) ?_
    refine Ops.nil ?_
    refine Run.seq ?_
    refine Run.seq ?_
    refine Run.region ?_
    refine Ops.pure rfl (Pure.move rfl) ?_
    refine Ops.pure rfl (Pure.eql rfl rfl) ?_
    refine Ops.nil ?_
    refine Run.cond rfl (fun c40 => ?_) (fun c40 => ?_)
    · skip
      replace c40 := dT c40
      obtain ⟨kf, m, hk1, hk2, hk3, hk4, hk5, hk6, hk7, hk8⟩ := few_facts hk24 c40
      refine Run.region ?_
      refine Ops.pure rfl (Pure.move rfl) ?_
      refine Ops.pure rfl (Pure.len sl41 (RdL.own 0 rfl) rfl) ?_
      refine Ops.pure rfl (Pure.assign rfl) ?_
      refine Ops.nil ?_
      refine Run.seq ?_
      refine Run.seq ?_
      first
        | (obtain ⟨lim, hlim⟩ : ∃ lim : Int, lim = ((feL a24 c24 l24 (1 + atCo co' 0 4) M).length : Int) := ⟨_, rfl⟩
           refine Run.setv 10 rfl (congrArg (Value.int .i64) hlim.symm) ?_
           have hzz : ∀ j : Nat, (j : Int) < lim → (j : Int) ≤ M → cnL a24 c24 (1 + atCo co' 0 4) (lv j 0 [] l24) = 0 := fun j h1 h2 => hk3 j (by omega))
        | (obtain ⟨lim, hlim⟩ : ∃ lim : Int, lim = (M : Int) + 1 := ⟨_, rfl⟩
           refine Run.setv 10 rfl (congrArg (Value.int .i64) hlim.symm) ?_
           have hzz : ∀ j : Nat, (j : Int) < lim → (j : Int) ≤ M → cnL a24 c24 (1 + atCo co' 0 4) (lv j 0 [] l24) = 0 := fun j h1 h2 => hn2 j h2)
      refine Run.region ?_
      refine Ops.pure rfl (Pure.assign rfl) ?_
      refine Ops.nil ?_
      refine Run.block ?_
      refine Run.loop (X := Nat) (fun k => [(5, .pointer (some ⟨b5, 0, none⟩)), (6, .int .i64 (1 + atCo co' 0 4)), (7, .int .i64 (M : Int)), (8, x34), (9, .int .i64 (feE a24 c24 l24 (1 + atCo co' 0 4) M)), (10, .int .i64 lim), (11, .int .i64 k)]) (fun k => [.box b5 28 [.int .i64 a24, .int .i64 c24, x24], .row 74 2 x34 (feL a24 c24 l24 (1 + atCo co' 0 4) M).length (edits (feL a24 c24 l24 (1 + atCo co' 0 4) M)), .row 2 1 x24 l24.length (ints l24)]) (fun k => k ≤ M + 1) (fun k => M + 1 - k) 0 ?_ ?_ ?_ ?_
      · exact Nat.zero_le _
      · exact ⟨rfl, rfl, rfl, rfl, rfl, rfl, rfl, trivial⟩
      · exact Ext.take 1 rfl (Ext.take 0 rfl (Ext.refl _))
      · intro k hinv0
        refine Run.seq ?_
        refine Run.seq ?_
        refine Run.region ?_
        refine Ops.pure rfl (Pure.move rfl) ?_
        refine Ops.pure rfl (Pure.move rfl) ?_
        refine Ops.pure rfl (Pure.lss rfl rfl) ?_
        refine Ops.pure rfl (Pure.move rfl) ?_
        refine Ops.guard rfl rfl rfl rfl (fun c48 => ?_) (fun c48 => ?_)
        · skip
          have c48' := dT c48
          refine Ops.pure rfl (Pure.move rfl) ?_
          refine Ops.guardY rfl rfl rfl c48 ?_
          refine Ops.pure rfl (Pure.move rfl) ?_
          refine Ops.guardY rfl rfl rfl c48 ?_
          refine Ops.pure rfl (Pure.leq rfl rfl) ?_
          refine Ops.pure rfl (Pure.pickT rfl c48 rfl) ?_
          refine Ops.nil ?_
          refine Run.cond rfl (fun c52 => ?_) (fun c52 => ?_)
          · skip
            replace c52 := dT c52
            refine Run.skip ?_
            refine Run.seq ?_
            refine Run.block ?_
            refine Run.seq ?_
            have hz0 := hzz k (by omega) (by omega)
            refine Run.region ?_
            refine Ops.pure rfl (Pure.ldBA 0 rfl cell28 rfl rfl rfl) ?_
            refine Ops.pure rfl (Pure.move rfl) ?_
            refine Ops.pure rfl (Pure.move rfl) ?_
            refine Ops.q rfl (QOp.call fn25 rfl (fun w hw => (f_i_CountEdits w a24 c24 x24 l24 (1 + atCo co' 0 4) k (RdL.own 2 rfl w hw) (by omega) (by omega) (by omega) (by omega) (by omega) (by omega) (by omega)).cong (show _ = Value.tuple #[.int .i64 ((cnL a24 c24 (1 + atCo co' 0 4) (lv k 0 [] l24) : Nat) : Int), .int .i64 0] by rw [show scE a24 c24 l24 (1 + atCo co' 0 4) ((k : Nat) : Int) = 0 from small_sc hk24 hA24 hC24 (by omega) (by omega), ce_ok (small_sc hk24 hA24 hC24 (by omega) (by omega))]))) ?_
            refine Ops.pure rfl (Pure.move rfl) ?_
            refine Ops.pure rfl (Pure.extract rfl rfl) ?_
            refine Ops.pure rfl (Pure.extract rfl rfl) ?_
            refine Ops.pure rfl (Pure.assign rfl) ?_
            refine Ops.pure rfl (Pure.assign rfl) ?_
            refine Ops.nil ?_
            refine Run.seq ?_
            refine Run.region ?_
            refine Ops.pure rfl (Pure.move rfl) ?_
            refine Ops.pure rfl (Pure.neq rfl rfl) ?_
            refine Ops.pure rfl (Pure.move rfl) ?_
            refine Ops.guardY rfl rfl rfl (by simp) ?_
            refine Ops.pure rfl (Pure.move rfl) ?_
            refine Ops.guardY rfl rfl rfl (by simp) ?_
            refine Ops.pure rfl (Pure.neq rfl rfl) ?_
            refine Ops.pure rfl (Pure.pickF rfl (by simp) rfl) ?_
            refine Ops.nil ?_
            refine Run.condEF rfl (by rw [hz0]; rfl) ?_
            refine Run.skip ?_
            refine Run.blk ?_
            refine Run.region ?_
            refine Ops.pure rfl (Pure.move rfl) ?_
            refine Ops.pure rfl (Pure.add rfl rfl (by omega) (by omega)) ?_
            refine Ops.pure rfl (Pure.assign rfl) ?_
            refine Ops.nil ?_
            refine Run.asrt ?_
            exact ⟨k + 1, ⟨by omega, by omega⟩, ⟨rfl, rfl, rfl, rfl, rfl, rfl, rfl, trivial⟩, Ext.refl _⟩
          · skip
            replace c52 := dF c52
            refine Run.exit rfl ?_
            refine Run.seq ?_
            refine Run.seq ?_
            refine Run.region ?_
            refine Ops.pure rfl (Pure.move rfl) ?_
            refine Ops.pure rfl (Pure.neq rfl rfl) ?_
            refine Ops.nil ?_
            refine Run.condEF rfl (by rw [decide_eq_true c40]; rfl) ?_
            refine Run.skip ?_
            refine Run.seq ?_
            have hle := feL_size a24 c24 (1 + atCo co' 0 4) M l24
            refine Run.region ?_
            refine Ops.pure rfl (Pure.ldBA 0 rfl cell28 rfl rfl rfl) ?_
            refine Ops.pure rfl (Pure.move rfl) ?_
            refine Ops.go rfl (Loud.callR fn35 rfl (fun w hw => f_s_ApplyEdits w a24 c24 x24 l24 x34 (feL a24 c24 l24 (1 + atCo co' 0 4) M) (RdL.own 2 rfl w hw) (by omega) (by omega) (by omega) (by omega) (by omega) (RdL.own 1 rfl w hw) (by omega))) ?_
            rintro v73 _ ⟨L73, hQ73, rfl⟩
            rw [hk7, zif_yes, zif_yes, lif_yes, hk6] at hQ73
            obtain ⟨x73, h73, rfl, rfl⟩ := hQ73
            refine Ops.pure rfl (Pure.move rfl) ?_
            refine Ops.pure rfl (Pure.extract rfl rfl) ?_
            refine Ops.pure rfl (Pure.extract rfl rfl) ?_
            refine Ops.go rfl (Loud.alloc zero28 rfl) ?_
            rintro _ _ ⟨b14, rfl, rfl⟩
            refine Ops.store (Stores.box 0 rfl rfl rfl size28 (one3 h73) rfl rfl) ?_
            refine Ops.pure rfl (Pure.assign rfl) ?_
            refine Ops.nil ?_
            refine Run.seq ?_
            have hml := okP_inn hk5
            refine Run.region ?_
            refine Ops.pure rfl (Pure.ldBA 0 rfl cell28 rfl rfl rfl) ?_
            refine Ops.q rfl (QOp.call fn33 rfl (fun w hw => f_s_CountCurves w a24 c24 x73 m (RdL.own 1 rfl w hw) (by omega) hk5)) ?_
            refine Ops.pure rfl (Pure.move rfl) ?_
            refine Ops.pure rfl (Pure.extract rfl rfl) ?_
            refine Ops.pure rfl (Pure.extract rfl rfl) ?_
            refine Ops.pure rfl (Pure.assign rfl) ?_
            refine Ops.pure rfl (Pure.assign rfl) ?_
            refine Ops.nil ?_
            refine Run.seq ?_
            have hlk : lim = (kf : Int) := by omega
            rw [hlk]
            refine Run.region ?_
            refine Ops.pure rfl (Pure.ldBA 2 rfl cell28 rfl rfl rfl) ?_
            refine Ops.pure rfl (Pure.move rfl) ?_
            refine Ops.pure rfl (Pure.move rfl) ?_
            refine Ops.q rfl (QOp.call fn25 rfl (fun w hw => (f_i_CountEdits w a24 c24 x24 l24 (1 + atCo co' 0 4) kf (RdL.own 4 rfl w hw) (by omega) (by omega) (by omega) (by omega) (by omega) (by omega) (by omega)).cong (show _ = Value.tuple #[.int .i64 ((cnL a24 c24 (1 + atCo co' 0 4) (lv kf 0 [] l24) : Nat) : Int), .int .i64 0] by rw [show scE a24 c24 l24 (1 + atCo co' 0 4) ((kf : Nat) : Int) = 0 from small_sc hk24 hA24 hC24 (by omega) (by omega), ce_ok (small_sc hk24 hA24 hC24 (by omega) (by omega))]))) ?_
            refine Ops.pure rfl (Pure.move rfl) ?_
            refine Ops.pure rfl (Pure.extract rfl rfl) ?_
            refine Ops.pure rfl (Pure.extract rfl rfl) ?_
            refine Ops.pure rfl (Pure.assign rfl) ?_
            refine Ops.pure rfl (Pure.assign rfl) ?_
            refine Ops.nil ?_
            refine Run.seq ?_
            refine Run.region ?_
            refine Ops.pure rfl (Pure.move rfl) ?_
            refine Ops.pure rfl (Pure.move rfl) ?_
            refine Ops.pure rfl (Pure.leq rfl rfl) ?_
            refine Ops.pure rfl (Pure.move rfl) ?_
            refine Ops.guardY rfl rfl rfl (decide_eq_true (by omega)) ?_
            refine Ops.pure rfl (Pure.move rfl) ?_
            refine Ops.guardY rfl rfl rfl (decide_eq_true (by omega)) ?_
            refine Ops.pure rfl (Pure.eql rfl rfl) ?_
            refine Ops.pure rfl (Pure.pickT rfl (decide_eq_true (by omega)) rfl) ?_
            refine Ops.pure rfl (Pure.move rfl) ?_
            refine Ops.guardY rfl rfl rfl (by simp) ?_
            refine Ops.pure rfl (Pure.move rfl) ?_
            refine Ops.guardY rfl rfl rfl (by simp) ?_
            refine Ops.pure rfl (Pure.eql rfl rfl) ?_
            refine Ops.pure rfl (Pure.pickT rfl (by simp) rfl) ?_
            refine Ops.pure rfl (Pure.move rfl) ?_
            refine Ops.guardY rfl rfl rfl (by simp) ?_
            refine Ops.pure rfl (Pure.move rfl) ?_
            refine Ops.guardY rfl rfl rfl (by simp) ?_
            refine Ops.pure rfl (Pure.move rfl) ?_
            refine Ops.guardY rfl rfl rfl (by simp) ?_
            refine Ops.pure rfl (Pure.eql rfl rfl) ?_
            refine Ops.pure rfl (Pure.pickT rfl (by simp) rfl) ?_
            refine Ops.pure rfl (Pure.move rfl) ?_
            refine Ops.guardY rfl rfl rfl (decide_eq_true hk8) ?_
            refine Ops.pure rfl (Pure.move rfl) ?_
            refine Ops.guardY rfl rfl rfl (decide_eq_true hk8) ?_
            refine Ops.pure rfl (Pure.eql rfl rfl) ?_
            refine Ops.pure rfl (Pure.pickT rfl (decide_eq_true hk8) rfl) ?_
            refine Ops.pure rfl (Pure.move rfl) ?_
            refine Ops.guardY rfl rfl rfl (by simp) ?_
            refine Ops.pure rfl (Pure.move rfl) ?_
            refine Ops.guardY rfl rfl rfl (by simp) ?_
            refine Ops.pure rfl (Pure.geq rfl rfl) ?_
            refine Ops.pure rfl (Pure.pickT rfl (by simp) rfl) ?_
            refine Ops.pure rfl (Pure.assign rfl) ?_
            refine Ops.nil ?_
            refine Run.ret1 rfl rfl ?_
            rw [decide_eq_true (by omega)]
        · skip
          replace c48 := Bool.eq_false_of_ne c48
          have c48' := dF c48
          refine Ops.guardN rfl rfl rfl rfl (by rw [c48]; decide) ?_
          refine Ops.guardN rfl rfl rfl rfl (by rw [c48]; decide) ?_
          refine Ops.pure rfl (Pure.pickF rfl c48 rfl) ?_
          refine Ops.nil ?_
          refine Run.condEF rfl rfl ?_
          refine Run.exit rfl ?_
          refine Run.seq ?_
          refine Run.seq ?_
          refine Run.region ?_
          refine Ops.pure rfl (Pure.move rfl) ?_
          refine Ops.pure rfl (Pure.neq rfl rfl) ?_
          refine Ops.nil ?_
          refine Run.condEF rfl (by rw [decide_eq_true c40]; rfl) ?_
          refine Run.skip ?_
          refine Run.seq ?_
          have hle := feL_size a24 c24 (1 + atCo co' 0 4) M l24
          refine Run.region ?_
          refine Ops.pure rfl (Pure.ldBA 0 rfl cell28 rfl rfl rfl) ?_
          refine Ops.pure rfl (Pure.move rfl) ?_
          refine Ops.go rfl (Loud.callR fn35 rfl (fun w hw => f_s_ApplyEdits w a24 c24 x24 l24 x34 (feL a24 c24 l24 (1 + atCo co' 0 4) M) (RdL.own 2 rfl w hw) (by omega) (by omega) (by omega) (by omega) (by omega) (RdL.own 1 rfl w hw) (by omega))) ?_
          rintro v73 _ ⟨L73, hQ73, rfl⟩
          rw [hk7, zif_yes, zif_yes, lif_yes, hk6] at hQ73
          obtain ⟨x73, h73, rfl, rfl⟩ := hQ73
          refine Ops.pure rfl (Pure.move rfl) ?_
          refine Ops.pure rfl (Pure.extract rfl rfl) ?_
          refine Ops.pure rfl (Pure.extract rfl rfl) ?_
          refine Ops.go rfl (Loud.alloc zero28 rfl) ?_
          rintro _ _ ⟨b14, rfl, rfl⟩
          refine Ops.store (Stores.box 0 rfl rfl rfl size28 (one3 h73) rfl rfl) ?_
          refine Ops.pure rfl (Pure.assign rfl) ?_
          refine Ops.nil ?_
          refine Run.seq ?_
          have hml := okP_inn hk5
          refine Run.region ?_
          refine Ops.pure rfl (Pure.ldBA 0 rfl cell28 rfl rfl rfl) ?_
          refine Ops.q rfl (QOp.call fn33 rfl (fun w hw => f_s_CountCurves w a24 c24 x73 m (RdL.own 1 rfl w hw) (by omega) hk5)) ?_
          refine Ops.pure rfl (Pure.move rfl) ?_
          refine Ops.pure rfl (Pure.extract rfl rfl) ?_
          refine Ops.pure rfl (Pure.extract rfl rfl) ?_
          refine Ops.pure rfl (Pure.assign rfl) ?_
          refine Ops.pure rfl (Pure.assign rfl) ?_
          refine Ops.nil ?_
          refine Run.seq ?_
          have hlk : lim = (kf : Int) := by omega
          rw [hlk]
          refine Run.region ?_
          refine Ops.pure rfl (Pure.ldBA 2 rfl cell28 rfl rfl rfl) ?_
          refine Ops.pure rfl (Pure.move rfl) ?_
          refine Ops.pure rfl (Pure.move rfl) ?_
          refine Ops.q rfl (QOp.call fn25 rfl (fun w hw => (f_i_CountEdits w a24 c24 x24 l24 (1 + atCo co' 0 4) kf (RdL.own 4 rfl w hw) (by omega) (by omega) (by omega) (by omega) (by omega) (by omega) (by omega)).cong (show _ = Value.tuple #[.int .i64 ((cnL a24 c24 (1 + atCo co' 0 4) (lv kf 0 [] l24) : Nat) : Int), .int .i64 0] by rw [show scE a24 c24 l24 (1 + atCo co' 0 4) ((kf : Nat) : Int) = 0 from small_sc hk24 hA24 hC24 (by omega) (by omega), ce_ok (small_sc hk24 hA24 hC24 (by omega) (by omega))]))) ?_
          refine Ops.pure rfl (Pure.move rfl) ?_
          refine Ops.pure rfl (Pure.extract rfl rfl) ?_
          refine Ops.pure rfl (Pure.extract rfl rfl) ?_
          refine Ops.pure rfl (Pure.assign rfl) ?_
          refine Ops.pure rfl (Pure.assign rfl) ?_
          refine Ops.nil ?_
          refine Run.seq ?_
          refine Run.region ?_
          refine Ops.pure rfl (Pure.move rfl) ?_
          refine Ops.pure rfl (Pure.move rfl) ?_
          refine Ops.pure rfl (Pure.leq rfl rfl) ?_
          refine Ops.pure rfl (Pure.move rfl) ?_
          refine Ops.guardY rfl rfl rfl (decide_eq_true (by omega)) ?_
          refine Ops.pure rfl (Pure.move rfl) ?_
          refine Ops.guardY rfl rfl rfl (decide_eq_true (by omega)) ?_
          refine Ops.pure rfl (Pure.eql rfl rfl) ?_
          refine Ops.pure rfl (Pure.pickT rfl (decide_eq_true (by omega)) rfl) ?_
          refine Ops.pure rfl (Pure.move rfl) ?_
          refine Ops.guardY rfl rfl rfl (by simp) ?_
          refine Ops.pure rfl (Pure.move rfl) ?_
          refine Ops.guardY rfl rfl rfl (by simp) ?_
          refine Ops.pure rfl (Pure.eql rfl rfl) ?_
          refine Ops.pure rfl (Pure.pickT rfl (by simp) rfl) ?_
          refine Ops.pure rfl (Pure.move rfl) ?_
          refine Ops.guardY rfl rfl rfl (by simp) ?_
          refine Ops.pure rfl (Pure.move rfl) ?_
          refine Ops.guardY rfl rfl rfl (by simp) ?_
          refine Ops.pure rfl (Pure.move rfl) ?_
          refine Ops.guardY rfl rfl rfl (by simp) ?_
          refine Ops.pure rfl (Pure.eql rfl rfl) ?_
          refine Ops.pure rfl (Pure.pickT rfl (by simp) rfl) ?_
          refine Ops.pure rfl (Pure.move rfl) ?_
          refine Ops.guardY rfl rfl rfl (decide_eq_true hk8) ?_
          refine Ops.pure rfl (Pure.move rfl) ?_
          refine Ops.guardY rfl rfl rfl (decide_eq_true hk8) ?_
          refine Ops.pure rfl (Pure.eql rfl rfl) ?_
          refine Ops.pure rfl (Pure.pickT rfl (decide_eq_true hk8) rfl) ?_
          refine Ops.pure rfl (Pure.move rfl) ?_
          refine Ops.guardY rfl rfl rfl (by simp) ?_
          refine Ops.pure rfl (Pure.move rfl) ?_
          refine Ops.guardY rfl rfl rfl (by simp) ?_
          refine Ops.pure rfl (Pure.geq rfl rfl) ?_
          refine Ops.pure rfl (Pure.pickT rfl (by simp) rfl) ?_
          refine Ops.pure rfl (Pure.assign rfl) ?_
          refine Ops.nil ?_
          refine Run.ret1 rfl rfl ?_
          rw [decide_eq_true (by omega)]
    · skip
      replace c40 := dF c40
      obtain ⟨hn1, hn2⟩ := few_none hsc c40
      refine Run.seq ?_
      refine Run.region ?_
      refine Ops.pure rfl (Pure.move rfl) ?_
      refine Ops.pure rfl (Pure.neq rfl rfl) ?_
      refine Ops.nil ?_
      refine Run.condEF rfl (by rw [hn1]; rfl) ?_
      refine Run.skip ?_
      refine Run.seq ?_
      refine Run.seq ?_
      first
        | (obtain ⟨lim, hlim⟩ : ∃ lim : Int, lim = ((feL a24 c24 l24 (1 + atCo co' 0 4) M).length : Int) := ⟨_, rfl⟩
           refine Run.setv 10 rfl (congrArg (Value.int .i64) hlim.symm) ?_
           have hzz : ∀ j : Nat, (j : Int) < lim → (j : Int) ≤ M → cnL a24 c24 (1 + atCo co' 0 4) (lv j 0 [] l24) = 0 := fun j h1 h2 => hk3 j (by omega))
        | (obtain ⟨lim, hlim⟩ : ∃ lim : Int, lim = (M : Int) + 1 := ⟨_, rfl⟩
           refine Run.setv 10 rfl (congrArg (Value.int .i64) hlim.symm) ?_
           have hzz : ∀ j : Nat, (j : Int) < lim → (j : Int) ≤ M → cnL a24 c24 (1 + atCo co' 0 4) (lv j 0 [] l24) = 0 := fun j h1 h2 => hn2 j h2)
      refine Run.region ?_
      refine Ops.pure rfl (Pure.assign rfl) ?_
      refine Ops.nil ?_
      refine Run.block ?_
      refine Run.loop (X := Nat) (fun k => [(5, .pointer (some ⟨b5, 0, none⟩)), (6, .int .i64 (1 + atCo co' 0 4)), (7, .int .i64 (M : Int)), (8, x34), (9, .int .i64 (feE a24 c24 l24 (1 + atCo co' 0 4) M)), (10, .int .i64 lim), (11, .int .i64 k)]) (fun k => [.box b5 28 [.int .i64 a24, .int .i64 c24, x24], .row 74 2 x34 (feL a24 c24 l24 (1 + atCo co' 0 4) M).length (edits (feL a24 c24 l24 (1 + atCo co' 0 4) M)), .row 2 1 x24 l24.length (ints l24)]) (fun k => k ≤ M + 1) (fun k => M + 1 - k) 0 ?_ ?_ ?_ ?_
      · exact Nat.zero_le _
      · exact ⟨rfl, rfl, rfl, rfl, rfl, rfl, rfl, trivial⟩
      · exact Ext.take 1 rfl (Ext.take 0 rfl (Ext.refl _))
      · intro k hinv0
        refine Run.seq ?_
        refine Run.seq ?_
        refine Run.region ?_
        refine Ops.pure rfl (Pure.move rfl) ?_
        refine Ops.pure rfl (Pure.move rfl) ?_
        refine Ops.pure rfl (Pure.lss rfl rfl) ?_
        refine Ops.pure rfl (Pure.move rfl) ?_
        refine Ops.guard rfl rfl rfl rfl (fun c48 => ?_) (fun c48 => ?_)
        · skip
          have c48' := dT c48
          refine Ops.pure rfl (Pure.move rfl) ?_
          refine Ops.guardY rfl rfl rfl c48 ?_
          refine Ops.pure rfl (Pure.move rfl) ?_
          refine Ops.guardY rfl rfl rfl c48 ?_
          refine Ops.pure rfl (Pure.leq rfl rfl) ?_
          refine Ops.pure rfl (Pure.pickT rfl c48 rfl) ?_
          refine Ops.nil ?_
          refine Run.cond rfl (fun c52 => ?_) (fun c52 => ?_)
          · skip
            replace c52 := dT c52
            refine Run.skip ?_
            refine Run.seq ?_
            refine Run.block ?_
            refine Run.seq ?_
            have hz0 := hzz k (by omega) (by omega)
            refine Run.region ?_
            refine Ops.pure rfl (Pure.ldBA 0 rfl cell28 rfl rfl rfl) ?_
            refine Ops.pure rfl (Pure.move rfl) ?_
            refine Ops.pure rfl (Pure.move rfl) ?_
            refine Ops.q rfl (QOp.call fn25 rfl (fun w hw => (f_i_CountEdits w a24 c24 x24 l24 (1 + atCo co' 0 4) k (RdL.own 2 rfl w hw) (by omega) (by omega) (by omega) (by omega) (by omega) (by omega) (by omega)).cong (show _ = Value.tuple #[.int .i64 ((cnL a24 c24 (1 + atCo co' 0 4) (lv k 0 [] l24) : Nat) : Int), .int .i64 0] by rw [show scE a24 c24 l24 (1 + atCo co' 0 4) ((k : Nat) : Int) = 0 from small_sc hk24 hA24 hC24 (by omega) (by omega), ce_ok (small_sc hk24 hA24 hC24 (by omega) (by omega))]))) ?_
            refine Ops.pure rfl (Pure.move rfl) ?_
            refine Ops.pure rfl (Pure.extract rfl rfl) ?_
            refine Ops.pure rfl (Pure.extract rfl rfl) ?_
            refine Ops.pure rfl (Pure.assign rfl) ?_
            refine Ops.pure rfl (Pure.assign rfl) ?_
            refine Ops.nil ?_
            refine Run.seq ?_
            refine Run.region ?_
            refine Ops.pure rfl (Pure.move rfl) ?_
            refine Ops.pure rfl (Pure.neq rfl rfl) ?_
            refine Ops.pure rfl (Pure.move rfl) ?_
            refine Ops.guardY rfl rfl rfl (by simp) ?_
            refine Ops.pure rfl (Pure.move rfl) ?_
            refine Ops.guardY rfl rfl rfl (by simp) ?_
            refine Ops.pure rfl (Pure.neq rfl rfl) ?_
            refine Ops.pure rfl (Pure.pickF rfl (by simp) rfl) ?_
            refine Ops.nil ?_
            refine Run.condEF rfl (by rw [hz0]; rfl) ?_
            refine Run.skip ?_
            refine Run.blk ?_
            refine Run.region ?_
            refine Ops.pure rfl (Pure.move rfl) ?_
            refine Ops.pure rfl (Pure.add rfl rfl (by omega) (by omega)) ?_
            refine Ops.pure rfl (Pure.assign rfl) ?_
            refine Ops.nil ?_
            refine Run.asrt ?_
            exact ⟨k + 1, ⟨by omega, by omega⟩, ⟨rfl, rfl, rfl, rfl, rfl, rfl, rfl, trivial⟩, Ext.refl _⟩
          · skip
            replace c52 := dF c52
            refine Run.exit rfl ?_
            refine Run.seq ?_
            refine Run.seq ?_
            refine Run.region ?_
            refine Ops.pure rfl (Pure.move rfl) ?_
            refine Ops.pure rfl (Pure.neq rfl rfl) ?_
            refine Ops.nil ?_
            refine Run.condE rfl (by rw [decide_eq_false c40]; rfl) ?_
            refine Run.seq ?_
            refine Run.region ?_
            refine Ops.pure rfl (Pure.assign rfl) ?_
            refine Ops.nil ?_
            refine Run.ret1 rfl rfl ?_
            rfl
        · skip
          replace c48 := Bool.eq_false_of_ne c48
          have c48' := dF c48
          refine Ops.guardN rfl rfl rfl rfl (by rw [c48]; decide) ?_
          refine Ops.guardN rfl rfl rfl rfl (by rw [c48]; decide) ?_
          refine Ops.pure rfl (Pure.pickF rfl c48 rfl) ?_
          refine Ops.nil ?_
          refine Run.condEF rfl rfl ?_
          refine Run.exit rfl ?_
          refine Run.seq ?_
          refine Run.seq ?_
          refine Run.region ?_
          refine Ops.pure rfl (Pure.move rfl) ?_
          refine Ops.pure rfl (Pure.neq rfl rfl) ?_
          refine Ops.nil ?_
          refine Run.condE rfl (by rw [decide_eq_false c40]; rfl) ?_
          refine Run.seq ?_
          refine Run.region ?_
          refine Ops.pure rfl (Pure.assign rfl) ?_
          refine Ops.nil ?_
          refine Run.ret1 rfl rfl ?_
          rfl

end Go.Proofs.Ytkplanpcmkbfiaa
