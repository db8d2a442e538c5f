/- Contracts of functions, printed by program from annotations. -/
import Derived.Test.YtmfinopdokkjcaaAwv
import Derived.Test.YtmfinopdokkjcaaTbF
import Derived.Test.YtmfinopdokkjcaaTab3
import Derived.Test.YtmfinopdokkjcaaDrw3
namespace Go.Proofs.Ytmfinopdokkjcaa
open Go Go.AW Go.RowKit
set_option linter.unusedVariables false
set_option linter.unusedSimpArgs false

set_option maxRecDepth 4000 in
/-- laws.f6ints -/
theorem f_l_f6ints (w : World) (v : Value) (u : Value) (l : List Int) (m : List Int) (hv : Rd w v 1 l.length (ints l)) (hu : Rd w u 1 m.length (ints m)) (hl : l.length ≤ 1073741824) (hm : m.length ≤ 1073741824) : RetV Try.prog 55 [v, u] w (.bool (decide (l = m))) := by
  refine Ret.enter Try.func55 rfl Try.ntmps55 rfl ?_
  refine Run.seq ?_
  refine Run.region ?_
  refine Ops.pure rfl (Pure.assign rfl) ?_
  refine Ops.nil ?_
  refine Run.seq ?_
  refine Run.seq ?_
  refine Run.region ?_
  refine Ops.pure rfl (Pure.move rfl) ?_
  refine Ops.pure rfl (Pure.len sl32 (RdL.old hv) rfl) ?_
  refine Ops.pure rfl (Pure.move rfl) ?_
  refine Ops.pure rfl (Pure.len sl32 (RdL.old hu) rfl) ?_
  refine Ops.pure rfl (Pure.neq rfl rfl) ?_
  refine Ops.nil ?_
  refine Run.cond rfl (fun c10 => ?_) (fun c10 => ?_)
  · skip
    replace c10 := nT c10
    refine Run.seq ?_
    refine Run.region ?_
    refine Ops.pure rfl (Pure.assign rfl) ?_
    refine Ops.nil ?_
    refine Run.ret1 rfl rfl ?_
    rw [decide_eq_false (by rintro rfl; exact c10 rfl)]
  · skip
    replace c10 := nF c10
    have hlen : l.length = m.length := by omega
    refine Run.skip ?_
    refine Run.seq ?_
    refine Run.seq ?_
    refine Run.region ?_
    refine Ops.pure rfl (Pure.assign rfl) ?_
    refine Ops.nil ?_
    refine Run.block ?_
    refine Run.loop (X := Nat) (fun k => [(0, v), (1, u), (5, .int .i64 k)]) (fun k => []) (fun k => k ≤ l.length ∧ ∀ j, j < k → l.getD j 0 = m.getD j 0) (fun k => l.length - k) 0 ?_ ?_ ?_ ?_
    · exact ⟨by omega, by omega⟩
    · exact ⟨rfl, rfl, rfl, trivial⟩
    · exact Ext.refl _
    · intro k hinv0
      refine Run.seq ?_
      refine Run.seq ?_
      refine Run.region ?_
      refine Ops.pure rfl (Pure.move rfl) ?_
      refine Ops.pure rfl (Pure.move rfl) ?_
      refine Ops.pure rfl (Pure.len sl32 (RdL.old hv) rfl) ?_
      refine Ops.pure rfl (Pure.lss rfl rfl) ?_
      refine Ops.nil ?_
      refine Run.cond rfl (fun c14 => ?_) (fun c14 => ?_)
      · skip
        replace c14 := dT c14
        refine Run.skip ?_
        refine Run.seq ?_
        refine Run.block ?_
        refine Run.seq ?_
        refine Any.start follows ?_
        refine Any.take 0 rfl (by kernel_rfl) rfl (QOp.pure (Pure.move rfl)) ?_
        refine Any.take 1 rfl (by kernel_rfl) rfl (QOp.pure (Pure.move rfl)) ?_
        refine Any.take 2 rfl (by kernel_rfl) rfl (QOp.pure (Pure.idx1N sl32 (RdL.old hv) rfl rfl (by first | assumption | omega | (simp; omega)))) ?_
        refine Any.take 3 rfl (by kernel_rfl) rfl (QOp.pure (Pure.ld cell2 rfl (RdL.old hv) (by first | exact ints_get (by omega) | exact bools_get (by omega) | exact strs_get (by omega) | exact vals_get (by first | omega | (simp; omega))))) ?_
        refine Any.take 4 rfl (by kernel_rfl) rfl (QOp.pure (Pure.move rfl)) ?_
        refine Any.take 5 rfl (by kernel_rfl) rfl (QOp.pure (Pure.move rfl)) ?_
        refine Any.take 6 rfl (by kernel_rfl) rfl (QOp.pure (Pure.idx1N sl32 (RdL.old hu) rfl rfl (by first | assumption | omega | (simp; omega)))) ?_
        refine Any.take 7 rfl (by kernel_rfl) rfl (QOp.pure (Pure.ld cell2 rfl (RdL.old hu) (by first | exact ints_get (by omega) | exact bools_get (by omega) | exact strs_get (by omega) | exact vals_get (by first | omega | (simp; omega))))) ?_
        refine Any.take 8 rfl (by kernel_rfl) rfl (QOp.pure (Pure.neq rfl rfl)) ?_
        refine Any.done (by kernel_rfl) ?_
        refine Run.cond rfl (fun c25 => ?_) (fun c25 => ?_)
        · skip
          replace c25 := nT c25
          refine Run.seq ?_
          refine Run.region ?_
          refine Ops.pure rfl (Pure.assign rfl) ?_
          refine Ops.nil ?_
          refine Run.ret1 rfl rfl ?_
          rw [decide_eq_false (by rintro rfl; exact c25 rfl)]
        · skip
          replace c25 := nF c25
          refine Run.skip ?_
          refine Run.blk ?_
          refine Run.region ?_
          refine Ops.pure rfl (Pure.move rfl) ?_
          refine Ops.pure rfl (Pure.add rfl rfl (by omega) (by omega)) ?_
          refine Ops.pure rfl (Pure.assign rfl) ?_
          refine Ops.nil ?_
          refine Run.asrt ?_
          exact ⟨k + 1, ⟨⟨by omega, fun j hj => step_lt (p := fun j => l.getD j 0 = m.getD j 0) hj hinv0.2 c25⟩, by omega⟩, ⟨rfl, rfl, rfl, trivial⟩, Ext.nil _⟩
      · skip
        replace c14 := dF c14
        refine Run.exit rfl ?_
        refine Run.seq ?_
        refine Run.region ?_
        refine Ops.pure rfl (Pure.assign rfl) ?_
        refine Ops.nil ?_
        refine Run.ret1 rfl rfl ?_
        rw [decide_eq_true (ext_getD 0 hlen (fun j hj => hinv0.2 j (by omega)))]

set_option maxRecDepth 4000 in
/-- laws.f6big -/
theorem f_l_f6big (w : World) (v : Value) (n : Nat) (xs : List Value) (hv : Rd w v 1 n xs) : RetV Try.prog 31 [v] w (.bool (decide (4096 < n))) := by
  refine Ret.enter Try.func31 rfl Try.ntmps31 rfl ?_
  refine Run.seq ?_
  refine Run.region ?_
  refine Ops.pure rfl (Pure.assign rfl) ?_
  refine Ops.nil ?_
  refine Run.seq ?_
  refine Run.region ?_
  refine Ops.pure rfl (Pure.move rfl) ?_
  refine Ops.pure rfl (Pure.len sl22 (RdL.old hv) rfl) ?_
  refine Ops.pure rfl (Pure.gtr rfl rfl) ?_
  refine Ops.pure rfl (Pure.assign rfl) ?_
  refine Ops.nil ?_
  refine Run.ret1 rfl rfl ?_
  first
    | rfl
    | (simp only [Value.bool.injEq, decide_eq_decide]; omega)

set_option maxRecDepth 4000 in
/-- laws.f6texts -/
theorem f_l_f6texts (w : World) (v : Value) (u : Value) (l : List ByteArray) (m : List ByteArray) (hv : Rd w v 1 l.length (strs l)) (hu : Rd w u 1 m.length (strs m)) (hl : l.length ≤ 1048576) (hm : m.length ≤ 1048576) : RetV Try.prog 56 [v, u] w (.bool (decide (l = m))) := by
  refine Ret.enter Try.func56 rfl Try.ntmps56 rfl ?_
  refine Run.seq ?_
  refine Run.region ?_
  refine Ops.pure rfl (Pure.assign rfl) ?_
  refine Ops.nil ?_
  refine Run.seq ?_
  refine Run.seq ?_
  refine Run.region ?_
  refine Ops.pure rfl (Pure.move rfl) ?_
  refine Ops.pure rfl (Pure.len sl58 (RdL.old hv) rfl) ?_
  refine Ops.pure rfl (Pure.move rfl) ?_
  refine Ops.pure rfl (Pure.len sl58 (RdL.old hu) rfl) ?_
  refine Ops.pure rfl (Pure.neq rfl rfl) ?_
  refine Ops.nil ?_
  refine Run.cond rfl (fun c10 => ?_) (fun c10 => ?_)
  · skip
    replace c10 := nT c10
    refine Run.seq ?_
    refine Run.region ?_
    refine Ops.pure rfl (Pure.assign rfl) ?_
    refine Ops.nil ?_
    refine Run.ret1 rfl rfl ?_
    rw [decide_eq_false (by rintro rfl; exact c10 rfl)]
  · skip
    replace c10 := nF c10
    have hlen : l.length = m.length := by omega
    refine Run.skip ?_
    refine Run.seq ?_
    refine Run.seq ?_
    refine Run.region ?_
    refine Ops.pure rfl (Pure.assign rfl) ?_
    refine Ops.nil ?_
    refine Run.block ?_
    refine Run.loop (X := Nat) (fun k => [(0, v), (1, u), (5, .int .i64 k)]) (fun k => []) (fun k => k ≤ l.length ∧ ∀ j, j < k → l.getD j ByteArray.empty = m.getD j ByteArray.empty) (fun k => l.length - k) 0 ?_ ?_ ?_ ?_
    · exact ⟨by omega, by omega⟩
    · exact ⟨rfl, rfl, rfl, trivial⟩
    · exact Ext.refl _
    · intro k hinv0
      refine Run.seq ?_
      refine Run.seq ?_
      refine Run.region ?_
      refine Ops.pure rfl (Pure.move rfl) ?_
      refine Ops.pure rfl (Pure.move rfl) ?_
      refine Ops.pure rfl (Pure.len sl58 (RdL.old hv) rfl) ?_
      refine Ops.pure rfl (Pure.lss rfl rfl) ?_
      refine Ops.nil ?_
      refine Run.cond rfl (fun c14 => ?_) (fun c14 => ?_)
      · skip
        replace c14 := dT c14
        refine Run.skip ?_
        refine Run.seq ?_
        refine Run.block ?_
        refine Run.seq ?_
        refine AnyK.start ([]) follows (Ext.nil _) ?_
        refine AnyK.take 0 rfl (by kernel_rfl) rfl (QOp.pure (Pure.move rfl)) ?_
        refine AnyK.take 1 rfl (by kernel_rfl) rfl (QOp.pure (Pure.move rfl)) ?_
        refine AnyK.take 2 rfl (by kernel_rfl) rfl (QOp.pure (Pure.idx1N sl58 (RdL.old hv) rfl rfl (by first | assumption | omega | (simp; omega)))) ?_
        refine AnyK.take 3 rfl (by kernel_rfl) rfl (QOp.pure (Pure.ld cell9 rfl (RdL.old hv) (by first | exact ints_get (by omega) | exact bools_get (by omega) | exact strs_get (by omega) | exact vals_get (by first | omega | (simp; omega))))) ?_
        refine AnyK.take 4 rfl (by kernel_rfl) rfl (QOp.pure (Pure.move rfl)) ?_
        refine AnyK.take 5 rfl (by kernel_rfl) rfl (QOp.pure (Pure.move rfl)) ?_
        refine AnyK.take 6 rfl (by kernel_rfl) rfl (QOp.pure (Pure.idx1N sl58 (RdL.old hu) rfl rfl (by first | assumption | omega | (simp; omega)))) ?_
        refine AnyK.take 7 rfl (by kernel_rfl) rfl (QOp.pure (Pure.ld cell9 rfl (RdL.old hu) (by first | exact ints_get (by omega) | exact bools_get (by omega) | exact strs_get (by omega) | exact vals_get (by first | omega | (simp; omega))))) ?_
        refine AnyK.take 8 rfl (by kernel_rfl) rfl (QOp.pure (Pure.neqS rfl rfl)) ?_
        refine AnyK.done (by kernel_rfl) ?_
        refine Run.setv 25 rfl (congrArg (fun x => Value.bool (!x)) (eqS_iff _ _)) ?_
        refine Run.cond rfl (fun c25 => ?_) (fun c25 => ?_)
        · skip
          replace c25 := nT c25
          refine Run.seq ?_
          refine Run.region ?_
          refine Ops.pure rfl (Pure.assign rfl) ?_
          refine Ops.nil ?_
          refine Run.ret1 rfl rfl ?_
          rw [decide_eq_false (by rintro rfl; exact c25 rfl)]
        · skip
          replace c25 := nF c25
          refine Run.skip ?_
          refine Run.blk ?_
          refine Run.region ?_
          refine Ops.pure rfl (Pure.move rfl) ?_
          refine Ops.pure rfl (Pure.add rfl rfl (by omega) (by omega)) ?_
          refine Ops.pure rfl (Pure.assign rfl) ?_
          refine Ops.nil ?_
          refine Run.asrt ?_
          exact ⟨k + 1, ⟨⟨by omega, fun j hj => step_lt (p := fun j => l.getD j ByteArray.empty = m.getD j ByteArray.empty) hj hinv0.2 c25⟩, by omega⟩, ⟨rfl, rfl, rfl, trivial⟩, Ext.nil _⟩
      · skip
        replace c14 := dF c14
        refine Run.exit rfl ?_
        refine Run.seq ?_
        refine Run.region ?_
        refine Ops.pure rfl (Pure.assign rfl) ?_
        refine Ops.nil ?_
        refine Run.ret1 rfl rfl ?_
        rw [decide_eq_true (ext_getD ByteArray.empty hlen (fun j hj => hinv0.2 j (by omega)))]

theorem as_bd {t : List Int} {M : Int} (h : ∀ x ∈ t, 0 ≤ x ∧ x ≤ M) : ∀ k : Nat, k ≤ t.length → 0 ≤ asTo t k ∧ asTo t k ≤ k * M
  | 0, _ => by show (0 : Int) ≤ 0 ∧ (0 : Int) ≤ ((0 : Nat) : Int) * M; simp
  | k + 1, hk => by
    have ih := as_bd h k (by omega)
    have h1 := h _ (mem_of_getD (l := t) (k := k) (x := t.getD k 0) (by omega) rfl)
    have e : ((k + 1 : Nat) : Int) * M = (k : Int) * M + M := by rw [Int.natCast_succ, Int.add_mul, Int.one_mul]
    rw [e]
    show 0 ≤ asTo t k + t.getD k 0 ∧ asTo t k + t.getD k 0 ≤ _
    omega

set_option maxRecDepth 4000 in
set_option maxHeartbeats 1000000 in
/-- laws.FnCurveTables -/
theorem f_l_FnCurveTables (w : World) (vc : Value) (co : List Int) (hc : Rd w vc 1 co.length (AW.bytes co)) (hcl : co.length ≤ 9223372036854775807) (hb : ∀ x ∈ co, 0 ≤ x ∧ x ≤ 255) : RetV Try.prog 7 [vc] w (.bool true) := by
  refine Ret.enter Try.func7 rfl Try.ntmps7 rfl ?_
  refine Run.seq ?_
  refine Run.region ?_
  refine Ops.pure rfl (Pure.assign rfl) ?_
  refine Ops.nil ?_
  refine Run.seq ?_
  refine Run.seq ?_
  refine Run.region ?_
  refine Ops.pure rfl (Pure.move rfl) ?_
  refine Ops.q rfl (QOp.call fn31 rfl (fun w hw => f_l_f6big w vc _ _ (RdL.old hc w hw))) ?_
  refine Ops.nil ?_
  refine Run.cond rfl (fun c34 => ?_) (fun c34 => ?_)
  · skip
    replace c34 := dT c34
    refine Run.seq ?_
    refine Run.region ?_
    refine Ops.pure rfl (Pure.assign rfl) ?_
    refine Ops.nil ?_
    refine Run.ret1 rfl rfl ?_
    rfl
  · skip
    replace c34 := dF c34
    have hcl2 : co.length ≤ 1000000000 := by omega
    refine Run.skip ?_
    refine Run.seq ?_
    refine Run.region ?_
    refine Ops.pure rfl (Pure.move rfl) ?_
    refine Ops.go rfl (Loud.callR fn46 rfl (fun w hw => f_s_DrawCurveTable w vc co (RdL.old hc w hw) hb hcl2)) ?_
    rintro v37 _ ⟨L37, hQ37, rfl⟩
    obtain ⟨a37, c37, ha37, hA37, hc37, hC37, rfl, rfl⟩ := hQ37
    refine Ops.pure rfl (Pure.move rfl) ?_
    refine Ops.pure rfl (Pure.extract rfl rfl) ?_
    refine Ops.pure rfl (Pure.extract rfl rfl) ?_
    refine Ops.pure rfl (Pure.assign rfl) ?_
    refine Ops.pure rfl (Pure.assign rfl) ?_
    refine Ops.nil ?_
    refine Run.seq ?_
    have hz1 := tabE_size a37 c37
    have hz2 := mtE_size a37 c37
    have hz3 := tlL_size a37 c37
    refine Run.region ?_
    refine Ops.pure rfl (Pure.move rfl) ?_
    refine Ops.pure rfl (Pure.move rfl) ?_
    refine Ops.go rfl (Loud.callR fn47 rfl (fun w hw => f_i_CurveTable w a37 c37 (by omega) (by omega) (by omega) (by omega))) ?_
    rintro v43 _ ⟨L43, hQ43, rfl⟩
    obtain ⟨x43, rfl, rfl⟩ := hQ43
    refine Ops.pure rfl (Pure.move rfl) ?_
    refine Ops.pure rfl (Pure.extract rfl rfl) ?_
    refine Ops.pure rfl (Pure.extract rfl rfl) ?_
    refine Ops.pure rfl (Pure.assign rfl) ?_
    refine Ops.pure rfl (Pure.assign rfl) ?_
    refine Ops.nil ?_
    refine Run.seq ?_
    refine Run.region ?_
    refine Ops.pure rfl (Pure.move rfl) ?_
    refine Ops.pure rfl (Pure.move rfl) ?_
    refine Ops.go rfl (Loud.callR fn48 rfl (fun w hw => f_s_CurveTable w a37 c37 (by omega) (by omega) (by omega) (by omega))) ?_
    rintro v49 _ ⟨L49, hQ49, rfl⟩
    obtain ⟨x49, rfl, rfl⟩ := hQ49
    refine Ops.pure rfl (Pure.move rfl) ?_
    refine Ops.pure rfl (Pure.extract rfl rfl) ?_
    refine Ops.pure rfl (Pure.extract rfl rfl) ?_
    refine Ops.pure rfl (Pure.assign rfl) ?_
    refine Ops.pure rfl (Pure.assign rfl) ?_
    refine Ops.nil ?_
    refine Run.seq ?_
    refine Run.region ?_
    refine Ops.pure rfl (Pure.move rfl) ?_
    refine Ops.pure rfl (Pure.move rfl) ?_
    refine Ops.go rfl (Loud.callR fn49 rfl (fun w hw => f_i_MirrorTable w a37 c37 (by omega) (by omega) (by omega) (by omega))) ?_
    rintro v55 _ ⟨L55, hQ55, rfl⟩
    obtain ⟨x55, rfl, rfl⟩ := hQ55
    refine Ops.pure rfl (Pure.move rfl) ?_
    refine Ops.pure rfl (Pure.extract rfl rfl) ?_
    refine Ops.pure rfl (Pure.extract rfl rfl) ?_
    refine Ops.pure rfl (Pure.assign rfl) ?_
    refine Ops.pure rfl (Pure.assign rfl) ?_
    refine Ops.nil ?_
    refine Run.seq ?_
    refine Run.region ?_
    refine Ops.pure rfl (Pure.move rfl) ?_
    refine Ops.pure rfl (Pure.move rfl) ?_
    refine Ops.go rfl (Loud.callR fn50 rfl (fun w hw => f_s_MirrorTable w a37 c37 (by omega) (by omega) (by omega) (by omega))) ?_
    rintro v61 _ ⟨L61, hQ61, rfl⟩
    obtain ⟨x61, rfl, rfl⟩ := hQ61
    refine Ops.pure rfl (Pure.move rfl) ?_
    refine Ops.pure rfl (Pure.extract rfl rfl) ?_
    refine Ops.pure rfl (Pure.extract rfl rfl) ?_
    refine Ops.pure rfl (Pure.assign rfl) ?_
    refine Ops.pure rfl (Pure.assign rfl) ?_
    refine Ops.nil ?_
    refine Run.seq ?_
    refine Run.region ?_
    refine Ops.pure rfl (Pure.move rfl) ?_
    refine Ops.pure rfl (Pure.move rfl) ?_
    refine Ops.q rfl (QOp.call fn51 rfl (fun w hw => f_i_MeanCurves w a37 c37 (by omega) (by omega) (by omega) (by omega))) ?_
    refine Ops.pure rfl (Pure.move rfl) ?_
    refine Ops.pure rfl (Pure.extract rfl rfl) ?_
    refine Ops.pure rfl (Pure.extract rfl rfl) ?_
    refine Ops.pure rfl (Pure.assign rfl) ?_
    refine Ops.pure rfl (Pure.assign rfl) ?_
    refine Ops.nil ?_
    refine Run.seq ?_
    refine Run.region ?_
    refine Ops.pure rfl (Pure.move rfl) ?_
    refine Ops.pure rfl (Pure.move rfl) ?_
    refine Ops.q rfl (QOp.call fn52 rfl (fun w hw => f_s_MeanCurves w a37 c37 (by omega) (by omega) (by omega) (by omega))) ?_
    refine Ops.pure rfl (Pure.move rfl) ?_
    refine Ops.pure rfl (Pure.extract rfl rfl) ?_
    refine Ops.pure rfl (Pure.extract rfl rfl) ?_
    refine Ops.pure rfl (Pure.assign rfl) ?_
    refine Ops.pure rfl (Pure.assign rfl) ?_
    refine Ops.nil ?_
    refine Run.seq ?_
    refine Run.region ?_
    refine Ops.pure rfl (Pure.move rfl) ?_
    refine Ops.pure rfl (Pure.move rfl) ?_
    refine Ops.go rfl (Loud.callR fn53 rfl (fun w hw => f_i_TableLines w a37 c37 (by omega) (by omega) (by omega) (by omega))) ?_
    rintro v79 _ ⟨L79, hQ79, rfl⟩
    obtain ⟨x79, rfl, rfl⟩ := hQ79
    refine Ops.pure rfl (Pure.move rfl) ?_
    refine Ops.pure rfl (Pure.extract rfl rfl) ?_
    refine Ops.pure rfl (Pure.extract rfl rfl) ?_
    refine Ops.pure rfl (Pure.assign rfl) ?_
    refine Ops.pure rfl (Pure.assign rfl) ?_
    refine Ops.nil ?_
    refine Run.seq ?_
    refine Run.region ?_
    refine Ops.pure rfl (Pure.move rfl) ?_
    refine Ops.pure rfl (Pure.move rfl) ?_
    refine Ops.go rfl (Loud.callR fn54 rfl (fun w hw => f_s_TableLines w a37 c37 (by omega) (by omega) (by omega) (by omega))) ?_
    rintro v85 _ ⟨L85, hQ85, rfl⟩
    obtain ⟨x85, rfl, rfl⟩ := hQ85
    refine Ops.pure rfl (Pure.move rfl) ?_
    refine Ops.pure rfl (Pure.extract rfl rfl) ?_
    refine Ops.pure rfl (Pure.extract rfl rfl) ?_
    refine Ops.pure rfl (Pure.assign rfl) ?_
    refine Ops.pure rfl (Pure.assign rfl) ?_
    refine Ops.nil ?_
    refine Run.seq ?_
    refine Run.region ?_
    refine Ops.pure rfl (Pure.move rfl) ?_
    refine Ops.pure rfl (Pure.move rfl) ?_
    refine Ops.q rfl (QOp.call fn30 rfl (fun w hw => f_i_CanonicalCount w a37 c37 (by omega) (by omega) (by omega) (by omega))) ?_
    refine Ops.pure rfl (Pure.move rfl) ?_
    refine Ops.pure rfl (Pure.extract rfl rfl) ?_
    refine Ops.pure rfl (Pure.extract rfl rfl) ?_
    refine Ops.pure rfl (Pure.assign rfl) ?_
    refine Ops.pure rfl (Pure.assign rfl) ?_
    refine Ops.nil ?_
    refine Run.seq ?_
    refine Run.region ?_
    refine Ops.pure rfl (Pure.move rfl) ?_
    refine Ops.pure rfl (Pure.move rfl) ?_
    refine Ops.q rfl (QOp.call fn29 rfl (fun w hw => (f_s_CanonicalCount w a37 c37 (by omega) (by omega) (by omega) (by omega)).cong (by rw [cn_eq]))) ?_
    refine Ops.pure rfl (Pure.move rfl) ?_
    refine Ops.pure rfl (Pure.extract rfl rfl) ?_
    refine Ops.pure rfl (Pure.extract rfl rfl) ?_
    refine Ops.pure rfl (Pure.assign rfl) ?_
    refine Ops.pure rfl (Pure.assign rfl) ?_
    refine Ops.nil ?_
    refine Run.seq ?_
    refine Run.seq ?_
    refine Run.region ?_
    refine Ops.pure rfl (Pure.move rfl) ?_
    refine Ops.pure rfl (Pure.move rfl) ?_
    refine Ops.pure rfl (Pure.neq rfl rfl) ?_
    refine Ops.pure rfl (Pure.move rfl) ?_
    refine Ops.guardY rfl rfl rfl (by simp) ?_
    refine Ops.pure rfl (Pure.move rfl) ?_
    refine Ops.guardY rfl rfl rfl (by simp) ?_
    refine Ops.pure rfl (Pure.move rfl) ?_
    refine Ops.guardY rfl rfl rfl (by simp) ?_
    refine Ops.q rfl (QOp.call fn55 rfl (fun w hw => (f_l_f6ints w x43 x49 (tabE a37 c37) (tabE a37 c37) (RdL.own 5 rfl w hw) (RdL.own 4 rfl w hw) (by omega) (by omega)).cong (show _ = Value.bool true by simp))) ?_
    refine Ops.guardY rfl rfl rfl (by simp) ?_
    refine Ops.pure rfl (Pure.not rfl) ?_
    refine Ops.pure rfl (Pure.pickF rfl (by simp) rfl) ?_
    refine Ops.pure rfl (Pure.move rfl) ?_
    refine Ops.guardY rfl rfl rfl rfl ?_
    refine Ops.pure rfl (Pure.move rfl) ?_
    refine Ops.guardY rfl rfl rfl rfl ?_
    refine Ops.pure rfl (Pure.move rfl) ?_
    refine Ops.guardY rfl rfl rfl rfl ?_
    refine Ops.pure rfl (Pure.neq rfl rfl) ?_
    refine Ops.pure rfl (Pure.pickF rfl rfl rfl) ?_
    refine Ops.pure rfl (Pure.move rfl) ?_
    refine Ops.guardY rfl rfl rfl (by simp) ?_
    refine Ops.pure rfl (Pure.move rfl) ?_
    refine Ops.guardY rfl rfl rfl (by simp) ?_
    refine Ops.pure rfl (Pure.move rfl) ?_
    refine Ops.guardY rfl rfl rfl (by simp) ?_
    refine Ops.q rfl (QOp.call fn55 rfl (fun w hw => (f_l_f6ints w x55 x61 (mtE a37 c37) (mtE a37 c37) (RdL.own 3 rfl w hw) (RdL.own 2 rfl w hw) (by omega) (by omega)).cong (show _ = Value.bool true by simp))) ?_
    refine Ops.guardY rfl rfl rfl (by simp) ?_
    refine Ops.pure rfl (Pure.not rfl) ?_
    refine Ops.pure rfl (Pure.pickF rfl (by simp) rfl) ?_
    refine Ops.pure rfl (Pure.move rfl) ?_
    refine Ops.guardY rfl rfl rfl rfl ?_
    refine Ops.pure rfl (Pure.move rfl) ?_
    refine Ops.guardY rfl rfl rfl rfl ?_
    refine Ops.pure rfl (Pure.move rfl) ?_
    refine Ops.guardY rfl rfl rfl rfl ?_
    refine Ops.pure rfl (Pure.neq rfl rfl) ?_
    refine Ops.pure rfl (Pure.pickF rfl rfl rfl) ?_
    refine Ops.pure rfl (Pure.move rfl) ?_
    refine Ops.guardY rfl rfl rfl (by simp) ?_
    refine Ops.pure rfl (Pure.move rfl) ?_
    refine Ops.guardY rfl rfl rfl (by simp) ?_
    refine Ops.pure rfl (Pure.move rfl) ?_
    refine Ops.guardY rfl rfl rfl (by simp) ?_
    refine Ops.pure rfl (Pure.neq rfl rfl) ?_
    refine Ops.pure rfl (Pure.pickF rfl (by simp) rfl) ?_
    refine Ops.pure rfl (Pure.move rfl) ?_
    refine Ops.guardY rfl rfl rfl (by simp) ?_
    refine Ops.pure rfl (Pure.move rfl) ?_
    refine Ops.guardY rfl rfl rfl (by simp) ?_
    refine Ops.pure rfl (Pure.move rfl) ?_
    refine Ops.guardY rfl rfl rfl (by simp) ?_
    refine Ops.pure rfl (Pure.neq rfl rfl) ?_
    refine Ops.pure rfl (Pure.pickF rfl (by simp) rfl) ?_
    refine Ops.pure rfl (Pure.move rfl) ?_
    refine Ops.guardY rfl rfl rfl (by simp) ?_
    refine Ops.pure rfl (Pure.move rfl) ?_
    refine Ops.guardY rfl rfl rfl (by simp) ?_
    refine Ops.pure rfl (Pure.move rfl) ?_
    refine Ops.guardY rfl rfl rfl (by simp) ?_
    refine Ops.q rfl (QOp.call fn56 rfl (fun w hw => (f_l_f6texts w x79 x85 (tlL a37 c37) (tlL a37 c37) (RdL.own 1 rfl w hw) (RdL.own 0 rfl w hw) (by omega) (by omega)).cong (show _ = Value.bool true by simp))) ?_
    refine Ops.guardY rfl rfl rfl (by simp) ?_
    refine Ops.pure rfl (Pure.not rfl) ?_
    refine Ops.pure rfl (Pure.pickF rfl (by simp) rfl) ?_
    refine Ops.pure rfl (Pure.move rfl) ?_
    refine Ops.guardY rfl rfl rfl rfl ?_
    refine Ops.pure rfl (Pure.move rfl) ?_
    refine Ops.guardY rfl rfl rfl rfl ?_
    refine Ops.pure rfl (Pure.move rfl) ?_
    refine Ops.guardY rfl rfl rfl rfl ?_
    refine Ops.pure rfl (Pure.neq rfl rfl) ?_
    refine Ops.pure rfl (Pure.pickF rfl rfl rfl) ?_
    refine Ops.pure rfl (Pure.move rfl) ?_
    refine Ops.guardY rfl rfl rfl (by simp) ?_
    refine Ops.pure rfl (Pure.move rfl) ?_
    refine Ops.guardY rfl rfl rfl (by simp) ?_
    refine Ops.pure rfl (Pure.move rfl) ?_
    refine Ops.guardY rfl rfl rfl (by simp) ?_
    refine Ops.pure rfl (Pure.neq rfl rfl) ?_
    refine Ops.pure rfl (Pure.pickF rfl (by simp) rfl) ?_
    refine Ops.nil ?_
    refine Run.condEF rfl (by simp) ?_
    refine Run.skip ?_
    refine Run.seq ?_
    refine Run.seq ?_
    refine Run.region ?_
    refine Ops.pure rfl (Pure.move rfl) ?_
    refine Ops.pure rfl (Pure.neq rfl rfl) ?_
    refine Ops.nil ?_
    refine Run.cond rfl (fun c152 => ?_) (fun c152 => ?_)
    · skip
      replace c152 := nT c152
      refine Run.seq ?_
      refine Run.region ?_
      refine Ops.pure rfl (Pure.assign rfl) ?_
      refine Ops.nil ?_
      refine Run.ret1 rfl rfl ?_
      rfl
    · skip
      replace c152 := nF c152
      obtain ⟨hs9, hm9, hpn⟩ := pc_zero c152
      have hmp := many_pos a37 c37
      have htm : ∀ x ∈ tabE a37 c37, 0 ≤ x ∧ x ≤ 2500 := fun x hx => by
        rw [tabE_ok c152] at hx
        have := tab_mem _ x hx
        omega
      have hmm9 : ∀ x ∈ mtE a37 c37, 0 ≤ x ∧ x ≤ 2500 := fun x hx => by
        rw [mtE_ok c152] at hx
        have := mt_mem a37 c37 _ x hx
        omega
      have hts : asTo (tabE a37 c37) (tabE a37 c37).length = many a37 c37 := by rw [tabE_ok c152]; exact tab_sum _ _ _
      have htl : 1 < (tabE a37 c37).length := by rw [tabE_ok c152]; exact tab_len hs9 hmp
      have ht0 : (tabE a37 c37).getD 0 0 = 0 := by rw [tabE_ok c152]; exact tab_zero hs9 _
      have hms : asTo (mtE a37 c37) (mtE a37 c37).length = (tabE a37 c37).getD 1 0 := by rw [mtE_ok c152, tabE_ok c152, length_mt]; exact mt_sum _ _ _
      have hkl := key_le a37 c37 (many a37 c37)
      have hk8 := key_eight hs9 hm9
      have hcn := cnN_ok c152
      refine Run.skip ?_
      refine Run.seq ?_
      refine Run.region ?_
      refine Ops.pure rfl (Pure.assign rfl) ?_
      refine Ops.nil ?_
      refine Run.seq ?_
      refine Run.seq ?_
      refine Run.region ?_
      refine Ops.pure rfl (Pure.assign rfl) ?_
      refine Ops.nil ?_
      refine Run.block ?_
      refine Run.loop (X := Nat) (fun k => [(3, .int .i64 a37), (4, .int .i64 c37), (5, x43), (9, x55), (21, .int .i64 (cnN a37 c37)), (25, .int .i64 (asTo (tabE a37 c37) k)), (26, .int .i64 k)]) (fun k => [.row 2 1 x43 (tabE a37 c37).length (ints (tabE a37 c37)), .row 2 1 x55 (mtE a37 c37).length (ints (mtE a37 c37))]) (fun k => k ≤ (tabE a37 c37).length) (fun k => (tabE a37 c37).length - k) 0 ?_ ?_ ?_ ?_
      · exact Nat.zero_le _
      · exact ⟨rfl, rfl, rfl, rfl, rfl, rfl, rfl, trivial⟩
      · exact Ext.take 5 rfl (Ext.take 3 rfl (Ext.nil _))
      · intro k hinv0
        have hab := as_bd htm k hinv0
        have hat := fun (h : k < (tabE a37 c37).length) => htm _ (mem_of_getD h rfl)
        refine Run.seq ?_
        refine Run.seq ?_
        refine Run.region ?_
        refine Ops.pure rfl (Pure.move rfl) ?_
        refine Ops.pure rfl (Pure.move rfl) ?_
        refine Ops.pure rfl (Pure.len sl32 (RdL.own 0 rfl) rfl) ?_
        refine Ops.pure rfl (Pure.lss rfl rfl) ?_
        refine Ops.nil ?_
        refine Run.cond rfl (fun c156 => ?_) (fun c156 => ?_)
        · skip
          replace c156 := dT c156
          refine Run.skip ?_
          refine Run.seq ?_
          refine Run.block ?_
          refine Run.region ?_
          refine Ops.pure rfl (Pure.move rfl) ?_
          refine Ops.pure rfl (Pure.move rfl) ?_
          refine Ops.pure rfl (Pure.move rfl) ?_
          refine Ops.pure rfl (Pure.idx1N sl32 (RdL.own 0 rfl) rfl rfl (by first | assumption | omega | (simp; omega))) ?_
          refine Ops.pure rfl (Pure.ld cell2 rfl (RdL.own 0 rfl) (by first | exact ints_get (by omega) | exact bools_get (by omega) | exact strs_get (by omega) | exact vals_get (by first | omega | (simp; omega)))) ?_
          refine Ops.pure rfl (Pure.add rfl rfl (by omega) (by omega)) ?_
          refine Ops.pure rfl (Pure.assign rfl) ?_
          refine Ops.nil ?_
          refine Run.blk ?_
          refine Run.region ?_
          refine Ops.pure rfl (Pure.move rfl) ?_
          refine Ops.pure rfl (Pure.add rfl rfl (by omega) (by omega)) ?_
          refine Ops.pure rfl (Pure.assign rfl) ?_
          refine Ops.nil ?_
          refine Run.asrt ?_
          exact ⟨k + 1, ⟨by omega, by omega⟩, ⟨rfl, rfl, rfl, rfl, rfl, rfl, rfl, trivial⟩, Ext.refl _⟩
        · skip
          replace c156 := dF c156
          refine Run.exit rfl ?_
          refine Run.seq ?_
          have e : k = (tabE a37 c37).length := by omega
          subst e
          rw [hts]
          refine Run.region ?_
          refine Ops.pure rfl (Pure.assign rfl) ?_
          refine Ops.nil ?_
          refine Run.seq ?_
          refine Run.seq ?_
          refine Run.region ?_
          refine Ops.pure rfl (Pure.assign rfl) ?_
          refine Ops.nil ?_
          refine Run.block ?_
          refine Run.loop (X := Nat) (fun j => [(3, .int .i64 a37), (4, .int .i64 c37), (5, x43), (9, x55), (21, .int .i64 (cnN a37 c37)), (25, .int .i64 (many a37 c37 : Int)), (27, .int .i64 (asTo (mtE a37 c37) j)), (28, .int .i64 j)]) (fun j => [.row 2 1 x43 (tabE a37 c37).length (ints (tabE a37 c37)), .row 2 1 x55 (mtE a37 c37).length (ints (mtE a37 c37))]) (fun j => j ≤ (mtE a37 c37).length) (fun j => (mtE a37 c37).length - j) 0 ?_ ?_ ?_ ?_
          · exact Nat.zero_le _
          · exact ⟨rfl, rfl, rfl, rfl, rfl, rfl, rfl, rfl, trivial⟩
          · exact Ext.refl _
          · intro j hinv1
            have hab := as_bd hmm9 j hinv1
            have hat := fun (h : j < (mtE a37 c37).length) => hmm9 _ (mem_of_getD h rfl)
            refine Run.seq ?_
            refine Run.seq ?_
            refine Run.region ?_
            refine Ops.pure rfl (Pure.move rfl) ?_
            refine Ops.pure rfl (Pure.move rfl) ?_
            refine Ops.pure rfl (Pure.len sl32 (RdL.own 1 rfl) rfl) ?_
            refine Ops.pure rfl (Pure.lss rfl rfl) ?_
            refine Ops.nil ?_
            refine Run.cond rfl (fun c168 => ?_) (fun c168 => ?_)
            · skip
              replace c168 := dT c168
              refine Run.skip ?_
              refine Run.seq ?_
              refine Run.block ?_
              refine Run.region ?_
              refine Ops.pure rfl (Pure.move rfl) ?_
              refine Ops.pure rfl (Pure.move rfl) ?_
              refine Ops.pure rfl (Pure.move rfl) ?_
              refine Ops.pure rfl (Pure.idx1N sl32 (RdL.own 1 rfl) rfl rfl (by first | assumption | omega | (simp; omega))) ?_
              refine Ops.pure rfl (Pure.ld cell2 rfl (RdL.own 1 rfl) (by first | exact ints_get (by omega) | exact bools_get (by omega) | exact strs_get (by omega) | exact vals_get (by first | omega | (simp; omega)))) ?_
              refine Ops.pure rfl (Pure.add rfl rfl (by omega) (by omega)) ?_
              refine Ops.pure rfl (Pure.assign rfl) ?_
              refine Ops.nil ?_
              refine Run.blk ?_
              refine Run.region ?_
              refine Ops.pure rfl (Pure.move rfl) ?_
              refine Ops.pure rfl (Pure.add rfl rfl (by omega) (by omega)) ?_
              refine Ops.pure rfl (Pure.assign rfl) ?_
              refine Ops.nil ?_
              refine Run.asrt ?_
              exact ⟨j + 1, ⟨by omega, by omega⟩, ⟨rfl, rfl, rfl, rfl, rfl, rfl, rfl, rfl, trivial⟩, Ext.refl _⟩
            · skip
              replace c168 := dF c168
              refine Run.exit rfl ?_
              refine Run.seq ?_
              have e : j = (mtE a37 c37).length := by omega
              subst e
              rw [hms]
              refine Run.region ?_
              refine Ops.pure rfl (Pure.move rfl) ?_
              refine Ops.pure rfl (Pure.move rfl) ?_
              refine Ops.go rfl (Loud.callR fn47 rfl (fun w hw => f_i_CurveTable w c37 a37 (by omega) (by omega) (by omega) (by omega))) ?_
              rintro v180 _ ⟨L180, hQ180, rfl⟩
              rw [tabE_swap a37 c37, pcE_swap a37 c37, c152] at hQ180
              obtain ⟨x180, rfl, rfl⟩ := hQ180
              refine Ops.pure rfl (Pure.move rfl) ?_
              refine Ops.pure rfl (Pure.extract rfl rfl) ?_
              refine Ops.pure rfl (Pure.extract rfl rfl) ?_
              refine Ops.pure rfl (Pure.assign rfl) ?_
              refine Ops.pure rfl (Pure.assign rfl) ?_
              refine Ops.nil ?_
              refine Run.seq ?_
              refine Run.region ?_
              refine Ops.pure rfl (Pure.move rfl) ?_
              refine Ops.pure rfl (Pure.move rfl) ?_
              refine Ops.q rfl (QOp.call fn39 rfl (fun w hw => (f_i_PanelCount w a37 c37 (by omega) (by omega) (by omega) (by omega)).cong (show _ = Value.tuple #[.int .i64 (many a37 c37 : Int), .int .i64 0] by rw [hpn, c152]))) ?_
              refine Ops.pure rfl (Pure.move rfl) ?_
              refine Ops.pure rfl (Pure.extract rfl rfl) ?_
              refine Ops.pure rfl (Pure.extract rfl rfl) ?_
              refine Ops.pure rfl (Pure.assign rfl) ?_
              refine Ops.pure rfl (Pure.assign rfl) ?_
              refine Ops.nil ?_
              refine Run.seq ?_
              refine Run.region ?_
              refine Ops.pure rfl (Pure.move rfl) ?_
              refine Ops.pure rfl (Pure.len sl32 (RdL.own 1 rfl) rfl) ?_
              refine Ops.pure rfl (Pure.gtr rfl rfl) ?_
              refine Ops.pure rfl (Pure.move rfl) ?_
              refine Ops.guardY rfl rfl rfl (decide_eq_true (by omega)) ?_
              refine Ops.pure rfl (Pure.move rfl) ?_
              refine Ops.guardY rfl rfl rfl (decide_eq_true (by omega)) ?_
              refine Ops.pure rfl (Pure.idx1N sl32 (RdL.own 1 rfl) rfl rfl (by first | assumption | omega | (simp; omega))) ?_
              refine Ops.guardY rfl rfl rfl (decide_eq_true (by omega)) ?_
              refine Ops.pure rfl (Pure.ld (j := 0) cell2 rfl (RdL.own 1 rfl) (ints_get (l := (tabE a37 c37)) (k := 0) (by omega))) ?_
              refine Ops.guardY rfl rfl rfl (decide_eq_true (by omega)) ?_
              refine Ops.pure rfl (Pure.eql rfl rfl) ?_
              refine Ops.pure rfl (Pure.pickT rfl (decide_eq_true (by omega)) rfl) ?_
              refine Ops.pure rfl (Pure.move rfl) ?_
              refine Ops.guardY rfl rfl rfl (decide_eq_true ht0) ?_
              refine Ops.pure rfl (Pure.move rfl) ?_
              refine Ops.guardY rfl rfl rfl (decide_eq_true ht0) ?_
              refine Ops.pure rfl (Pure.eql rfl rfl) ?_
              refine Ops.pure rfl (Pure.pickT rfl (decide_eq_true ht0) rfl) ?_
              refine Ops.pure rfl (Pure.move rfl) ?_
              refine Ops.guardY rfl rfl rfl (by simp) ?_
              refine Ops.pure rfl (Pure.move rfl) ?_
              refine Ops.guardY rfl rfl rfl (by simp) ?_
              refine Ops.pure rfl (Pure.move rfl) ?_
              refine Ops.guardY rfl rfl rfl (by simp) ?_
              refine Ops.pure rfl (Pure.eql rfl rfl) ?_
              refine Ops.pure rfl (Pure.pickT rfl (by simp) rfl) ?_
              refine Ops.pure rfl (Pure.move rfl) ?_
              refine Ops.guardY rfl rfl rfl (by simp) ?_
              refine Ops.pure rfl (Pure.move rfl) ?_
              refine Ops.guardY rfl rfl rfl (by simp) ?_
              refine Ops.pure rfl (Pure.move rfl) ?_
              refine Ops.guardY rfl rfl rfl (by simp) ?_
              refine Ops.pure rfl (Pure.idx1N sl32 (RdL.own 1 rfl) rfl rfl (by first | assumption | omega | (simp; omega))) ?_
              refine Ops.guardY rfl rfl rfl (by simp) ?_
              refine Ops.pure rfl (Pure.ld (j := 1) cell2 rfl (RdL.own 1 rfl) (ints_get (l := (tabE a37 c37)) (k := 1) (by omega))) ?_
              refine Ops.guardY rfl rfl rfl (by simp) ?_
              refine Ops.pure rfl (Pure.eql rfl rfl) ?_
              refine Ops.pure rfl (Pure.pickT rfl (by simp) rfl) ?_
              refine Ops.pure rfl (Pure.move rfl) ?_
              refine Ops.guardY rfl rfl rfl (by simp) ?_
              refine Ops.pure rfl (Pure.move rfl) ?_
              refine Ops.guardY rfl rfl rfl (by simp) ?_
              refine Ops.pure rfl (Pure.eql rfl rfl) ?_
              refine Ops.pure rfl (Pure.pickT rfl (by simp) rfl) ?_
              refine Ops.pure rfl (Pure.move rfl) ?_
              refine Ops.guardY rfl rfl rfl (by simp) ?_
              refine Ops.pure rfl (Pure.move rfl) ?_
              refine Ops.guardY rfl rfl rfl (by simp) ?_
              refine Ops.pure rfl (Pure.move rfl) ?_
              refine Ops.guardY rfl rfl rfl (by simp) ?_
              refine Ops.q rfl (QOp.call fn55 rfl (fun w hw => (f_l_f6ints w x180 x43 (tabE a37 c37) (tabE a37 c37) (RdL.own 0 rfl w hw) (RdL.own 1 rfl w hw) (by omega) (by omega)).cong (show _ = Value.bool true by simp))) ?_
              refine Ops.pure rfl (Pure.pickT rfl (by simp) rfl) ?_
              refine Ops.pure rfl (Pure.move rfl) ?_
              refine Ops.guardY rfl rfl rfl rfl ?_
              refine Ops.pure rfl (Pure.move rfl) ?_
              refine Ops.guardY rfl rfl rfl rfl ?_
              refine Ops.pure rfl (Pure.move rfl) ?_
              refine Ops.guardY rfl rfl rfl rfl ?_
              refine Ops.pure rfl (Pure.leq rfl rfl) ?_
              refine Ops.pure rfl (Pure.pickT rfl rfl rfl) ?_
              refine Ops.pure rfl (Pure.move rfl) ?_
              refine Ops.guardY rfl rfl rfl (decide_eq_true (by rw [hcn]; omega)) ?_
              refine Ops.pure rfl (Pure.move rfl) ?_
              refine Ops.guardY rfl rfl rfl (decide_eq_true (by rw [hcn]; omega)) ?_
              refine Ops.pure rfl (Pure.mul rfl rfl (by omega) (by omega)) ?_
              refine Ops.guardY rfl rfl rfl (decide_eq_true (by rw [hcn]; omega)) ?_
              refine Ops.pure rfl (Pure.move rfl) ?_
              refine Ops.guardY rfl rfl rfl (decide_eq_true (by rw [hcn]; omega)) ?_
              refine Ops.pure rfl (Pure.geq rfl rfl) ?_
              refine Ops.pure rfl (Pure.pickT rfl (decide_eq_true (by rw [hcn]; omega)) rfl) ?_
              refine Ops.pure rfl (Pure.assign rfl) ?_
              refine Ops.nil ?_
              refine Run.ret1 rfl rfl ?_
              first
                | rfl
                | (rw [hcn, decide_eq_true (by omega)])
                | (rw [decide_eq_true (by rw [hcn]; omega)])

end Go.Proofs.Ytmfinopdokkjcaa
