/- Contracts of functions, printed by program from annotations. -/
import Derived.Test.YtmfinopdokkjcaaDrw3
import Derived.Test.YtmfinopdokkjcaaStpL
namespace Go.Proofs.Ytmfinopdokkjcaa
open Go Go.AW Go.RowKit
set_option linter.unusedVariables false
set_option linter.unusedSimpArgs false

theorem ic_bad {a b x y : Int} {l : List Int} (h : okP a b l = false) : ptE a b l x y = 1 := by unfold ptE; rw [if_neg (by rw [h]; decide)]
theorem ic_out {a b x y : Int} {l : List Int} (h : okP a b l = true) (hp : ¬ PtOk a b x y) : ptE a b l x y = 2 := by unfold ptE; rw [if_pos h, if_neg hp]
theorem ic_edge {a b x y : Int} {l : List Int} (h : okP a b l = true) (hp : PtOk a b x y) (he : Edge a b x y) : ptE a b l x y = 6 := by unfold ptE; rw [if_pos h, if_pos hp, if_pos he]
theorem ic_ok {a b x y : Int} {l : List Int} (h : okP a b l = true) (hp : PtOk a b x y) (he : ¬ Edge a b x y) : ptE a b l x y = 0 := by unfold ptE; rw [if_pos h, if_pos hp, if_neg he]
theorem ic_zero {a b x y : Int} {l : List Int} (h : ptE a b l x y = 0) : okP a b l = true ∧ PtOk a b x y ∧ ¬ Edge a b x y := by
  unfold ptE at h
  split at h
  · split at h
    · split at h
      · omega
      · exact ⟨by assumption, by assumption, by assumption⟩
    · omega
  · omega
theorem ic_in {a b x y : Int} {l : List Int} : (ptE a b l x y = 0 ∨ ptE a b l x y = 6) ↔ (okP a b l = true ∧ PtOk a b x y) := by
  unfold ptE
  by_cases h1 : okP a b l = true
  · rw [if_pos h1]
    by_cases h2 : PtOk a b x y
    · rw [if_pos h2]
      by_cases h3 : Edge a b x y
      · rw [if_pos h3]; exact ⟨fun _ => ⟨h1, h2⟩, fun _ => .inr rfl⟩
      · rw [if_neg h3]; exact ⟨fun _ => ⟨h1, h2⟩, fun _ => .inl rfl⟩
    · rw [if_neg h2]; exact ⟨fun h => by omega, fun h => absurd h.2 h2⟩
  · rw [if_neg h1]; exact ⟨fun h => by omega, fun h => absurd h.1 h1⟩
/-- .. and a kind -/
def exE (a b : Int) (l : List Int) (x y k : Int) : Int := if (ptE a b l x y = 0 ∨ ptE a b l x y = 6) ∧ ¬ (0 ≤ k ∧ k ≤ 2) then 2 else ptE a b l x y
theorem ex_kind {a b x y k : Int} {l : List Int} (h : (ptE a b l x y = 0 ∨ ptE a b l x y = 6) ∧ ¬ (0 ≤ k ∧ k ≤ 2)) : exE a b l x y k = 2 := by unfold exE; rw [if_pos h]
theorem ex_plain {a b x y k : Int} {l : List Int} (h : ¬ ((ptE a b l x y = 0 ∨ ptE a b l x y = 6) ∧ ¬ (0 ≤ k ∧ k ≤ 2))) : exE a b l x y k = ptE a b l x y := by unfold exE; rw [if_neg h]
theorem ex_zero {a b x y k : Int} {l : List Int} (h : exE a b l x y k = 0) : okP a b l = true ∧ PtOk a b x y ∧ ¬ Edge a b x y ∧ 0 ≤ k ∧ k ≤ 2 := by
  unfold exE at h
  split at h
  · omega
  · rename_i hn
    have hk : 0 ≤ k ∧ k ≤ 2 := Decidable.by_contra (fun hk => hn ⟨.inl h, hk⟩)
    obtain ⟨h1, h2, h3⟩ := ic_zero h
    exact ⟨h1, h2, h3, hk.1, hk.2⟩
/-- what a change does -/
def exN (a b : Int) (l : List Int) (x y k : Int) : Int := if exE a b l x y k = 0 then (cnt a b (l.set (num a x y).toNat k) : Int) - cnt a b l else 0
theorem exN_bad {a b x y k : Int} {l : List Int} (h : ¬ exE a b l x y k = 0) : exN a b l x y k = 0 := by unfold exN; rw [if_neg h]
theorem exN_ok {a b x y k : Int} {l : List Int} (h : exE a b l x y k = 0) : exN a b l x y k = (cnt a b (l.set (num a x y).toNat k) : Int) - cnt a b l := by unfold exN; rw [if_pos h]
def eaL (a b : Int) (l : List Int) (x y : Int) : List Int := if ptE a b l x y = 0 then effTo a b l (num a x y).toNat 3 else []
theorem ea_bad {a b x y : Int} {l : List Int} (h : ¬ ptE a b l x y = 0) : eaL a b l x y = [] := by unfold eaL; rw [if_neg h]
theorem ea_ok {a b x y : Int} {l : List Int} (h : ptE a b l x y = 0) : eaL a b l x y = effTo a b l (num a x y).toNat 3 := by unfold eaL; rw [if_pos h]
/-- whether one of the first kinds makes a wanted difference -/
def anyJ (P : Int → Bool) (a b : Int) (l : List Int) (k j : Nat) : Bool := (List.range j).any fun i => P (cw a b l k i - cnt a b l)
theorem anyJ_zero (P : Int → Bool) (a b : Int) (l : List Int) (k : Nat) : anyJ P a b l k 0 = false := rfl
theorem anyJ_succ (P : Int → Bool) (a b : Int) (l : List Int) (k j : Nat) : anyJ P a b l k (j + 1) = (anyJ P a b l k j || P (cw a b l k j - cnt a b l)) := by unfold anyJ; rw [List.range_succ, List.any_append]; simp
theorem anyJ_up {P : Int → Bool} {a b : Int} {l : List Int} {k j : Nat} (h : anyJ P a b l k (j + 1) = true) (hj : j < 3) : anyJ P a b l k 3 = true := by
  unfold anyJ at *
  rw [List.any_eq_true] at *
  obtain ⟨i, h1, h2⟩ := h
  exact ⟨i, List.mem_range.2 (by have := List.mem_range.1 h1; omega), h2⟩
def whL (P : Int → Bool) (a b : Int) (l : List Int) (n : Nat) : List Int := ((List.range n).filter fun k => anyJ P a b l k 3).map fun (k : Nat) => (k : Int)
theorem whL_yes {P : Int → Bool} {a b : Int} {l : List Int} {k : Nat} (h : anyJ P a b l k 3 = true) : whL P a b l (k + 1) = whL P a b l k ++ [(k : Int)] := by
  unfold whL
  rw [List.range_succ, List.filter_append, List.filter_cons_of_pos (by exact h), List.filter_nil, List.map_append]
  rfl
theorem whL_no {P : Int → Bool} {a b : Int} {l : List Int} {k : Nat} (h : anyJ P a b l k 3 = false) : whL P a b l (k + 1) = whL P a b l k := by
  unfold whL
  rw [List.range_succ, List.filter_append, List.filter_cons_of_neg (by rw [h]; decide), List.filter_nil, List.append_nil]
theorem length_whL (P : Int → Bool) (a b : Int) (l : List Int) (n : Nat) : (whL P a b l n).length ≤ n := by
  unfold whL
  rw [List.length_map]
  exact Nat.le_trans (List.length_filter_le _ _) (by rw [List.length_range]; exact Nat.le_refl _)
def wpL (P : Int → Bool) (a b : Int) (l : List Int) : List Int := if okP a b l = true then whL P a b l l.length else []
theorem wp_ok {P : Int → Bool} {a b : Int} {l : List Int} (h : okP a b l = true) : wpL P a b l = whL P a b l l.length ∧ okE a b l = 0 := ⟨by unfold wpL; rw [if_pos h], (crC_ok h).2⟩
theorem wp_bad {P : Int → Bool} {a b : Int} {l : List Int} (h : okP a b l = false) : wpL P a b l = [] ∧ okE a b l = 1 := ⟨by unfold wpL; rw [if_neg (by rw [h]; decide)], (crC_bad h).2⟩
theorem wpL_size (P : Int → Bool) (a b : Int) (l : List Int) : (wpL P a b l).length ≤ l.length := by
  unfold wpL
  split
  · exact length_whL P a b l l.length
  · exact Nat.zero_le _
def neg0 (x : Int) : Bool := decide (x < 0)
def pos0 (x : Int) : Bool := decide (0 < x)
theorem eff_two {a b : Int} {l : List Int} {k i j : Nat} (hk : okP a b l = true) (hkl : k < l.length) (hi : i < 3) (hj : j < 3) : -1 ≤ cw a b l k i - cw a b l k j ∧ cw a b l k i - cw a b l k j ≤ 1 := by
  have h1 := okP_set hk k (y := (i : Int)) (by omega) (by omega)
  have h2 := cnt_set (k := k) (y := (j : Int)) h1 (by rw [List.length_set]; exact hkl) (by omega) (by omega)
  rw [List.set_set] at h2
  unfold cw
  omega

set_option maxRecDepth 4000 in
/-- laws.f6ints -/
theorem f_l_f6ints (w : World) (v : Value) (u : Value) (l : List Int) (m : List Int) (hv : Rd w v 1 l.length (ints l)) (hu : Rd w u 1 m.length (ints m)) (hl : l.length ≤ 1073741824) (hm : m.length ≤ 1073741824) : RetV Try.prog 55 [v, u] w (.bool (decide (l = m))) := by
  refine Ret.enter Try.func55 rfl Try.ntmps55 rfl ?_
  refine Run.seq ?_
  refine Run.region ?_
  refine Ops.pure rfl (Pure.assign rfl) ?_
  refine Ops.nil ?_
  refine Run.seq ?_
  refine Run.seq ?_
  refine Run.region ?_
  refine Ops.pure rfl (Pure.move rfl) ?_
  refine Ops.pure rfl (Pure.len sl32 (RdL.old hv) rfl) ?_
  refine Ops.pure rfl (Pure.move rfl) ?_
  refine Ops.pure rfl (Pure.len sl32 (RdL.old hu) rfl) ?_
  refine Ops.pure rfl (Pure.neq rfl rfl) ?_
  refine Ops.nil ?_
  refine Run.cond rfl (fun c10 => ?_) (fun c10 => ?_)
  · skip
    replace c10 := nT c10
    refine Run.seq ?_
    refine Run.region ?_
    refine Ops.pure rfl (Pure.assign rfl) ?_
    refine Ops.nil ?_
    refine Run.ret1 rfl rfl ?_
    rw [decide_eq_false (by rintro rfl; exact c10 rfl)]
  · skip
    replace c10 := nF c10
    have hlen : l.length = m.length := by omega
    refine Run.skip ?_
    refine Run.seq ?_
    refine Run.seq ?_
    refine Run.region ?_
    refine Ops.pure rfl (Pure.assign rfl) ?_
    refine Ops.nil ?_
    refine Run.block ?_
    refine Run.loop (X := Nat) (fun k => [(0, v), (1, u), (5, .int .i64 k)]) (fun k => []) (fun k => k ≤ l.length ∧ ∀ j, j < k → l.getD j 0 = m.getD j 0) (fun k => l.length - k) 0 ?_ ?_ ?_ ?_
    · exact ⟨by omega, by omega⟩
    · exact ⟨rfl, rfl, rfl, trivial⟩
    · exact Ext.refl _
    · intro k hinv0
      refine Run.seq ?_
      refine Run.seq ?_
      refine Run.region ?_
      refine Ops.pure rfl (Pure.move rfl) ?_
      refine Ops.pure rfl (Pure.move rfl) ?_
      refine Ops.pure rfl (Pure.len sl32 (RdL.old hv) rfl) ?_
      refine Ops.pure rfl (Pure.lss rfl rfl) ?_
      refine Ops.nil ?_
      refine Run.cond rfl (fun c14 => ?_) (fun c14 => ?_)
      · skip
        replace c14 := dT c14
        refine Run.skip ?_
        refine Run.seq ?_
        refine Run.block ?_
        refine Run.seq ?_
        refine Any.start follows ?_
        refine Any.take 0 rfl (by kernel_rfl) rfl (QOp.pure (Pure.move rfl)) ?_
        refine Any.take 1 rfl (by kernel_rfl) rfl (QOp.pure (Pure.move rfl)) ?_
        refine Any.take 2 rfl (by kernel_rfl) rfl (QOp.pure (Pure.idx1N sl32 (RdL.old hv) rfl rfl (by first | assumption | omega | (simp; omega)))) ?_
        refine Any.take 3 rfl (by kernel_rfl) rfl (QOp.pure (Pure.ld cell2 rfl (RdL.old hv) (by first | exact ints_get (by omega) | exact bools_get (by omega) | exact strs_get (by omega) | exact vals_get (by first | omega | (simp; omega))))) ?_
        refine Any.take 4 rfl (by kernel_rfl) rfl (QOp.pure (Pure.move rfl)) ?_
        refine Any.take 5 rfl (by kernel_rfl) rfl (QOp.pure (Pure.move rfl)) ?_
        refine Any.take 6 rfl (by kernel_rfl) rfl (QOp.pure (Pure.idx1N sl32 (RdL.old hu) rfl rfl (by first | assumption | omega | (simp; omega)))) ?_
        refine Any.take 7 rfl (by kernel_rfl) rfl (QOp.pure (Pure.ld cell2 rfl (RdL.old hu) (by first | exact ints_get (by omega) | exact bools_get (by omega) | exact strs_get (by omega) | exact vals_get (by first | omega | (simp; omega))))) ?_
        refine Any.take 8 rfl (by kernel_rfl) rfl (QOp.pure (Pure.neq rfl rfl)) ?_
        refine Any.done (by kernel_rfl) ?_
        refine Run.cond rfl (fun c25 => ?_) (fun c25 => ?_)
        · skip
          replace c25 := nT c25
          refine Run.seq ?_
          refine Run.region ?_
          refine Ops.pure rfl (Pure.assign rfl) ?_
          refine Ops.nil ?_
          refine Run.ret1 rfl rfl ?_
          rw [decide_eq_false (by rintro rfl; exact c25 rfl)]
        · skip
          replace c25 := nF c25
          refine Run.skip ?_
          refine Run.blk ?_
          refine Run.region ?_
          refine Ops.pure rfl (Pure.move rfl) ?_
          refine Ops.pure rfl (Pure.add rfl rfl (by omega) (by omega)) ?_
          refine Ops.pure rfl (Pure.assign rfl) ?_
          refine Ops.nil ?_
          refine Run.asrt ?_
          exact ⟨k + 1, ⟨⟨by omega, fun j hj => step_lt (p := fun j => l.getD j 0 = m.getD j 0) hj hinv0.2 c25⟩, by omega⟩, ⟨rfl, rfl, rfl, trivial⟩, Ext.nil _⟩
      · skip
        replace c14 := dF c14
        refine Run.exit rfl ?_
        refine Run.seq ?_
        refine Run.region ?_
        refine Ops.pure rfl (Pure.assign rfl) ?_
        refine Ops.nil ?_
        refine Run.ret1 rfl rfl ?_
        rw [decide_eq_true (ext_getD 0 hlen (fun j hj => hinv0.2 j (by omega)))]

set_option maxRecDepth 4000 in
/-- impl.innerCode -/
theorem f_ic (w : World) (a : Int) (b : Int) (v : Value) (l : List Int) (x : Int) (y : Int) (hv : Rd w v 1 l.length (ints l)) (hl : l.length ≤ 1073741824) (a0 : -9223372036854775808 ≤ a) (a1 : a ≤ 9223372036854775807) (b0 : -9223372036854775808 ≤ b) (b1 : b ≤ 9223372036854775807) : RetV Try.prog 138 [.agg #[.int .i64 a, .int .i64 b, v], .agg #[.int .i64 x, .int .i64 y]] w (.int .i64 (ptE a b l x y)) := by
  refine Ret.enter Try.func138 rfl Try.ntmps138 rfl ?_
  refine Run.seq ?_
  refine Run.region ?_
  refine Ops.go rfl (Loud.box rfl rfl) ?_
  rintro _ _ ⟨b2, rfl, rfl⟩
  refine Ops.go rfl (Loud.box rfl rfl) ?_
  rintro _ _ ⟨b3, rfl, rfl⟩
  refine Ops.pure rfl (Pure.assign rfl) ?_
  refine Ops.nil ?_
  refine Run.seq ?_
  refine Run.block ?_
  refine Run.seq ?_
  refine Run.region ?_
  refine Ops.pure rfl (Pure.ldBA 1 rfl cell35 rfl rfl rfl) ?_
  refine Ops.q rfl (QOp.call fn96 rfl (fun w hw => f_i_ValidPanel w _ _ _ _ (by exact RdL.old (by assumption) w hw) (by assumption) (by assumption) (by assumption) (by assumption) (by assumption))) ?_
  refine Ops.pure rfl (Pure.not rfl) ?_
  refine Ops.pure rfl (Pure.assign rfl) ?_
  refine Ops.nil ?_
  refine Run.cond rfl (fun c5 => ?_) (fun c5 => ?_)
  · skip
    replace c5 := bT c5
    refine Run.seq ?_
    refine Run.region ?_
    refine Ops.pure rfl (Pure.assign rfl) ?_
    refine Ops.nil ?_
    refine Run.ret1 rfl rfl ?_
    rw [ic_bad (by simpa using c5)]
  · skip
    replace c5 := bF c5
    have hk : okP a b l = true := by simpa using c5
    have hs := okP_size hk
    refine Run.seq ?_
    refine Run.region ?_
    refine Ops.pure rfl (Pure.ldBA 1 rfl cell35 rfl rfl rfl) ?_
    refine Ops.pure rfl (Pure.ldBA 0 rfl cell72 rfl rfl rfl) ?_
    refine Ops.q rfl (QOp.call fn197 rfl (fun w hw => f_i_Panel_isPoint w a b v x y hs)) ?_
    refine Ops.pure rfl (Pure.not rfl) ?_
    refine Ops.pure rfl (Pure.assign rfl) ?_
    refine Ops.nil ?_
    refine Run.cond rfl (fun c9 => ?_) (fun c9 => ?_)
    · skip
      replace c9 := nT c9
      refine Run.seq ?_
      refine Run.region ?_
      refine Ops.pure rfl (Pure.assign rfl) ?_
      refine Ops.nil ?_
      refine Run.ret1 rfl rfl ?_
      rw [ic_out hk (by simpa using c9)]
    · skip
      replace c9 := nF c9
      refine Run.seq ?_
      refine Run.region ?_
      refine Ops.pure rfl (Pure.ldBA 1 rfl cell35 rfl rfl rfl) ?_
      refine Ops.pure rfl (Pure.ldBA 0 rfl cell72 rfl rfl rfl) ?_
      refine Ops.q rfl (QOp.call fn198 rfl (fun w hw => f_i_Panel_isBorder w a b v x y hs)) ?_
      refine Ops.pure rfl (Pure.assign rfl) ?_
      refine Ops.nil ?_
      refine Run.cond rfl (fun c14 => ?_) (fun c14 => ?_)
      · skip
        replace c14 := dT c14
        refine Run.seq ?_
        refine Run.region ?_
        refine Ops.pure rfl (Pure.assign rfl) ?_
        refine Ops.nil ?_
        refine Run.ret1 rfl rfl ?_
        rw [ic_edge hk (by simpa using c9) (by simpa using c14)]
      · skip
        replace c14 := dF c14
        refine Run.skip ?_
        refine Run.blk ?_
        refine Run.seq ?_
        refine Run.region ?_
        refine Ops.pure rfl (Pure.assign rfl) ?_
        refine Ops.nil ?_
        refine Run.ret1 rfl rfl ?_
        rw [ic_ok hk (by simpa using c9) (by simpa using c14)]

set_option maxRecDepth 4000 in
/-- spec.l10Code -/
theorem f_s_l10Code (w : World) (p : Nat) (a : Int) (b : Int) (v : Value) (l : List Int) (x : Int) (y : Int) (k : Int) (hp : Rd w (boxS p) 3 1 [.int .i64 a, .int .i64 b, v]) (hv : Rd w v 1 l.length (ints l)) (hl : l.length ≤ 1073741824) (a0 : -9223372036854775808 ≤ a) (a1 : a ≤ 9223372036854775807) (b0 : -9223372036854775808 ≤ b) (b1 : b ≤ 9223372036854775807) : RetV Try.prog 142 [.pointer (some ⟨p, 0, none⟩), .agg #[.int .i64 x, .int .i64 y], .int .i64 k] w (.int .i64 (exE a b l x y k)) := by
  refine Ret.enter Try.func142 rfl Try.ntmps142 rfl ?_
  refine Run.seq ?_
  refine Run.region ?_
  refine Ops.go rfl (Loud.box rfl rfl) ?_
  rintro _ _ ⟨b4, rfl, rfl⟩
  refine Ops.pure rfl (Pure.assign rfl) ?_
  refine Ops.nil ?_
  refine Run.seq ?_
  refine Run.seq ?_
  refine Run.region ?_
  refine Ops.pure rfl (Pure.move rfl) ?_
  refine Ops.q rfl (QOp.call fn99 rfl (fun w hw => f_s_l02Ok w p a b v l (RdL.old hp w hw) (RdL.old hv w hw) hl a0 a1 b0 b1)) ?_
  refine Ops.pure rfl (Pure.move rfl) ?_
  refine Ops.guard rfl rfl rfl rfl (fun c9 => ?_) (fun c9 => ?_)
  · skip
    have c9' := c9
    have hs := okP_size c9
    refine Ops.pure rfl (Pure.move rfl) ?_
    refine Ops.guardY rfl rfl rfl c9 ?_
    refine Ops.pure rfl (Pure.ldBA 0 rfl cell72 rfl rfl rfl) ?_
    refine Ops.guardY rfl rfl rfl c9 ?_
    refine Ops.q rfl (QOp.call fn199 rfl (fun w hw => f_s_l02Has w p a b v x y (RdL.old hp w hw) hs)) ?_
    refine Ops.pure rfl (Pure.pickT rfl c9 rfl) ?_
    refine Ops.pure rfl (Pure.move rfl) ?_
    refine Ops.guard rfl rfl rfl rfl (fun c14 => ?_) (fun c14 => ?_)
    · skip
      have c14' := dT c14
      refine Ops.pure rfl (Pure.move rfl) ?_
      refine Ops.guardY rfl rfl rfl c14 ?_
      refine Ops.q rfl (QOp.call fn100 rfl (fun w hw => f_s_l02Kind w _)) ?_
      refine Ops.guardY rfl rfl rfl c14 ?_
      refine Ops.pure rfl (Pure.not rfl) ?_
      refine Ops.pure rfl (Pure.pickT rfl c14 rfl) ?_
      refine Ops.nil ?_
      refine Run.cond rfl (fun c18 => ?_) (fun c18 => ?_)
      · skip
        replace c18 := nT c18
        refine Run.seq ?_
        refine Run.region ?_
        refine Ops.pure rfl (Pure.assign rfl) ?_
        refine Ops.nil ?_
        refine Run.ret1 rfl rfl ?_
        rw [ex_kind ⟨ic_in.2 ⟨by simp_all, by simp_all⟩, by simp_all⟩]
      · skip
        replace c18 := nF c18
        refine Run.skip ?_
        refine Run.seq ?_
        refine Run.region ?_
        refine Ops.pure rfl (Pure.move rfl) ?_
        refine Ops.pure rfl (Pure.ldBA 0 rfl cell72 rfl rfl rfl) ?_
        refine Ops.q rfl (QOp.call fn146 rfl (fun w hw => f_s_l02Code w p a b v l x y (RdL.old hp w hw) (RdL.old hv w hw) hl a0 a1 b0 b1)) ?_
        refine Ops.pure rfl (Pure.assign rfl) ?_
        refine Ops.nil ?_
        refine Run.ret1 rfl rfl ?_
        rw [ex_plain (fun hh => by have h9 := ic_in.1 hh.1; simp_all)]
    · skip
      replace c14 := Bool.eq_false_of_ne c14
      have c14' := dF c14
      refine Ops.guardN rfl rfl rfl rfl (by rw [c14]; decide) ?_
      refine Ops.guardN rfl rfl rfl rfl (by rw [c14]; decide) ?_
      refine Ops.pure rfl (Pure.pickF rfl c14 rfl) ?_
      refine Ops.nil ?_
      refine Run.condEF rfl rfl ?_
      refine Run.skip ?_
      refine Run.seq ?_
      refine Run.region ?_
      refine Ops.pure rfl (Pure.move rfl) ?_
      refine Ops.pure rfl (Pure.ldBA 0 rfl cell72 rfl rfl rfl) ?_
      refine Ops.q rfl (QOp.call fn146 rfl (fun w hw => f_s_l02Code w p a b v l x y (RdL.old hp w hw) (RdL.old hv w hw) hl a0 a1 b0 b1)) ?_
      refine Ops.pure rfl (Pure.assign rfl) ?_
      refine Ops.nil ?_
      refine Run.ret1 rfl rfl ?_
      rw [ex_plain (fun hh => by have h9 := ic_in.1 hh.1; simp_all)]
  · skip
    replace c9 := Bool.eq_false_of_ne c9
    have c9' := c9
    refine Ops.guardN rfl rfl rfl rfl (by rw [c9]; decide) ?_
    refine Ops.guardN rfl rfl rfl rfl (by rw [c9]; decide) ?_
    refine Ops.pure rfl (Pure.pickF rfl c9 rfl) ?_
    refine Ops.pure rfl (Pure.move rfl) ?_
    refine Ops.guardN rfl rfl rfl rfl (by decide) ?_
    refine Ops.guardN rfl rfl rfl rfl (by decide) ?_
    refine Ops.guardN rfl rfl rfl rfl (by decide) ?_
    refine Ops.pure rfl (Pure.pickF rfl rfl rfl) ?_
    refine Ops.nil ?_
    refine Run.condEF rfl rfl ?_
    refine Run.skip ?_
    refine Run.seq ?_
    refine Run.region ?_
    refine Ops.pure rfl (Pure.move rfl) ?_
    refine Ops.pure rfl (Pure.ldBA 0 rfl cell72 rfl rfl rfl) ?_
    refine Ops.q rfl (QOp.call fn146 rfl (fun w hw => f_s_l02Code w p a b v l x y (RdL.old hp w hw) (RdL.old hv w hw) hl a0 a1 b0 b1)) ?_
    refine Ops.pure rfl (Pure.assign rfl) ?_
    refine Ops.nil ?_
    refine Run.ret1 rfl rfl ?_
    rw [ex_plain (fun hh => by have h9 := ic_in.1 hh.1; simp_all)]

set_option maxRecDepth 4000 in
/-- impl.EffectOf -/
theorem f_i_EffectOf (w : World) (a : Int) (b : Int) (v : Value) (l : List Int) (x : Int) (y : Int) (k : Int) (hv : Rd w v 1 l.length (ints l)) (hl : l.length ≤ 1073741824) (a0 : -9223372036854775808 ≤ a) (a1 : a ≤ 9223372036854775807) (b0 : -9223372036854775808 ≤ b) (b1 : b ≤ 9223372036854775807) : RetV Try.prog 67 [.agg #[.int .i64 a, .int .i64 b, v], .agg #[.int .i64 x, .int .i64 y], .int .i64 k] w (.tuple #[.int .i64 (exN a b l x y k), .int .i64 (exE a b l x y k)]) := by
  refine Ret.enter Try.func67 rfl Try.ntmps67 rfl ?_
  refine Run.seq ?_
  refine Run.region ?_
  refine Ops.go rfl (Loud.box rfl rfl) ?_
  rintro _ _ ⟨b3, rfl, rfl⟩
  refine Ops.go rfl (Loud.box rfl rfl) ?_
  rintro _ _ ⟨b4, rfl, rfl⟩
  refine Ops.pure rfl (Pure.assign rfl) ?_
  refine Ops.pure rfl (Pure.assign rfl) ?_
  refine Ops.nil ?_
  refine Run.seq ?_
  refine Run.region ?_
  refine Ops.pure rfl (Pure.ldBA 1 rfl cell35 rfl rfl rfl) ?_
  refine Ops.pure rfl (Pure.ldBA 0 rfl cell72 rfl rfl rfl) ?_
  refine Ops.q rfl (QOp.call fn138 rfl (fun w hw => f_ic w a b v l x y (RdL.old hv w hw) hl a0 a1 b0 b1)) ?_
  refine Ops.pure rfl (Pure.assign rfl) ?_
  refine Ops.nil ?_
  refine Run.seq ?_
  refine Run.seq ?_
  refine Run.region ?_
  refine Ops.pure rfl (Pure.move rfl) ?_
  refine Ops.pure rfl (Pure.eql rfl rfl) ?_
  refine Ops.pure rfl (Pure.move rfl) ?_
  refine Ops.guard rfl rfl rfl rfl (fun c14 => ?_) (fun c14 => ?_)
  · skip
    have c14' := dF c14
    refine Ops.pure rfl (Pure.move rfl) ?_
    refine Ops.guardY rfl rfl rfl c14 ?_
    refine Ops.pure rfl (Pure.eql rfl rfl) ?_
    refine Ops.pure rfl (Pure.pickF rfl c14 rfl) ?_
    refine Ops.pure rfl (Pure.move rfl) ?_
    refine Ops.guard rfl rfl rfl rfl (fun c18 => ?_) (fun c18 => ?_)
    · skip
      have c18' := dT c18
      refine Ops.pure rfl (Pure.move rfl) ?_
      refine Ops.guardY rfl rfl rfl c18 ?_
      refine Ops.q rfl (QOp.call fn139 rfl (fun w hw => f_i_validBreak w _)) ?_
      refine Ops.guardY rfl rfl rfl c18 ?_
      refine Ops.pure rfl (Pure.not rfl) ?_
      refine Ops.pure rfl (Pure.pickT rfl c18 rfl) ?_
      refine Ops.nil ?_
      refine Run.cond rfl (fun c22 => ?_) (fun c22 => ?_)
      · skip
        replace c22 := nT c22
        refine Run.region ?_
        refine Ops.pure rfl (Pure.assign rfl) ?_
        refine Ops.nil ?_
        refine Run.seq ?_
        refine Run.seq ?_
        refine Run.region ?_
        refine Ops.pure rfl (Pure.move rfl) ?_
        refine Ops.pure rfl (Pure.neq rfl rfl) ?_
        refine Ops.nil ?_
        refine Run.cond rfl (fun c24 => ?_) (fun c24 => ?_)
        · skip
          replace c24 := nT c24
          refine Run.seq ?_
          refine Run.region ?_
          refine Ops.pure rfl (Pure.move rfl) ?_
          refine Ops.pure rfl (Pure.assign rfl) ?_
          refine Ops.pure rfl (Pure.assign rfl) ?_
          refine Ops.nil ?_
          refine Run.ret2 rfl rfl rfl ?_
          first
            | (exfalso; omega)
            | (have h9 := ex_kind (a := a) (b := b) (l := l) (x := x) (y := y) (k := k) ⟨by first | omega | (simp_all; done) | (simp_all; omega), by first | omega | (simp_all; done) | (simp_all; omega)⟩
               rw [exN_bad (by omega), h9])
            | (have h9 := ex_plain (a := a) (b := b) (l := l) (x := x) (y := y) (k := k) (fun hh => by first | omega | (simp_all; done) | (simp_all; omega))
               rw [exN_bad (by omega), h9])
        · skip
          replace c24 := nF c24
          refine Run.skip ?_
          refine Run.seq ?_
          have h9 := ex_plain (a := a) (b := b) (l := l) (x := x) (y := y) (k := k) (fun hh => by first | omega | (simp_all; done) | (simp_all; omega))
          have h8 : exE a b l x y k = 0 := by omega
          obtain ⟨hk, hpt, hne, hk0, hk2⟩ := ex_zero h8
          have hs := okP_size hk
          have hnb := num_bd hs hpt hne
          have hli := okP_inn hk
          obtain ⟨n, hn⟩ := Int.eq_ofNat_of_zero_le (show 0 ≤ num a x y by omega)
          refine Any.start follows ?_
          have hc1 := cnt_le (l := l) hs
          have hc2 := cnt_le (l := l.set n k) hs
          refine Any.take 0 rfl (by kernel_rfl) rfl (QOp.pure (Pure.ldBA 1 rfl cell35 rfl rfl rfl)) ?_
          refine Any.take 1 rfl (by kernel_rfl) rfl (QOp.pure (Pure.ldBA 1 rfl cell35 rfl rfl rfl)) ?_
          refine Any.take 2 rfl (by kernel_rfl) rfl (QOp.pure (Pure.ldBA 0 rfl cell72 rfl rfl rfl)) ?_
          refine Any.take 3 rfl (by kernel_rfl) rfl (QOp.call fn141 rfl (fun w hw => (f_i_Panel_number w a b v x y hs hpt hne).cong (show _ = Value.int .i64 (n : Int) by rw [hn]))) ?_
          refine Any.take 4 rfl (by kernel_rfl) rfl (QOp.pure (Pure.move rfl)) ?_
          refine Any.take 7 rfl (by kernel_rfl) rfl (QOp.pure (Pure.ldBA 1 rfl cell35 rfl rfl rfl)) ?_
          refine Any.one 5 (by kernel_rfl) ?_
          refine OneL.loud rfl rfl (Loud.callR fn140 rfl (fun w hw => f_i_Panel_changed w a b v l n k (RdL.old hv w hw) hl (by omega))) ?_
          rintro v31 _ ⟨L31, hQ31, rfl⟩
          obtain ⟨x31, h31, rfl, rfl⟩ := hQ31
          refine ⟨.inr (by first | exact Ext.right _ _ | exact Ext.right [_] _ | exact Ext.refl _), ?_⟩
          refine Any.take 6 rfl (by kernel_rfl) rfl (QOp.call fn121 rfl (fun w hw => f_i_countCurves w a b x31 (l.set n k) (by rw [List.length_set]; exact RdL.own 0 rfl w hw) (okP_set hk n hk0 hk2))) ?_
          refine Any.take 8 rfl (by kernel_rfl) rfl (QOp.call fn121 rfl (fun w hw => f_i_countCurves w a b v l (RdL.old hv w hw) hk)) ?_
          skip
          refine Any.take 9 rfl (by kernel_rfl) rfl (QOp.pure (Pure.sub rfl rfl (by omega) (by omega))) ?_
          refine Any.take 10 rfl (by kernel_rfl) rfl (QOp.pure (Pure.assign rfl)) ?_
          refine Any.take 11 rfl (by kernel_rfl) rfl (QOp.pure (Pure.assign rfl)) ?_
          refine Any.done (by kernel_rfl) ?_
          refine Run.ret2 rfl rfl rfl ?_
          rw [exN_ok h8, h8, hn, Int.toNat_natCast]
      · skip
        replace c22 := nF c22
        refine Run.skip ?_
        refine Run.seq ?_
        refine Run.seq ?_
        refine Run.region ?_
        refine Ops.pure rfl (Pure.move rfl) ?_
        refine Ops.pure rfl (Pure.neq rfl rfl) ?_
        refine Ops.nil ?_
        refine Run.cond rfl (fun c24 => ?_) (fun c24 => ?_)
        · skip
          replace c24 := nT c24
          refine Run.seq ?_
          refine Run.region ?_
          refine Ops.pure rfl (Pure.move rfl) ?_
          refine Ops.pure rfl (Pure.assign rfl) ?_
          refine Ops.pure rfl (Pure.assign rfl) ?_
          refine Ops.nil ?_
          refine Run.ret2 rfl rfl rfl ?_
          first
            | (exfalso; omega)
            | (have h9 := ex_kind (a := a) (b := b) (l := l) (x := x) (y := y) (k := k) ⟨by first | omega | (simp_all; done) | (simp_all; omega), by first | omega | (simp_all; done) | (simp_all; omega)⟩
               rw [exN_bad (by omega), h9])
            | (have h9 := ex_plain (a := a) (b := b) (l := l) (x := x) (y := y) (k := k) (fun hh => by first | omega | (simp_all; done) | (simp_all; omega))
               rw [exN_bad (by omega), h9])
        · skip
          replace c24 := nF c24
          refine Run.skip ?_
          refine Run.seq ?_
          have h9 := ex_plain (a := a) (b := b) (l := l) (x := x) (y := y) (k := k) (fun hh => by first | omega | (simp_all; done) | (simp_all; omega))
          have h8 : exE a b l x y k = 0 := by omega
          obtain ⟨hk, hpt, hne, hk0, hk2⟩ := ex_zero h8
          have hs := okP_size hk
          have hnb := num_bd hs hpt hne
          have hli := okP_inn hk
          obtain ⟨n, hn⟩ := Int.eq_ofNat_of_zero_le (show 0 ≤ num a x y by omega)
          refine Any.start follows ?_
          have hc1 := cnt_le (l := l) hs
          have hc2 := cnt_le (l := l.set n k) hs
          refine Any.take 0 rfl (by kernel_rfl) rfl (QOp.pure (Pure.ldBA 1 rfl cell35 rfl rfl rfl)) ?_
          refine Any.take 1 rfl (by kernel_rfl) rfl (QOp.pure (Pure.ldBA 1 rfl cell35 rfl rfl rfl)) ?_
          refine Any.take 2 rfl (by kernel_rfl) rfl (QOp.pure (Pure.ldBA 0 rfl cell72 rfl rfl rfl)) ?_
          refine Any.take 3 rfl (by kernel_rfl) rfl (QOp.call fn141 rfl (fun w hw => (f_i_Panel_number w a b v x y hs hpt hne).cong (show _ = Value.int .i64 (n : Int) by rw [hn]))) ?_
          refine Any.take 4 rfl (by kernel_rfl) rfl (QOp.pure (Pure.move rfl)) ?_
          refine Any.take 7 rfl (by kernel_rfl) rfl (QOp.pure (Pure.ldBA 1 rfl cell35 rfl rfl rfl)) ?_
          refine Any.one 5 (by kernel_rfl) ?_
          refine OneL.loud rfl rfl (Loud.callR fn140 rfl (fun w hw => f_i_Panel_changed w a b v l n k (RdL.old hv w hw) hl (by omega))) ?_
          rintro v31 _ ⟨L31, hQ31, rfl⟩
          obtain ⟨x31, h31, rfl, rfl⟩ := hQ31
          refine ⟨.inr (by first | exact Ext.right _ _ | exact Ext.right [_] _ | exact Ext.refl _), ?_⟩
          refine Any.take 6 rfl (by kernel_rfl) rfl (QOp.call fn121 rfl (fun w hw => f_i_countCurves w a b x31 (l.set n k) (by rw [List.length_set]; exact RdL.own 0 rfl w hw) (okP_set hk n hk0 hk2))) ?_
          refine Any.take 8 rfl (by kernel_rfl) rfl (QOp.call fn121 rfl (fun w hw => f_i_countCurves w a b v l (RdL.old hv w hw) hk)) ?_
          skip
          refine Any.take 9 rfl (by kernel_rfl) rfl (QOp.pure (Pure.sub rfl rfl (by omega) (by omega))) ?_
          refine Any.take 10 rfl (by kernel_rfl) rfl (QOp.pure (Pure.assign rfl)) ?_
          refine Any.take 11 rfl (by kernel_rfl) rfl (QOp.pure (Pure.assign rfl)) ?_
          refine Any.done (by kernel_rfl) ?_
          refine Run.ret2 rfl rfl rfl ?_
          rw [exN_ok h8, h8, hn, Int.toNat_natCast]
    · skip
      replace c18 := Bool.eq_false_of_ne c18
      have c18' := dF c18
      refine Ops.guardN rfl rfl rfl rfl (by rw [c18]; decide) ?_
      refine Ops.guardN rfl rfl rfl rfl (by rw [c18]; decide) ?_
      refine Ops.pure rfl (Pure.pickF rfl c18 rfl) ?_
      refine Ops.nil ?_
      refine Run.condEF rfl rfl ?_
      refine Run.skip ?_
      refine Run.seq ?_
      refine Run.seq ?_
      refine Run.region ?_
      refine Ops.pure rfl (Pure.move rfl) ?_
      refine Ops.pure rfl (Pure.neq rfl rfl) ?_
      refine Ops.nil ?_
      refine Run.cond rfl (fun c24 => ?_) (fun c24 => ?_)
      · skip
        replace c24 := nT c24
        refine Run.seq ?_
        refine Run.region ?_
        refine Ops.pure rfl (Pure.move rfl) ?_
        refine Ops.pure rfl (Pure.assign rfl) ?_
        refine Ops.pure rfl (Pure.assign rfl) ?_
        refine Ops.nil ?_
        refine Run.ret2 rfl rfl rfl ?_
        first
          | (exfalso; omega)
          | (have h9 := ex_kind (a := a) (b := b) (l := l) (x := x) (y := y) (k := k) ⟨by first | omega | (simp_all; done) | (simp_all; omega), by first | omega | (simp_all; done) | (simp_all; omega)⟩
             rw [exN_bad (by omega), h9])
          | (have h9 := ex_plain (a := a) (b := b) (l := l) (x := x) (y := y) (k := k) (fun hh => by first | omega | (simp_all; done) | (simp_all; omega))
             rw [exN_bad (by omega), h9])
      · skip
        replace c24 := nF c24
        refine Run.skip ?_
        refine Run.seq ?_
        have h9 := ex_plain (a := a) (b := b) (l := l) (x := x) (y := y) (k := k) (fun hh => by first | omega | (simp_all; done) | (simp_all; omega))
        have h8 : exE a b l x y k = 0 := by omega
        obtain ⟨hk, hpt, hne, hk0, hk2⟩ := ex_zero h8
        have hs := okP_size hk
        have hnb := num_bd hs hpt hne
        have hli := okP_inn hk
        obtain ⟨n, hn⟩ := Int.eq_ofNat_of_zero_le (show 0 ≤ num a x y by omega)
        refine Any.start follows ?_
        have hc1 := cnt_le (l := l) hs
        have hc2 := cnt_le (l := l.set n k) hs
        refine Any.take 0 rfl (by kernel_rfl) rfl (QOp.pure (Pure.ldBA 1 rfl cell35 rfl rfl rfl)) ?_
        refine Any.take 1 rfl (by kernel_rfl) rfl (QOp.pure (Pure.ldBA 1 rfl cell35 rfl rfl rfl)) ?_
        refine Any.take 2 rfl (by kernel_rfl) rfl (QOp.pure (Pure.ldBA 0 rfl cell72 rfl rfl rfl)) ?_
        refine Any.take 3 rfl (by kernel_rfl) rfl (QOp.call fn141 rfl (fun w hw => (f_i_Panel_number w a b v x y hs hpt hne).cong (show _ = Value.int .i64 (n : Int) by rw [hn]))) ?_
        refine Any.take 4 rfl (by kernel_rfl) rfl (QOp.pure (Pure.move rfl)) ?_
        refine Any.take 7 rfl (by kernel_rfl) rfl (QOp.pure (Pure.ldBA 1 rfl cell35 rfl rfl rfl)) ?_
        refine Any.one 5 (by kernel_rfl) ?_
        refine OneL.loud rfl rfl (Loud.callR fn140 rfl (fun w hw => f_i_Panel_changed w a b v l n k (RdL.old hv w hw) hl (by omega))) ?_
        rintro v31 _ ⟨L31, hQ31, rfl⟩
        obtain ⟨x31, h31, rfl, rfl⟩ := hQ31
        refine ⟨.inr (by first | exact Ext.right _ _ | exact Ext.right [_] _ | exact Ext.refl _), ?_⟩
        refine Any.take 6 rfl (by kernel_rfl) rfl (QOp.call fn121 rfl (fun w hw => f_i_countCurves w a b x31 (l.set n k) (by rw [List.length_set]; exact RdL.own 0 rfl w hw) (okP_set hk n hk0 hk2))) ?_
        refine Any.take 8 rfl (by kernel_rfl) rfl (QOp.call fn121 rfl (fun w hw => f_i_countCurves w a b v l (RdL.old hv w hw) hk)) ?_
        skip
        refine Any.take 9 rfl (by kernel_rfl) rfl (QOp.pure (Pure.sub rfl rfl (by omega) (by omega))) ?_
        refine Any.take 10 rfl (by kernel_rfl) rfl (QOp.pure (Pure.assign rfl)) ?_
        refine Any.take 11 rfl (by kernel_rfl) rfl (QOp.pure (Pure.assign rfl)) ?_
        refine Any.done (by kernel_rfl) ?_
        refine Run.ret2 rfl rfl rfl ?_
        rw [exN_ok h8, h8, hn, Int.toNat_natCast]
  · skip
    replace c14 := Bool.eq_true_of_ne c14
    have c14' := dT c14
    refine Ops.guardN rfl rfl rfl rfl (by rw [c14]; decide) ?_
    refine Ops.pure rfl (Pure.pickT rfl c14 rfl) ?_
    refine Ops.pure rfl (Pure.move rfl) ?_
    refine Ops.guardY rfl rfl rfl rfl ?_
    refine Ops.pure rfl (Pure.move rfl) ?_
    refine Ops.guardY rfl rfl rfl rfl ?_
    refine Ops.q rfl (QOp.call fn139 rfl (fun w hw => f_i_validBreak w _)) ?_
    refine Ops.guardY rfl rfl rfl rfl ?_
    refine Ops.pure rfl (Pure.not rfl) ?_
    refine Ops.pure rfl (Pure.pickT rfl rfl rfl) ?_
    refine Ops.nil ?_
    refine Run.cond rfl (fun c22 => ?_) (fun c22 => ?_)
    · skip
      replace c22 := nT c22
      refine Run.region ?_
      refine Ops.pure rfl (Pure.assign rfl) ?_
      refine Ops.nil ?_
      refine Run.seq ?_
      refine Run.seq ?_
      refine Run.region ?_
      refine Ops.pure rfl (Pure.move rfl) ?_
      refine Ops.pure rfl (Pure.neq rfl rfl) ?_
      refine Ops.nil ?_
      refine Run.cond rfl (fun c24 => ?_) (fun c24 => ?_)
      · skip
        replace c24 := nT c24
        refine Run.seq ?_
        refine Run.region ?_
        refine Ops.pure rfl (Pure.move rfl) ?_
        refine Ops.pure rfl (Pure.assign rfl) ?_
        refine Ops.pure rfl (Pure.assign rfl) ?_
        refine Ops.nil ?_
        refine Run.ret2 rfl rfl rfl ?_
        first
          | (exfalso; omega)
          | (have h9 := ex_kind (a := a) (b := b) (l := l) (x := x) (y := y) (k := k) ⟨by first | omega | (simp_all; done) | (simp_all; omega), by first | omega | (simp_all; done) | (simp_all; omega)⟩
             rw [exN_bad (by omega), h9])
          | (have h9 := ex_plain (a := a) (b := b) (l := l) (x := x) (y := y) (k := k) (fun hh => by first | omega | (simp_all; done) | (simp_all; omega))
             rw [exN_bad (by omega), h9])
      · skip
        replace c24 := nF c24
        refine Run.skip ?_
        refine Run.seq ?_
        have h9 := ex_plain (a := a) (b := b) (l := l) (x := x) (y := y) (k := k) (fun hh => by first | omega | (simp_all; done) | (simp_all; omega))
        have h8 : exE a b l x y k = 0 := by omega
        obtain ⟨hk, hpt, hne, hk0, hk2⟩ := ex_zero h8
        have hs := okP_size hk
        have hnb := num_bd hs hpt hne
        have hli := okP_inn hk
        obtain ⟨n, hn⟩ := Int.eq_ofNat_of_zero_le (show 0 ≤ num a x y by omega)
        refine Any.start follows ?_
        have hc1 := cnt_le (l := l) hs
        have hc2 := cnt_le (l := l.set n k) hs
        refine Any.take 0 rfl (by kernel_rfl) rfl (QOp.pure (Pure.ldBA 1 rfl cell35 rfl rfl rfl)) ?_
        refine Any.take 1 rfl (by kernel_rfl) rfl (QOp.pure (Pure.ldBA 1 rfl cell35 rfl rfl rfl)) ?_
        refine Any.take 2 rfl (by kernel_rfl) rfl (QOp.pure (Pure.ldBA 0 rfl cell72 rfl rfl rfl)) ?_
        refine Any.take 3 rfl (by kernel_rfl) rfl (QOp.call fn141 rfl (fun w hw => (f_i_Panel_number w a b v x y hs hpt hne).cong (show _ = Value.int .i64 (n : Int) by rw [hn]))) ?_
        refine Any.take 4 rfl (by kernel_rfl) rfl (QOp.pure (Pure.move rfl)) ?_
        refine Any.take 7 rfl (by kernel_rfl) rfl (QOp.pure (Pure.ldBA 1 rfl cell35 rfl rfl rfl)) ?_
        refine Any.one 5 (by kernel_rfl) ?_
        refine OneL.loud rfl rfl (Loud.callR fn140 rfl (fun w hw => f_i_Panel_changed w a b v l n k (RdL.old hv w hw) hl (by omega))) ?_
        rintro v31 _ ⟨L31, hQ31, rfl⟩
        obtain ⟨x31, h31, rfl, rfl⟩ := hQ31
        refine ⟨.inr (by first | exact Ext.right _ _ | exact Ext.right [_] _ | exact Ext.refl _), ?_⟩
        refine Any.take 6 rfl (by kernel_rfl) rfl (QOp.call fn121 rfl (fun w hw => f_i_countCurves w a b x31 (l.set n k) (by rw [List.length_set]; exact RdL.own 0 rfl w hw) (okP_set hk n hk0 hk2))) ?_
        refine Any.take 8 rfl (by kernel_rfl) rfl (QOp.call fn121 rfl (fun w hw => f_i_countCurves w a b v l (RdL.old hv w hw) hk)) ?_
        skip
        refine Any.take 9 rfl (by kernel_rfl) rfl (QOp.pure (Pure.sub rfl rfl (by omega) (by omega))) ?_
        refine Any.take 10 rfl (by kernel_rfl) rfl (QOp.pure (Pure.assign rfl)) ?_
        refine Any.take 11 rfl (by kernel_rfl) rfl (QOp.pure (Pure.assign rfl)) ?_
        refine Any.done (by kernel_rfl) ?_
        refine Run.ret2 rfl rfl rfl ?_
        rw [exN_ok h8, h8, hn, Int.toNat_natCast]
    · skip
      replace c22 := nF c22
      refine Run.skip ?_
      refine Run.seq ?_
      refine Run.seq ?_
      refine Run.region ?_
      refine Ops.pure rfl (Pure.move rfl) ?_
      refine Ops.pure rfl (Pure.neq rfl rfl) ?_
      refine Ops.nil ?_
      refine Run.cond rfl (fun c24 => ?_) (fun c24 => ?_)
      · skip
        replace c24 := nT c24
        refine Run.seq ?_
        refine Run.region ?_
        refine Ops.pure rfl (Pure.move rfl) ?_
        refine Ops.pure rfl (Pure.assign rfl) ?_
        refine Ops.pure rfl (Pure.assign rfl) ?_
        refine Ops.nil ?_
        refine Run.ret2 rfl rfl rfl ?_
        first
          | (exfalso; omega)
          | (have h9 := ex_kind (a := a) (b := b) (l := l) (x := x) (y := y) (k := k) ⟨by first | omega | (simp_all; done) | (simp_all; omega), by first | omega | (simp_all; done) | (simp_all; omega)⟩
             rw [exN_bad (by omega), h9])
          | (have h9 := ex_plain (a := a) (b := b) (l := l) (x := x) (y := y) (k := k) (fun hh => by first | omega | (simp_all; done) | (simp_all; omega))
             rw [exN_bad (by omega), h9])
      · skip
        replace c24 := nF c24
        refine Run.skip ?_
        refine Run.seq ?_
        have h9 := ex_plain (a := a) (b := b) (l := l) (x := x) (y := y) (k := k) (fun hh => by first | omega | (simp_all; done) | (simp_all; omega))
        have h8 : exE a b l x y k = 0 := by omega
        obtain ⟨hk, hpt, hne, hk0, hk2⟩ := ex_zero h8
        have hs := okP_size hk
        have hnb := num_bd hs hpt hne
        have hli := okP_inn hk
        obtain ⟨n, hn⟩ := Int.eq_ofNat_of_zero_le (show 0 ≤ num a x y by omega)
        refine Any.start follows ?_
        have hc1 := cnt_le (l := l) hs
        have hc2 := cnt_le (l := l.set n k) hs
        refine Any.take 0 rfl (by kernel_rfl) rfl (QOp.pure (Pure.ldBA 1 rfl cell35 rfl rfl rfl)) ?_
        refine Any.take 1 rfl (by kernel_rfl) rfl (QOp.pure (Pure.ldBA 1 rfl cell35 rfl rfl rfl)) ?_
        refine Any.take 2 rfl (by kernel_rfl) rfl (QOp.pure (Pure.ldBA 0 rfl cell72 rfl rfl rfl)) ?_
        refine Any.take 3 rfl (by kernel_rfl) rfl (QOp.call fn141 rfl (fun w hw => (f_i_Panel_number w a b v x y hs hpt hne).cong (show _ = Value.int .i64 (n : Int) by rw [hn]))) ?_
        refine Any.take 4 rfl (by kernel_rfl) rfl (QOp.pure (Pure.move rfl)) ?_
        refine Any.take 7 rfl (by kernel_rfl) rfl (QOp.pure (Pure.ldBA 1 rfl cell35 rfl rfl rfl)) ?_
        refine Any.one 5 (by kernel_rfl) ?_
        refine OneL.loud rfl rfl (Loud.callR fn140 rfl (fun w hw => f_i_Panel_changed w a b v l n k (RdL.old hv w hw) hl (by omega))) ?_
        rintro v31 _ ⟨L31, hQ31, rfl⟩
        obtain ⟨x31, h31, rfl, rfl⟩ := hQ31
        refine ⟨.inr (by first | exact Ext.right _ _ | exact Ext.right [_] _ | exact Ext.refl _), ?_⟩
        refine Any.take 6 rfl (by kernel_rfl) rfl (QOp.call fn121 rfl (fun w hw => f_i_countCurves w a b x31 (l.set n k) (by rw [List.length_set]; exact RdL.own 0 rfl w hw) (okP_set hk n hk0 hk2))) ?_
        refine Any.take 8 rfl (by kernel_rfl) rfl (QOp.call fn121 rfl (fun w hw => f_i_countCurves w a b v l (RdL.old hv w hw) hk)) ?_
        skip
        refine Any.take 9 rfl (by kernel_rfl) rfl (QOp.pure (Pure.sub rfl rfl (by omega) (by omega))) ?_
        refine Any.take 10 rfl (by kernel_rfl) rfl (QOp.pure (Pure.assign rfl)) ?_
        refine Any.take 11 rfl (by kernel_rfl) rfl (QOp.pure (Pure.assign rfl)) ?_
        refine Any.done (by kernel_rfl) ?_
        refine Run.ret2 rfl rfl rfl ?_
        rw [exN_ok h8, h8, hn, Int.toNat_natCast]

set_option maxRecDepth 4000 in
/-- spec.EffectOf -/
theorem f_s_EffectOf (w : World) (a : Int) (b : Int) (v : Value) (l : List Int) (x : Int) (y : Int) (k : Int) (hv : Rd w v 1 l.length (ints l)) (hl : l.length ≤ 1073741824) (a0 : -9223372036854775808 ≤ a) (a1 : a ≤ 9223372036854775807) (b0 : -9223372036854775808 ≤ b) (b1 : b ≤ 9223372036854775807) : RetV Try.prog 68 [.agg #[.int .i64 a, .int .i64 b, v], .agg #[.int .i64 x, .int .i64 y], .int .i64 k] w (.tuple #[.int .i64 (exN a b l x y k), .int .i64 (exE a b l x y k)]) := by
  refine Ret.enter Try.func68 rfl Try.ntmps68 rfl ?_
  refine Run.seq ?_
  refine Run.region ?_
  refine Ops.go rfl (Loud.box rfl rfl) ?_
  rintro _ _ ⟨b3, rfl, rfl⟩
  refine Ops.go rfl (Loud.box rfl rfl) ?_
  rintro _ _ ⟨b4, rfl, rfl⟩
  refine Ops.pure rfl (Pure.assign rfl) ?_
  refine Ops.pure rfl (Pure.assign rfl) ?_
  refine Ops.nil ?_
  refine Run.seq ?_
  refine Run.region ?_
  refine Ops.pure rfl (Pure.ldBA 0 rfl cell72 rfl rfl rfl) ?_
  refine Ops.pure rfl (Pure.move rfl) ?_
  refine Ops.q rfl (QOp.call fn142 rfl (fun w hw => f_s_l10Code w _ a b v l x y k (RdL.boxM 1 rfl rfl w hw) (RdL.old hv w hw) hl a0 a1 b0 b1)) ?_
  refine Ops.pure rfl (Pure.assign rfl) ?_
  refine Ops.nil ?_
  refine Run.seq ?_
  refine Run.seq ?_
  refine Run.region ?_
  refine Ops.pure rfl (Pure.move rfl) ?_
  refine Ops.pure rfl (Pure.neq rfl rfl) ?_
  refine Ops.nil ?_
  refine Run.cond rfl (fun c13 => ?_) (fun c13 => ?_)
  · skip
    replace c13 := nT c13
    refine Run.seq ?_
    refine Run.region ?_
    refine Ops.pure rfl (Pure.move rfl) ?_
    refine Ops.pure rfl (Pure.assign rfl) ?_
    refine Ops.pure rfl (Pure.assign rfl) ?_
    refine Ops.nil ?_
    refine Run.ret2 rfl rfl rfl ?_
    rw [exN_bad c13]
  · skip
    replace c13 := nF c13
    refine Run.skip ?_
    refine Run.seq ?_
    obtain ⟨hk, hpt, hne, hk0, hk2⟩ := ex_zero c13
    have hs := okP_size hk
    have hnb := num_bd hs hpt hne
    have hli := okP_inn hk
    obtain ⟨n, hn⟩ := Int.eq_ofNat_of_zero_le (show 0 ≤ num a x y by omega)
    have hc1 := cnt_le (l := l) hs
    have hc2 := cnt_le (l := l.set n k) hs
    refine Run.region ?_
    refine Ops.pure rfl (Pure.ldBA 0 rfl cell72 rfl rfl rfl) ?_
    refine Ops.q rfl (QOp.call fn144 rfl (fun w hw => (f_s_l02Number w _ a b v x y (RdL.boxM 1 rfl rfl w hw) hs hpt hne).cong (show _ = Value.int .i64 (n : Int) by rw [hn]))) ?_
    refine Ops.pure rfl (Pure.move rfl) ?_
    refine Ops.q rfl (QOp.call fn143 rfl (fun w hw => f_s_l10With w _ a b v l n k (RdL.boxM 1 rfl rfl w hw) (RdL.old hv w hw) hl hk (by omega) hk0 hk2)) ?_
    refine Ops.q rfl (QOp.call fn122 rfl (fun w hw => f_s_l04Count w _ a b v l (RdL.boxM 1 rfl rfl w hw) (RdL.old hv w hw) hk)) ?_
    refine Ops.pure rfl (Pure.sub rfl rfl (by omega) (by omega)) ?_
    refine Ops.pure rfl (Pure.assign rfl) ?_
    refine Ops.pure rfl (Pure.assign rfl) ?_
    refine Ops.nil ?_
    refine Run.ret2 rfl rfl rfl ?_
    rw [exN_ok c13, c13, hn, Int.toNat_natCast]

set_option maxRecDepth 4000 in
/-- impl.EffectsAt -/
theorem f_i_EffectsAt (w : World) (a : Int) (b : Int) (v : Value) (l : List Int) (x : Int) (y : Int) (hv : Rd w v 1 l.length (ints l)) (hl : l.length ≤ 1073741824) (a0 : -9223372036854775808 ≤ a) (a1 : a ≤ 9223372036854775807) (b0 : -9223372036854775808 ≤ b) (b1 : b ≤ 9223372036854775807) : Ret Try.prog 70 [.agg #[.int .i64 a, .int .i64 b, v], .agg #[.int .i64 x, .int .i64 y]] w (retI (eaL a b l x y) (ptE a b l x y)) := by
  refine Ret.enter Try.func70 rfl Try.ntmps70 rfl ?_
  refine Run.seq ?_
  refine Run.region ?_
  refine Ops.go rfl (Loud.box rfl rfl) ?_
  rintro _ _ ⟨b2, rfl, rfl⟩
  refine Ops.go rfl (Loud.box rfl rfl) ?_
  rintro _ _ ⟨b3, rfl, rfl⟩
  refine Ops.pure rfl (Pure.assign rfl) ?_
  refine Ops.pure rfl (Pure.assign rfl) ?_
  refine Ops.nil ?_
  refine Run.seq ?_
  refine Run.seq ?_
  refine Run.region ?_
  refine Ops.pure rfl (Pure.ldBA 1 rfl cell35 rfl rfl rfl) ?_
  refine Ops.pure rfl (Pure.ldBA 0 rfl cell72 rfl rfl rfl) ?_
  refine Ops.q rfl (QOp.call fn138 rfl (fun w hw => f_ic w a b v l x y (RdL.old hv w hw) hl a0 a1 b0 b1)) ?_
  refine Ops.pure rfl (Pure.assign rfl) ?_
  refine Ops.nil ?_
  refine Run.seq ?_
  refine Run.region ?_
  refine Ops.pure rfl (Pure.move rfl) ?_
  refine Ops.pure rfl (Pure.neq rfl rfl) ?_
  refine Ops.nil ?_
  refine Run.cond rfl (fun c11 => ?_) (fun c11 => ?_)
  · skip
    replace c11 := nT c11
    refine Run.seq ?_
    refine Run.region ?_
    refine Ops.pure rfl (Pure.move rfl) ?_
    refine Ops.pure rfl (Pure.assign rfl) ?_
    refine Ops.pure rfl (Pure.assign rfl) ?_
    refine Ops.nil ?_
    refine Run.addNil 2 1 ?_
    refine Run.ext_ (Ext.take 0 rfl (Ext.nil _)) ?_
    refine Run.ret2 rfl rfl rfl ?_
    exact retI_nil (ea_bad c11)
  · skip
    replace c11 := nF c11
    obtain ⟨hk, hpt, hne⟩ := ic_zero c11
    have hs := okP_size hk
    have hnb := num_bd hs hpt hne
    have hli := okP_inn hk
    obtain ⟨n, hn⟩ := Int.eq_ofNat_of_zero_le (show 0 ≤ num a x y by omega)
    refine Run.skip ?_
    refine Run.seq ?_
    refine Any.start follows ?_
    refine Any.take 0 rfl (by kernel_rfl) rfl (QOp.pure (Pure.ldBA 1 rfl cell35 rfl rfl rfl)) ?_
    refine Any.take 1 rfl (by kernel_rfl) rfl (QOp.pure (Pure.ldBA 1 rfl cell35 rfl rfl rfl)) ?_
    refine Any.take 2 rfl (by kernel_rfl) rfl (QOp.pure (Pure.ldBA 0 rfl cell72 rfl rfl rfl)) ?_
    refine Any.take 3 rfl (by kernel_rfl) rfl (QOp.call fn141 rfl (fun w hw => (f_i_Panel_number w a b v x y hs hpt hne).cong (show _ = Value.int .i64 (n : Int) by rw [hn]))) ?_
    refine Any.one 4 (by kernel_rfl) ?_
    refine OneL.loud rfl rfl (Loud.callR fn145 rfl (fun w hw => f_i_Panel_effectsAt w a b v l n (RdL.old hv w hw) hl hk (by omega))) ?_
    rintro v17 _ ⟨L17, hQ17, rfl⟩
    subst hQ17
    refine ⟨.inl (by kernel_rfl), ?_⟩
    refine Any.take 5 rfl (by kernel_rfl) rfl (QOp.pure (Pure.assign rfl)) ?_
    refine Any.take 6 rfl (by kernel_rfl) rfl (QOp.pure (Pure.assign rfl)) ?_
    refine Any.done (by kernel_rfl) ?_
    refine Run.ext_ (Ext.take 0 rfl (Ext.nil _)) ?_
    refine Run.ret2 rfl rfl rfl ?_
    rw [ea_ok c11, c11, hn, Int.toNat_natCast]
    exact ⟨_, rfl, rfl⟩

set_option maxRecDepth 4000 in
/-- spec.EffectsAt -/
theorem f_s_EffectsAt (w : World) (a : Int) (b : Int) (v : Value) (l : List Int) (x : Int) (y : Int) (hv : Rd w v 1 l.length (ints l)) (hl : l.length ≤ 1073741824) (a0 : -9223372036854775808 ≤ a) (a1 : a ≤ 9223372036854775807) (b0 : -9223372036854775808 ≤ b) (b1 : b ≤ 9223372036854775807) : Ret Try.prog 71 [.agg #[.int .i64 a, .int .i64 b, v], .agg #[.int .i64 x, .int .i64 y]] w (retI (eaL a b l x y) (ptE a b l x y)) := by
  refine Ret.enter Try.func71 rfl Try.ntmps71 rfl ?_
  refine Run.seq ?_
  refine Run.region ?_
  refine Ops.go rfl (Loud.box rfl rfl) ?_
  rintro _ _ ⟨b2, rfl, rfl⟩
  refine Ops.go rfl (Loud.box rfl rfl) ?_
  rintro _ _ ⟨b3, rfl, rfl⟩
  refine Ops.pure rfl (Pure.assign rfl) ?_
  refine Ops.pure rfl (Pure.assign rfl) ?_
  refine Ops.nil ?_
  refine Run.seq ?_
  refine Run.region ?_
  refine Ops.pure rfl (Pure.ldBA 0 rfl cell72 rfl rfl rfl) ?_
  refine Ops.q rfl (QOp.call fn146 rfl (fun w hw => f_s_l02Code w _ a b v l x y (RdL.boxM 1 rfl rfl w hw) (RdL.old hv w hw) hl a0 a1 b0 b1)) ?_
  refine Ops.pure rfl (Pure.assign rfl) ?_
  refine Ops.nil ?_
  refine Run.seq ?_
  refine Run.seq ?_
  refine Run.region ?_
  refine Ops.pure rfl (Pure.move rfl) ?_
  refine Ops.pure rfl (Pure.neq rfl rfl) ?_
  refine Ops.nil ?_
  refine Run.cond rfl (fun c12 => ?_) (fun c12 => ?_)
  · skip
    replace c12 := nT c12
    refine Run.seq ?_
    refine Run.region ?_
    refine Ops.pure rfl (Pure.move rfl) ?_
    refine Ops.pure rfl (Pure.assign rfl) ?_
    refine Ops.pure rfl (Pure.assign rfl) ?_
    refine Ops.nil ?_
    refine Run.addNil 2 1 ?_
    refine Run.ext_ (Ext.take 0 rfl (Ext.nil _)) ?_
    refine Run.ret2 rfl rfl rfl ?_
    exact retI_nil (ea_bad c12)
  · skip
    replace c12 := nF c12
    obtain ⟨hk, hpt, hne⟩ := ic_zero c12
    have hs := okP_size hk
    have hnb := num_bd hs hpt hne
    have hli := okP_inn hk
    obtain ⟨n, hn⟩ := Int.eq_ofNat_of_zero_le (show 0 ≤ num a x y by omega)
    refine Run.skip ?_
    refine Run.seq ?_
    refine Run.region ?_
    refine Ops.go rfl (Loud.lit sl32 rfl rfl rfl (by simp [Value.oneCell'])) ?_
    rintro v14 _ rfl
    refine Ops.pure rfl (Pure.assign rfl) ?_
    refine Ops.nil ?_
    refine Run.seq ?_
    refine Run.seq ?_
    refine Run.region ?_
    refine Ops.pure rfl (Pure.assign rfl) ?_
    refine Ops.nil ?_
    refine Run.block ?_
    refine Run.loop2 (X := Nat) (Y := Value) (fun j vo => [(2, .pointer (some ⟨b2, 0, none⟩)), (3, .pointer (some ⟨b3, 0, none⟩)), (7, vo), (8, .int .i64 j)]) (fun j vo => [.row 2 1 vo j (ints (effTo a b l n j)), .box b3 72 [.int .i64 x, .int .i64 y], .box b2 35 [.int .i64 a, .int .i64 b, v]]) (fun j vo => j ≤ 3) (fun j vo => 3 - j) 0 v14 ?_ ?_ ?_ ?_
    · exact Nat.zero_le _
    · exact ⟨rfl, rfl, rfl, rfl, trivial⟩
    · exact Ext.refl _
    · intro j vo hinv0
      refine Run.seq ?_
      refine Run.seq ?_
      refine Run.region ?_
      refine Ops.pure rfl (Pure.move rfl) ?_
      refine Ops.pure rfl (Pure.lss rfl rfl) ?_
      refine Ops.nil ?_
      refine Run.cond rfl (fun c16 => ?_) (fun c16 => ?_)
      · skip
        replace c16 := dT c16
        refine Run.skip ?_
        refine Run.seq ?_
        refine Run.block ?_
        refine Run.region ?_
        refine Ops.pure rfl (Pure.move rfl) ?_
        refine Ops.pure rfl (Pure.ldBA 1 rfl cell72 rfl rfl rfl) ?_
        refine Ops.q rfl (QOp.call fn144 rfl (fun w hw => (f_s_l02Number w _ a b v x y (RdL.boxM 2 rfl rfl w hw) hs hpt hne).cong (show _ = Value.int .i64 (n : Int) by rw [hn]))) ?_
        refine Ops.pure rfl (Pure.move rfl) ?_
        refine Ops.q rfl (QOp.call fn143 rfl (fun w hw => (f_s_l10With w _ a b v l n (j : Int) (RdL.boxM 2 rfl rfl w hw) (RdL.old hv w hw) hl hk (by omega) (by omega) (by omega)).cong (show _ = Value.int .i64 (cw a b l n j) from rfl))) ?_
        refine Ops.go rfl (Loud.lit sl32 rfl rfl rfl (by simp [Value.oneCell'])) ?_
        rintro v24 _ rfl
        refine Ops.go rfl (Loud.append 1 rfl sl32 rfl rfl (RdL.own 0 rfl) (by simp [Value.oneCell']) (by omega) (by omega)) ?_
        rintro v25 _ rfl
        refine Ops.pure rfl (Pure.assign rfl) ?_
        refine Ops.nil ?_
        refine Run.blk ?_
        refine Run.region ?_
        refine Ops.pure rfl (Pure.move rfl) ?_
        refine Ops.pure rfl (Pure.add rfl rfl (by omega) (by omega)) ?_
        refine Ops.pure rfl (Pure.assign rfl) ?_
        refine Ops.nil ?_
        refine Run.asrt ?_
        refine ⟨j + 1, v25, ⟨by omega, by omega⟩, ⟨rfl, rfl, rfl, rfl, trivial⟩, Ext.trans (Ext.eq ?_) (Ext.right [_] _)⟩
        rw [effTo_succ, ints, List.map_append]
        rfl
      · skip
        replace c16 := dF c16
        refine Run.exit rfl ?_
        refine Run.seq ?_
        refine Run.region ?_
        refine Ops.pure rfl (Pure.move rfl) ?_
        refine Ops.pure rfl (Pure.assign rfl) ?_
        refine Ops.pure rfl (Pure.assign rfl) ?_
        refine Ops.nil ?_
        have e : j = 3 := by omega
        subst e
        refine Run.ext_ (Ext.take 0 rfl (Ext.nil _)) ?_
        refine Run.ret2 rfl rfl rfl ?_
        rw [ea_ok c12, c12, hn, Int.toNat_natCast]
        exact ⟨_, rfl, rfl⟩

set_option maxRecDepth 4000 in
/-- impl.JoiningPoints 1 -/
theorem f_jp1 (w : World) (x : Int) : RetV Try.prog 149 [.int .i64 x] w (.bool (neg0 x)) := by
  refine Ret.enter Try.func149 rfl Try.ntmps149 rfl ?_
  refine Run.seq ?_
  refine Run.region ?_
  refine Ops.pure rfl (Pure.assign rfl) ?_
  refine Ops.nil ?_
  refine Run.seq ?_
  refine Run.region ?_
  refine Ops.pure rfl (Pure.move rfl) ?_
  refine Ops.pure rfl (Pure.lss rfl rfl) ?_
  refine Ops.pure rfl (Pure.assign rfl) ?_
  refine Ops.nil ?_
  refine Run.ret1 rfl rfl ?_
  rfl

set_option maxRecDepth 4000 in
/-- impl.DividingPoints 1 -/
theorem f_dp1 (w : World) (x : Int) : RetV Try.prog 151 [.int .i64 x] w (.bool (pos0 x)) := by
  refine Ret.enter Try.func151 rfl Try.ntmps151 rfl ?_
  refine Run.seq ?_
  refine Run.region ?_
  refine Ops.pure rfl (Pure.assign rfl) ?_
  refine Ops.nil ?_
  refine Run.seq ?_
  refine Run.region ?_
  refine Ops.pure rfl (Pure.move rfl) ?_
  refine Ops.pure rfl (Pure.gtr rfl rfl) ?_
  refine Ops.pure rfl (Pure.assign rfl) ?_
  refine Ops.nil ?_
  refine Run.ret1 rfl rfl ?_
  rfl

set_option maxRecDepth 4000 in
set_option maxHeartbeats 800000 in
/-- impl.pointsWhere -/
theorem f_i_pointsWhere (w : World) (a : Int) (b : Int) (v : Value) (l : List Int) (P : Int → Bool) (fs : Nat) (hv : Rd w v 1 l.length (ints l)) (hl : l.length ≤ 1073741824) (a0 : -9223372036854775808 ≤ a) (a1 : a ≤ 9223372036854775807) (b0 : -9223372036854775808 ≤ b) (b1 : b ≤ 9223372036854775807) (hfn : FnOk Try.prog fs) (hP : ∀ (w : World) (x : Int), RetV Try.prog fs [.int .i64 x] w (.bool (P x))) : Ret Try.prog 148 [.agg #[.int .i64 a, .int .i64 b, v], .func (.func fs) #[] #[]] w (retI (wpL P a b l) (okE a b l)) := by
  refine Ret.enter Try.func148 rfl Try.ntmps148 rfl ?_
  refine Run.seq ?_
  refine Run.region ?_
  refine Ops.go rfl (Loud.box rfl rfl) ?_
  rintro _ _ ⟨b2, rfl, rfl⟩
  refine Ops.pure rfl (Pure.assign rfl) ?_
  refine Ops.pure rfl (Pure.assign rfl) ?_
  refine Ops.nil ?_
  refine Run.seq ?_
  refine Run.seq ?_
  refine Run.region ?_
  refine Ops.pure rfl (Pure.ldBA 0 rfl cell35 rfl rfl rfl) ?_
  refine Ops.q rfl (QOp.call fn96 rfl (fun w hw => f_i_ValidPanel w _ _ _ _ (by exact RdL.old (by assumption) w hw) (by assumption) (by assumption) (by assumption) (by assumption) (by assumption))) ?_
  refine Ops.pure rfl (Pure.not rfl) ?_
  refine Ops.nil ?_
  refine Run.cond rfl (fun c13 => ?_) (fun c13 => ?_)
  · skip
    replace c13 := bT c13
    refine Run.seq ?_
    refine Run.region ?_
    refine Ops.pure rfl (Pure.assign rfl) ?_
    refine Ops.pure rfl (Pure.assign rfl) ?_
    refine Ops.nil ?_
    refine Run.addNil 2 1 ?_
    refine Run.ext_ (Ext.take 0 rfl (Ext.nil _)) ?_
    refine Run.ret2 rfl rfl rfl ?_
    have hk : okP a b l = false := by simpa using c13
    rw [(wp_bad (P := P) hk).2]
    exact retI_nil (wp_bad hk).1
  · skip
    replace c13 := bF c13
    have hk : okP a b l = true := by simpa using c13
    have hs := okP_size hk
    have hll := okP_ln hk
    have hcl := cnt_le (l := l) hs
    refine Run.skip ?_
    refine Run.seq ?_
    refine Run.region ?_
    refine Ops.go rfl (Loud.lit sl32 rfl rfl rfl (by simp [Value.oneCell'])) ?_
    rintro v14 _ rfl
    refine Ops.pure rfl (Pure.ldBA 1 rfl cell35 rfl rfl rfl) ?_
    refine Ops.q rfl (QOp.call fn121 rfl (fun w hw => f_i_countCurves w a b v l (RdL.old hv w hw) hk)) ?_
    refine Ops.pure rfl (Pure.assign rfl) ?_
    refine Ops.pure rfl (Pure.assign rfl) ?_
    refine Ops.nil ?_
    refine Run.seq ?_
    refine Run.seq ?_
    refine Run.region ?_
    refine Ops.pure rfl (Pure.fieldAddrB fld35_2 rfl) ?_
    refine Ops.pure rfl (Pure.ldB 1 rfl cell32 rfl rfl) ?_
    refine Ops.pure rfl (Pure.len sl32 (RdL.old hv) rfl) ?_
    refine Ops.pure rfl (Pure.move rfl) ?_
    refine Ops.nil ?_
    refine Run.block ?_
    refine Run.loop2 (X := Nat) (Y := Value) (fun k vo => [(1, .func (.func fs) #[] #[]), (2, .pointer (some ⟨b2, 0, none⟩)), (6, vo), (7, .int .i64 (cnt a b l : Int)), (19, .int .i64 l.length), (20, .int .i64 k)]) (fun k vo => [.row 2 1 vo (whL P a b l k).length (ints (whL P a b l k)), .box b2 35 [.int .i64 a, .int .i64 b, v]]) (fun k vo => k ≤ l.length) (fun k vo => l.length - k) 0 v14 ?_ ?_ ?_ ?_
    · exact Nat.zero_le _
    · exact ⟨rfl, rfl, rfl, rfl, rfl, rfl, trivial⟩
    · exact Ext.refl _
    · intro k vo hinv0
      refine Run.seq ?_
      refine Run.region ?_
      refine Ops.pure rfl (Pure.lss rfl rfl) ?_
      refine Ops.nil ?_
      refine Run.seq ?_
      refine Run.cond rfl (fun c21 => ?_) (fun c21 => ?_)
      · skip
        replace c21 := dT c21
        refine Run.skip ?_
        refine Run.seq ?_
        refine Run.block ?_
        refine Run.seq ?_
        refine Run.region ?_
        refine Ops.pure rfl (Pure.move rfl) ?_
        refine Ops.pure rfl (Pure.assign rfl) ?_
        refine Ops.nil ?_
        refine Run.seq ?_
        refine Run.region ?_
        refine Ops.pure rfl (Pure.ldBA 1 rfl cell35 rfl rfl rfl) ?_
        refine Ops.pure rfl (Pure.move rfl) ?_
        refine Ops.go rfl (Loud.callR fn145 rfl (fun w hw => f_i_Panel_effectsAt w a b v l k (RdL.old hv w hw) hl hk (by omega))) ?_
        rintro v25 _ ⟨L25, hQ25, rfl⟩
        subst hQ25
        refine Ops.pure rfl (Pure.len sl32 (RdL.own 0 rfl) rfl) ?_
        refine Ops.pure rfl (Pure.move rfl) ?_
        refine Ops.nil ?_
        refine Run.block ?_
        refine Run.loop (X := Nat) (fun j => [(1, .func (.func fs) #[] #[]), (2, .pointer (some ⟨b2, 0, none⟩)), (6, vo), (7, .int .i64 (cnt a b l : Int)), (8, .int .i64 k), (19, .int .i64 l.length), (20, .int .i64 k), (25, v25), (26, .int .i64 3), (27, .int .i64 j)]) (fun j => [.row 2 1 v25 3 (ints (effTo a b l k 3)), .row 2 1 vo (whL P a b l k).length (ints (whL P a b l k)), .box b2 35 [.int .i64 a, .int .i64 b, v]]) (fun j => j ≤ 3 ∧ anyJ P a b l k j = false) (fun j => 3 - j) 0 ?_ ?_ ?_ ?_
        · exact ⟨Nat.zero_le _, rfl⟩
        · exact ⟨rfl, rfl, rfl, rfl, rfl, rfl, rfl, rfl, rfl, rfl, trivial⟩
        · exact Ext.refl _
        · intro j hinv1
          have hef := fun (h : j < 3) => effTo_get (a := a) (b := b) (l := l) (k := k) h
          have hel := length_effTo a b l k 3
          have hcw := cw_le (l := l) hs k j
          have hwz := length_whL P a b l k
          refine Run.seq ?_
          refine Run.region ?_
          refine Ops.pure rfl (Pure.lss rfl rfl) ?_
          refine Ops.nil ?_
          refine Run.seq ?_
          refine Run.cond rfl (fun c28 => ?_) (fun c28 => ?_)
          · skip
            replace c28 := dT c28
            refine Run.skip ?_
            refine Run.seq ?_
            refine Run.block ?_
            refine Run.seq ?_
            refine Run.region ?_
            refine Ops.pure rfl (Pure.idx1N sl32 (RdL.own 0 rfl) rfl rfl (by first | assumption | omega | (simp; omega))) ?_
            refine Ops.pure rfl (Pure.ld cell2 rfl (RdL.own 0 rfl) (by first | exact ints_get (by omega) | exact bools_get (by omega) | exact strs_get (by omega) | exact vals_get (by first | omega | (simp; omega)))) ?_
            refine Ops.pure rfl (Pure.assign rfl) ?_
            refine Ops.nil ?_
            refine Run.seq ?_
            rw [hef (by omega)]
            refine Run.region ?_
            refine Ops.pure rfl (Pure.move rfl) ?_
            refine Ops.pure rfl (Pure.move rfl) ?_
            refine Ops.pure rfl (Pure.move rfl) ?_
            refine Ops.pure rfl (Pure.sub rfl rfl (by omega) (by omega)) ?_
            refine Ops.q rfl (QOp.callF hfn rfl rfl rfl (fun w hw => hP w _)) ?_
            refine Ops.nil ?_
            refine Run.cond rfl (fun c35 => ?_) (fun c35 => ?_)
            · skip
              skip
              refine Run.seq ?_
              refine Run.region ?_
              refine Ops.pure rfl (Pure.move rfl) ?_
              refine Ops.pure rfl (Pure.move rfl) ?_
              refine Ops.go rfl (Loud.lit sl32 rfl rfl rfl (by simp [Value.oneCell'])) ?_
              rintro v38 _ rfl
              refine Ops.go rfl (Loud.append 2 rfl sl32 rfl rfl (RdL.own 0 rfl) (by simp [Value.oneCell']) (by omega) (by omega)) ?_
              rintro v39 _ rfl
              refine Ops.pure rfl (Pure.assign rfl) ?_
              refine Ops.nil ?_
              refine Run.exit rfl ?_
              refine Run.blk ?_
              refine Run.region ?_
              refine Ops.pure rfl (Pure.add rfl rfl (by omega) (by omega)) ?_
              refine Ops.pure rfl (Pure.move rfl) ?_
              refine Ops.nil ?_
              refine Run.asrt ?_
              first
                | (refine ⟨k + 1, v39, ⟨by omega, by omega⟩, ⟨rfl, rfl, rfl, rfl, rfl, rfl, trivial⟩, Ext.trans (Ext.eq ?_) (Ext.take 2 rfl (Ext.take 2 rfl (Ext.nil _)))⟩
                   rw [whL_yes (anyJ_up (j := j) (by rw [anyJ_succ, c35, Bool.or_true]) (by omega)), List.length_append, List.length_singleton, ints, ints, List.map_append]
                   rfl)
                | (obtain rfl : j = 3 := by omega
                   exact ⟨k + 1, vo, ⟨by omega, by omega⟩, ⟨rfl, rfl, rfl, rfl, rfl, rfl, trivial⟩, Ext.trans (Ext.eq (by rw [whL_no hinv1.2])) (Ext.right [_] _)⟩)
            · skip
              skip
              refine Run.skip ?_
              refine Run.blk ?_
              refine Run.region ?_
              refine Ops.pure rfl (Pure.add rfl rfl (by omega) (by omega)) ?_
              refine Ops.pure rfl (Pure.move rfl) ?_
              refine Ops.nil ?_
              refine Run.asrt ?_
              exact ⟨j + 1, ⟨⟨by omega, by rw [anyJ_succ, hinv1.2, c35]; rfl⟩, by omega⟩, ⟨rfl, rfl, rfl, rfl, rfl, rfl, rfl, rfl, rfl, rfl, trivial⟩, Ext.refl _⟩
          · skip
            replace c28 := dF c28
            refine Run.exit rfl ?_
            refine Run.blk ?_
            refine Run.region ?_
            refine Ops.pure rfl (Pure.add rfl rfl (by omega) (by omega)) ?_
            refine Ops.pure rfl (Pure.move rfl) ?_
            refine Ops.nil ?_
            refine Run.asrt ?_
            first
              | (refine ⟨k + 1, v39, ⟨by omega, by omega⟩, ⟨rfl, rfl, rfl, rfl, rfl, rfl, trivial⟩, Ext.trans (Ext.eq ?_) (Ext.take 2 rfl (Ext.take 2 rfl (Ext.nil _)))⟩
                 rw [whL_yes (anyJ_up (j := j) (by rw [anyJ_succ, c35, Bool.or_true]) (by omega)), List.length_append, List.length_singleton, ints, ints, List.map_append]
                 rfl)
              | (obtain rfl : j = 3 := by omega
                 exact ⟨k + 1, vo, ⟨by omega, by omega⟩, ⟨rfl, rfl, rfl, rfl, rfl, rfl, trivial⟩, Ext.trans (Ext.eq (by rw [whL_no hinv1.2])) (Ext.right [_] _)⟩)
      · skip
        replace c21 := dF c21
        refine Run.exit rfl ?_
        refine Run.seq ?_
        refine Run.region ?_
        refine Ops.pure rfl (Pure.move rfl) ?_
        refine Ops.pure rfl (Pure.assign rfl) ?_
        refine Ops.pure rfl (Pure.assign rfl) ?_
        refine Ops.nil ?_
        refine Run.ext_ (Ext.take 0 rfl (Ext.nil _)) ?_
        refine Run.ret2 rfl rfl rfl ?_
        have e : k = l.length := by omega
        subst e
        rw [(wp_ok (P := P) hk).1, (wp_ok (P := P) hk).2]
        exact ⟨_, rfl, rfl⟩

set_option maxRecDepth 4000 in
/-- impl.JoiningPoints -/
theorem f_i_JoiningPoints (w : World) (a : Int) (b : Int) (v : Value) (l : List Int) (hv : Rd w v 1 l.length (ints l)) (hl : l.length ≤ 1073741824) (a0 : -9223372036854775808 ≤ a) (a1 : a ≤ 9223372036854775807) (b0 : -9223372036854775808 ≤ b) (b1 : b ≤ 9223372036854775807) : Ret Try.prog 73 [.agg #[.int .i64 a, .int .i64 b, v]] w (retI (wpL neg0 a b l) (okE a b l)) := by
  refine Ret.enter Try.func73 rfl Try.ntmps73 rfl ?_
  refine Run.seq ?_
  refine Run.region ?_
  refine Ops.go rfl (Loud.box rfl rfl) ?_
  rintro _ _ ⟨b1, rfl, rfl⟩
  refine Ops.pure rfl (Pure.assign rfl) ?_
  refine Ops.pure rfl (Pure.assign rfl) ?_
  refine Ops.nil ?_
  refine Run.seq ?_
  refine Run.region ?_
  refine Ops.pure rfl (Pure.ldBA 0 rfl cell35 rfl rfl rfl) ?_
  refine Ops.go rfl (Loud.callR fn148 rfl (fun w hw => f_i_pointsWhere w a b v l neg0 149 (RdL.old hv w hw) hl a0 a1 b0 (by assumption) fn149 (fun w x => f_jp1 w x))) ?_
  rintro v5 _ ⟨L5, hQ5, rfl⟩
  obtain ⟨x5, rfl, rfl⟩ := hQ5
  refine Ops.pure rfl (Pure.extract rfl rfl) ?_
  refine Ops.pure rfl (Pure.extract rfl rfl) ?_
  refine Ops.pure rfl (Pure.assign rfl) ?_
  refine Ops.pure rfl (Pure.assign rfl) ?_
  refine Ops.nil ?_
  refine Run.ext_ (Ext.take 0 rfl (Ext.nil _)) ?_
  refine Run.ret2 rfl rfl rfl ?_
  exact ⟨_, rfl, rfl⟩

set_option maxRecDepth 4000 in
/-- impl.DividingPoints -/
theorem f_i_DividingPoints (w : World) (a : Int) (b : Int) (v : Value) (l : List Int) (hv : Rd w v 1 l.length (ints l)) (hl : l.length ≤ 1073741824) (a0 : -9223372036854775808 ≤ a) (a1 : a ≤ 9223372036854775807) (b0 : -9223372036854775808 ≤ b) (b1 : b ≤ 9223372036854775807) : Ret Try.prog 76 [.agg #[.int .i64 a, .int .i64 b, v]] w (retI (wpL pos0 a b l) (okE a b l)) := by
  refine Ret.enter Try.func76 rfl Try.ntmps76 rfl ?_
  refine Run.seq ?_
  refine Run.region ?_
  refine Ops.go rfl (Loud.box rfl rfl) ?_
  rintro _ _ ⟨b1, rfl, rfl⟩
  refine Ops.pure rfl (Pure.assign rfl) ?_
  refine Ops.pure rfl (Pure.assign rfl) ?_
  refine Ops.nil ?_
  refine Run.seq ?_
  refine Run.region ?_
  refine Ops.pure rfl (Pure.ldBA 0 rfl cell35 rfl rfl rfl) ?_
  refine Ops.go rfl (Loud.callR fn148 rfl (fun w hw => f_i_pointsWhere w a b v l pos0 151 (RdL.old hv w hw) hl a0 a1 b0 (by assumption) fn151 (fun w x => f_dp1 w x))) ?_
  rintro v5 _ ⟨L5, hQ5, rfl⟩
  obtain ⟨x5, rfl, rfl⟩ := hQ5
  refine Ops.pure rfl (Pure.extract rfl rfl) ?_
  refine Ops.pure rfl (Pure.extract rfl rfl) ?_
  refine Ops.pure rfl (Pure.assign rfl) ?_
  refine Ops.pure rfl (Pure.assign rfl) ?_
  refine Ops.nil ?_
  refine Run.ext_ (Ext.take 0 rfl (Ext.nil _)) ?_
  refine Run.ret2 rfl rfl rfl ?_
  exact ⟨_, rfl, rfl⟩

set_option maxRecDepth 4000 in
set_option maxHeartbeats 800000 in
/-- spec.l10Points -/
theorem f_s_l10Points (w : World) (p : Nat) (a : Int) (b : Int) (v : Value) (l : List Int) (s : Int) (hp : Rd w (boxS p) 3 1 [.int .i64 a, .int .i64 b, v]) (hv : Rd w v 1 l.length (ints l)) (hl : l.length ≤ 1073741824) (hk : okP a b l = true) (hs1 : s = 1 ∨ s = -1) : Ret Try.prog 150 [.pointer (some ⟨p, 0, none⟩), .int .i64 s] w (fun u L => L = [.row 2 1 u (whL (fun x : Int => decide (0 < x * s)) a b l l.length).length (ints (whL (fun x : Int => decide (0 < x * s)) a b l l.length))]) := by
  have hs := okP_size hk
  have hll := okP_ln hk
  have hcl := cnt_le (l := l) hs
  refine Ret.enter Try.func150 rfl Try.ntmps150 rfl ?_
  refine Run.seq ?_
  refine Run.region ?_
  refine Ops.pure rfl (Pure.assign rfl) ?_
  refine Ops.nil ?_
  refine Run.seq ?_
  refine Run.region ?_
  refine Ops.go rfl (Loud.lit sl32 rfl rfl rfl (by simp [Value.oneCell'])) ?_
  rintro v10 _ rfl
  refine Ops.pure rfl (Pure.assign rfl) ?_
  refine Ops.nil ?_
  refine Run.seq ?_
  refine Run.region ?_
  refine Ops.pure rfl (Pure.move rfl) ?_
  refine Ops.q rfl (QOp.call fn122 rfl (fun w hw => f_s_l04Count w p a b v l (RdL.old hp w hw) (RdL.old hv w hw) hk)) ?_
  refine Ops.pure rfl (Pure.assign rfl) ?_
  refine Ops.nil ?_
  refine Run.seq ?_
  refine Run.seq ?_
  refine Run.region ?_
  refine Ops.pure rfl (Pure.assign rfl) ?_
  refine Ops.nil ?_
  refine Run.block ?_
  refine Run.loop2 (X := Nat) (Y := Value) (fun k vo => [(0, .pointer (some ⟨p, 0, none⟩)), (1, .int .i64 s), (5, vo), (6, .int .i64 (cnt a b l : Int)), (7, .int .i64 k)]) (fun k vo => [.row 2 1 vo (whL (fun x : Int => decide (0 < x * s)) a b l k).length (ints (whL (fun x : Int => decide (0 < x * s)) a b l k))]) (fun k vo => k ≤ l.length) (fun k vo => l.length - k) 0 v10 ?_ ?_ ?_ ?_
  · exact Nat.zero_le _
  · exact ⟨rfl, rfl, rfl, rfl, rfl, trivial⟩
  · exact Ext.refl _
  · intro k vo hinv0
    refine Run.seq ?_
    refine Run.seq ?_
    refine Run.region ?_
    refine Ops.pure rfl (Pure.move rfl) ?_
    refine Ops.pure rfl (Pure.move rfl) ?_
    refine Ops.pure rfl (Pure.nilchk rfl) ?_
    refine Ops.pure rfl (Pure.fieldAddrB fld35_2 rfl) ?_
    refine Ops.pure rfl (Pure.ldP cell32 rfl (RdL.old hp) rfl) ?_
    refine Ops.pure rfl (Pure.len sl32 (RdL.old hv) rfl) ?_
    refine Ops.pure rfl (Pure.lss rfl rfl) ?_
    refine Ops.nil ?_
    refine Run.cond rfl (fun c19 => ?_) (fun c19 => ?_)
    · skip
      replace c19 := dT c19
      refine Run.skip ?_
      refine Run.seq ?_
      refine Run.block ?_
      refine Run.seq ?_
      refine Run.region ?_
      refine Ops.pure rfl (Pure.assign rfl) ?_
      refine Ops.nil ?_
      refine Run.seq ?_
      refine Run.seq ?_
      refine Run.region ?_
      refine Ops.pure rfl (Pure.assign rfl) ?_
      refine Ops.nil ?_
      refine Run.block ?_
      refine Run.loop (X := Nat) (fun j => [(0, .pointer (some ⟨p, 0, none⟩)), (1, .int .i64 s), (5, vo), (6, .int .i64 (cnt a b l : Int)), (7, .int .i64 k), (8, .bool (anyJ (fun x : Int => decide (0 < x * s)) a b l k j)), (9, .int .i64 j)]) (fun j => [.row 2 1 vo (whL (fun x : Int => decide (0 < x * s)) a b l k).length (ints (whL (fun x : Int => decide (0 < x * s)) a b l k))]) (fun j => j ≤ 3) (fun j => 3 - j) 0 ?_ ?_ ?_ ?_
      · exact Nat.zero_le _
      · exact ⟨rfl, rfl, rfl, rfl, rfl, rfl, rfl, trivial⟩
      · exact Ext.refl _
      · intro j hinv1
        have hcw := cw_le (l := l) hs k j
        have hwz := length_whL (fun x : Int => decide (0 < x * s)) a b l k
        have hml : ((cw a b l k j - (cnt a b l : Int)) * s = cw a b l k j - (cnt a b l : Int) ∨ (cw a b l k j - (cnt a b l : Int)) * s = -(cw a b l k j - (cnt a b l : Int))) := by rcases hs1 with rfl | rfl <;> omega
        refine Run.seq ?_
        refine Run.seq ?_
        refine Run.region ?_
        refine Ops.pure rfl (Pure.move rfl) ?_
        refine Ops.pure rfl (Pure.lss rfl rfl) ?_
        refine Ops.nil ?_
        refine Run.cond rfl (fun c23 => ?_) (fun c23 => ?_)
        · skip
          replace c23 := dT c23
          refine Run.skip ?_
          refine Run.seq ?_
          refine Run.block ?_
          refine Run.region ?_
          refine Ops.pure rfl (Pure.move rfl) ?_
          refine Ops.pure rfl (Pure.move rfl) ?_
          refine Ops.guard rfl rfl rfl rfl (fun c27 => ?_) (fun c27 => ?_)
          · skip
            have c27' := c27
            refine Ops.pure rfl (Pure.move rfl) ?_
            refine Ops.guardY rfl rfl rfl c27 ?_
            refine Ops.pure rfl (Pure.move rfl) ?_
            refine Ops.guardY rfl rfl rfl c27 ?_
            refine Ops.pure rfl (Pure.move rfl) ?_
            refine Ops.guardY rfl rfl rfl c27 ?_
            refine Ops.q rfl (QOp.call fn143 rfl (fun w hw => (f_s_l10With w p a b v l k (j : Int) (RdL.old hp w hw) (RdL.old hv w hw) hl hk (by omega) (by omega) (by omega)).cong (show _ = Value.int .i64 (cw a b l k j) from rfl))) ?_
            refine Ops.guardY rfl rfl rfl c27 ?_
            refine Ops.pure rfl (Pure.move rfl) ?_
            refine Ops.guardY rfl rfl rfl c27 ?_
            refine Ops.pure rfl (Pure.sub rfl rfl (by omega) (by omega)) ?_
            refine Ops.guardY rfl rfl rfl c27 ?_
            refine Ops.pure rfl (Pure.move rfl) ?_
            refine Ops.guardY rfl rfl rfl c27 ?_
            refine Ops.pure rfl (Pure.mul rfl rfl (by omega) (by omega)) ?_
            refine Ops.guardY rfl rfl rfl c27 ?_
            refine Ops.pure rfl (Pure.gtr rfl rfl) ?_
            refine Ops.pure rfl (Pure.pickF rfl c27 rfl) ?_
            refine Ops.pure rfl (Pure.assign rfl) ?_
            refine Ops.nil ?_
            refine Run.blk ?_
            refine Run.region ?_
            refine Ops.pure rfl (Pure.move rfl) ?_
            refine Ops.pure rfl (Pure.add rfl rfl (by omega) (by omega)) ?_
            refine Ops.pure rfl (Pure.assign rfl) ?_
            refine Ops.nil ?_
            refine Run.asrt ?_
            first
              | exact ⟨j + 1, ⟨by omega, by omega⟩, ⟨rfl, rfl, rfl, rfl, rfl, congrArg (fun x => some (Value.bool x)) (by rw [anyJ_succ]; first | (rw [c27]; rfl) | (simp_all; done)), rfl, trivial⟩, Ext.refl _⟩
          · skip
            replace c27 := Bool.eq_true_of_ne c27
            have c27' := c27
            refine Ops.guardN rfl rfl rfl rfl (by rw [c27]; decide) ?_
            refine Ops.guardN rfl rfl rfl rfl (by rw [c27]; decide) ?_
            refine Ops.guardN rfl rfl rfl rfl (by rw [c27]; decide) ?_
            refine Ops.guardN rfl rfl rfl rfl (by rw [c27]; decide) ?_
            refine Ops.guardN rfl rfl rfl rfl (by rw [c27]; decide) ?_
            refine Ops.guardN rfl rfl rfl rfl (by rw [c27]; decide) ?_
            refine Ops.guardN rfl rfl rfl rfl (by rw [c27]; decide) ?_
            refine Ops.guardN rfl rfl rfl rfl (by rw [c27]; decide) ?_
            refine Ops.pure rfl (Pure.pickT rfl c27 rfl) ?_
            refine Ops.pure rfl (Pure.assign rfl) ?_
            refine Ops.nil ?_
            refine Run.blk ?_
            refine Run.region ?_
            refine Ops.pure rfl (Pure.move rfl) ?_
            refine Ops.pure rfl (Pure.add rfl rfl (by omega) (by omega)) ?_
            refine Ops.pure rfl (Pure.assign rfl) ?_
            refine Ops.nil ?_
            refine Run.asrt ?_
            first
              | exact ⟨j + 1, ⟨by omega, by omega⟩, ⟨rfl, rfl, rfl, rfl, rfl, congrArg (fun x => some (Value.bool x)) (by rw [anyJ_succ]; first | (rw [c27]; rfl) | (simp_all; done)), rfl, trivial⟩, Ext.refl _⟩
        · skip
          replace c23 := dF c23
          refine Run.exit rfl ?_
          refine Run.seq ?_
          obtain rfl : j = 3 := by omega
          refine Run.region ?_
          refine Ops.pure rfl (Pure.move rfl) ?_
          refine Ops.nil ?_
          refine Run.cond rfl (fun c38 => ?_) (fun c38 => ?_)
          · skip
            skip
            refine Run.region ?_
            refine Ops.pure rfl (Pure.move rfl) ?_
            refine Ops.pure rfl (Pure.move rfl) ?_
            refine Ops.go rfl (Loud.lit sl32 rfl rfl rfl (by simp [Value.oneCell'])) ?_
            rintro v41 _ rfl
            refine Ops.go rfl (Loud.append 1 rfl sl32 rfl rfl (RdL.own 0 rfl) (by simp [Value.oneCell']) (by omega) (by omega)) ?_
            rintro v42 _ rfl
            refine Ops.pure rfl (Pure.assign rfl) ?_
            refine Ops.nil ?_
            refine Run.blk ?_
            refine Run.region ?_
            refine Ops.pure rfl (Pure.move rfl) ?_
            refine Ops.pure rfl (Pure.add rfl rfl (by omega) (by omega)) ?_
            refine Ops.pure rfl (Pure.assign rfl) ?_
            refine Ops.nil ?_
            refine Run.asrt ?_
            first
              | (refine ⟨k + 1, v42, ⟨by omega, by omega⟩, ⟨rfl, rfl, rfl, rfl, rfl, trivial⟩, Ext.trans (Ext.eq ?_) (Ext.take 1 rfl (Ext.nil _))⟩
                 rw [whL_yes c38, List.length_append, List.length_singleton, ints, ints, List.map_append]
                 rfl)
              | exact ⟨k + 1, vo, ⟨by omega, by omega⟩, ⟨rfl, rfl, rfl, rfl, rfl, trivial⟩, Ext.eq (by rw [whL_no c38])⟩
          · skip
            skip
            refine Run.skip ?_
            refine Run.blk ?_
            refine Run.region ?_
            refine Ops.pure rfl (Pure.move rfl) ?_
            refine Ops.pure rfl (Pure.add rfl rfl (by omega) (by omega)) ?_
            refine Ops.pure rfl (Pure.assign rfl) ?_
            refine Ops.nil ?_
            refine Run.asrt ?_
            first
              | (refine ⟨k + 1, v42, ⟨by omega, by omega⟩, ⟨rfl, rfl, rfl, rfl, rfl, trivial⟩, Ext.trans (Ext.eq ?_) (Ext.take 1 rfl (Ext.nil _))⟩
                 rw [whL_yes c38, List.length_append, List.length_singleton, ints, ints, List.map_append]
                 rfl)
              | exact ⟨k + 1, vo, ⟨by omega, by omega⟩, ⟨rfl, rfl, rfl, rfl, rfl, trivial⟩, Ext.eq (by rw [whL_no c38])⟩
    · skip
      replace c19 := dF c19
      refine Run.exit rfl ?_
      refine Run.seq ?_
      refine Run.region ?_
      refine Ops.pure rfl (Pure.move rfl) ?_
      refine Ops.pure rfl (Pure.assign rfl) ?_
      refine Ops.nil ?_
      refine Run.ret1 rfl rfl ?_
      have e : k = l.length := by omega
      subst e
      rfl

set_option maxRecDepth 4000 in
/-- spec.JoiningPoints -/
theorem f_s_JoiningPoints (w : World) (a : Int) (b : Int) (v : Value) (l : List Int) (hv : Rd w v 1 l.length (ints l)) (hl : l.length ≤ 1073741824) (a0 : -9223372036854775808 ≤ a) (a1 : a ≤ 9223372036854775807) (b0 : -9223372036854775808 ≤ b) (b1 : b ≤ 9223372036854775807) : Ret Try.prog 74 [.agg #[.int .i64 a, .int .i64 b, v]] w (retI (wpL neg0 a b l) (okE a b l)) := by
  refine Ret.enter Try.func74 rfl Try.ntmps74 rfl ?_
  refine Run.seq ?_
  refine Run.region ?_
  refine Ops.go rfl (Loud.box rfl rfl) ?_
  rintro _ _ ⟨b1, rfl, rfl⟩
  refine Ops.pure rfl (Pure.assign rfl) ?_
  refine Ops.pure rfl (Pure.assign rfl) ?_
  refine Ops.nil ?_
  refine Run.seq ?_
  refine Run.seq ?_
  refine Run.region ?_
  refine Ops.q rfl (QOp.call fn99 rfl (fun w hw => f_s_l02Ok w _ a b v l (RdL.boxM 0 rfl rfl w hw) (RdL.old hv w hw) hl a0 a1 b0 (by assumption))) ?_
  refine Ops.pure rfl (Pure.not rfl) ?_
  refine Ops.nil ?_
  refine Run.cond rfl (fun c5 => ?_) (fun c5 => ?_)
  · skip
    replace c5 := bT c5
    refine Run.seq ?_
    refine Run.region ?_
    refine Ops.pure rfl (Pure.assign rfl) ?_
    refine Ops.pure rfl (Pure.assign rfl) ?_
    refine Ops.nil ?_
    refine Run.addNil 2 1 ?_
    refine Run.ext_ (Ext.take 0 rfl (Ext.nil _)) ?_
    refine Run.ret2 rfl rfl rfl ?_
    have hk : okP a b l = false := by simpa using c5
    rw [(wp_bad (P := neg0) hk).2]
    exact retI_nil (wp_bad hk).1
  · skip
    replace c5 := bF c5
    have hk : okP a b l = true := by simpa using c5
    refine Run.skip ?_
    refine Run.seq ?_
    refine Run.region ?_
    refine Ops.go rfl (Loud.callR fn150 rfl (fun w hw => f_s_l10Points w _ a b v l (-1) (RdL.boxM 0 rfl rfl w hw) (RdL.old hv w hw) hl hk (by decide))) ?_
    rintro v6 _ ⟨L6, hQ6, rfl⟩
    subst hQ6
    rw [show (fun x : Int => decide (0 < x * -1)) = neg0 from funext (fun x => by unfold neg0; rw [decide_eq_decide]; omega)]
    refine Ops.pure rfl (Pure.assign rfl) ?_
    refine Ops.pure rfl (Pure.assign rfl) ?_
    refine Ops.nil ?_
    refine Run.ext_ (Ext.take 0 rfl (Ext.nil _)) ?_
    refine Run.ret2 rfl rfl rfl ?_
    rw [(wp_ok (P := neg0) hk).1, (wp_ok (P := neg0) hk).2]
    exact ⟨_, rfl, rfl⟩

set_option maxRecDepth 4000 in
/-- spec.DividingPoints -/
theorem f_s_DividingPoints (w : World) (a : Int) (b : Int) (v : Value) (l : List Int) (hv : Rd w v 1 l.length (ints l)) (hl : l.length ≤ 1073741824) (a0 : -9223372036854775808 ≤ a) (a1 : a ≤ 9223372036854775807) (b0 : -9223372036854775808 ≤ b) (b1 : b ≤ 9223372036854775807) : Ret Try.prog 77 [.agg #[.int .i64 a, .int .i64 b, v]] w (retI (wpL pos0 a b l) (okE a b l)) := by
  refine Ret.enter Try.func77 rfl Try.ntmps77 rfl ?_
  refine Run.seq ?_
  refine Run.region ?_
  refine Ops.go rfl (Loud.box rfl rfl) ?_
  rintro _ _ ⟨b1, rfl, rfl⟩
  refine Ops.pure rfl (Pure.assign rfl) ?_
  refine Ops.pure rfl (Pure.assign rfl) ?_
  refine Ops.nil ?_
  refine Run.seq ?_
  refine Run.seq ?_
  refine Run.region ?_
  refine Ops.q rfl (QOp.call fn99 rfl (fun w hw => f_s_l02Ok w _ a b v l (RdL.boxM 0 rfl rfl w hw) (RdL.old hv w hw) hl a0 a1 b0 (by assumption))) ?_
  refine Ops.pure rfl (Pure.not rfl) ?_
  refine Ops.nil ?_
  refine Run.cond rfl (fun c5 => ?_) (fun c5 => ?_)
  · skip
    replace c5 := bT c5
    refine Run.seq ?_
    refine Run.region ?_
    refine Ops.pure rfl (Pure.assign rfl) ?_
    refine Ops.pure rfl (Pure.assign rfl) ?_
    refine Ops.nil ?_
    refine Run.addNil 2 1 ?_
    refine Run.ext_ (Ext.take 0 rfl (Ext.nil _)) ?_
    refine Run.ret2 rfl rfl rfl ?_
    have hk : okP a b l = false := by simpa using c5
    rw [(wp_bad (P := pos0) hk).2]
    exact retI_nil (wp_bad hk).1
  · skip
    replace c5 := bF c5
    have hk : okP a b l = true := by simpa using c5
    refine Run.skip ?_
    refine Run.seq ?_
    refine Run.region ?_
    refine Ops.go rfl (Loud.callR fn150 rfl (fun w hw => f_s_l10Points w _ a b v l (1) (RdL.boxM 0 rfl rfl w hw) (RdL.old hv w hw) hl hk (by decide))) ?_
    rintro v6 _ ⟨L6, hQ6, rfl⟩
    subst hQ6
    rw [show (fun x : Int => decide (0 < x * 1)) = pos0 from funext (fun x => by unfold pos0; rw [decide_eq_decide]; omega)]
    refine Ops.pure rfl (Pure.assign rfl) ?_
    refine Ops.pure rfl (Pure.assign rfl) ?_
    refine Ops.nil ?_
    refine Run.ext_ (Ext.take 0 rfl (Ext.nil _)) ?_
    refine Run.ret2 rfl rfl rfl ?_
    rw [(wp_ok (P := pos0) hk).1, (wp_ok (P := pos0) hk).2]
    exact ⟨_, rfl, rfl⟩

set_option maxRecDepth 4000 in
/-- spec.DrawJoiningPoints -/
theorem f_s_DrawJoiningPoints (w : World) (vc : Value) (co : List Int) (hc : Rd w vc 1 co.length (AW.bytes co)) (hb : ∀ x ∈ co, 0 ≤ x ∧ x ≤ 255) (hcl : co.length ≤ 1000000000) : Ret Try.prog 72 [vc] w (fun u L => ∃ (a c : Int) (l : List Int) (x : Value), 0 ≤ a ∧ a ≤ 9 ∧ 0 ≤ c ∧ c ≤ 9 ∧ l.length ≤ 112 ∧ x.oneCell' = true ∧ u = .agg #[.int .i64 a, .int .i64 c, x] ∧ L = [.row 2 1 x l.length (ints l)]) := by
  have hv1 := hc.one
  refine Ret.enter Try.func72 rfl Try.ntmps72 rfl ?_
  refine Run.seq ?_
  refine Run.region ?_
  refine Ops.go rfl (Loud.alloc zero35 rfl) ?_
  rintro _ _ ⟨b2, rfl, rfl⟩
  refine Ops.nil ?_
  refine Run.seq ?_
  refine Run.region ?_
  refine Ops.pure rfl (Pure.move rfl) ?_
  refine Ops.go rfl (Loud.callR fn87 rfl (fun w hw => f_s_l00From w vc co hv1)) ?_
  rintro v4 _ ⟨L4, hQ4, rfl⟩
  obtain ⟨s4, rfl, rfl⟩ := hQ4
  refine Ops.go rfl (Loud.callO fn147 rfl (fun w hw => f_s_l10Small _ w _ vc co _ _ _ (Sat.front 0 rfl hw) hc hb hcl (by omega))) ?_
  rintro v5 L5 hQ5
  obtain ⟨a5, c5, l5, x5, q5, sd5, ha5, hA5, hc5, hC5, hn5, h5, hq5, rfl, rfl⟩ := hQ5
  refine Ops.store (Stores.box 2 rfl rfl rfl size35 (one3 h5) rfl rfl) ?_
  refine Ops.nil ?_
  refine Run.retCx 2 rfl rfl rfl cell35 rfl (Ext.take 0 rfl (Ext.nil _)) ?_
  exact ⟨a5, c5, l5, x5, by omega, by omega, by omega, by omega, by omega, h5, rfl, rfl⟩

set_option maxRecDepth 4000 in
/-- spec.DrawDividingPoints -/
theorem f_s_DrawDividingPoints (w : World) (vc : Value) (co : List Int) (hc : Rd w vc 1 co.length (AW.bytes co)) (hb : ∀ x ∈ co, 0 ≤ x ∧ x ≤ 255) (hcl : co.length ≤ 1000000000) : Ret Try.prog 75 [vc] w (fun u L => ∃ (a c : Int) (l : List Int) (x : Value), 0 ≤ a ∧ a ≤ 9 ∧ 0 ≤ c ∧ c ≤ 9 ∧ l.length ≤ 112 ∧ x.oneCell' = true ∧ u = .agg #[.int .i64 a, .int .i64 c, x] ∧ L = [.row 2 1 x l.length (ints l)]) := by
  have hv1 := hc.one
  refine Ret.enter Try.func75 rfl Try.ntmps75 rfl ?_
  refine Run.seq ?_
  refine Run.region ?_
  refine Ops.go rfl (Loud.alloc zero35 rfl) ?_
  rintro _ _ ⟨b2, rfl, rfl⟩
  refine Ops.nil ?_
  refine Run.seq ?_
  refine Run.region ?_
  refine Ops.pure rfl (Pure.move rfl) ?_
  refine Ops.go rfl (Loud.callR fn87 rfl (fun w hw => f_s_l00From w vc co hv1)) ?_
  rintro v4 _ ⟨L4, hQ4, rfl⟩
  obtain ⟨s4, rfl, rfl⟩ := hQ4
  refine Ops.go rfl (Loud.callO fn147 rfl (fun w hw => f_s_l10Small _ w _ vc co _ _ _ (Sat.front 0 rfl hw) hc hb hcl (by omega))) ?_
  rintro v5 L5 hQ5
  obtain ⟨a5, c5, l5, x5, q5, sd5, ha5, hA5, hc5, hC5, hn5, h5, hq5, rfl, rfl⟩ := hQ5
  refine Ops.store (Stores.box 2 rfl rfl rfl size35 (one3 h5) rfl rfl) ?_
  refine Ops.nil ?_
  refine Run.retCx 2 rfl rfl rfl cell35 rfl (Ext.take 0 rfl (Ext.nil _)) ?_
  exact ⟨a5, c5, l5, x5, by omega, by omega, by omega, by omega, by omega, h5, rfl, rfl⟩

theorem _root_.Go.AW.Run.retCCt {P : Program} {fn : Func} {w0 : World} {Q : Value → List Ent → Prop} {N : Nat} {k : List It} {s : Fr} {L L' : List Ent} {c T b t m c' T' b' t' m' u : Nat} {cs cs' : List Value} {v : Value} (i j : Nat) (hr : fn.results = #[.cell c T, .cell c' T', .tmp u]) (hv : lk s c = some (.pointer (some ⟨b, 0, none⟩))) (hv' : lk s c' = some (.pointer (some ⟨b', 0, none⟩))) (hu : lk s u = some v) (hL : L[i]? = some (.box b t cs)) (hT : cellT P T = some (some m)) (hm : cs.length = m) (hL' : L[j]? = some (.box b' t' cs')) (hT' : cellT P T' = some (some m')) (hm' : cs'.length = m') (he : Ext L' L) (h : Q (.tuple #[.agg cs.toArray, .agg cs'.toArray, v]) L') :
    Run P N w0 (rp P fn w0 Q) (.code .ret :: k) s L :=
  Run.ret fun a w ha hw => bodyPost_ret (v := .tuple #[.agg cs.toArray, .agg cs'.toArray, v]) (by simp [results, hr, ha.slotG c _ hv, ha.slotG c' _ hv', ha.slotG u _ hu, asAddr, run_loadVar_box hw i hL hT hm, run_loadVar_box hw j hL' hT' hm']) ha.defers ⟨_, L', rfl, hw.ext he, h⟩

end Go.Proofs.Ytmfinopdokkjcaa
