/- Contracts of functions, printed by program from annotations. -/
import Derived.Test.YtmfinopdokkjcaaValid
namespace Go.Proofs.Ytmfinopdokkjcaa
open Go Go.AW Go.RowKit
set_option linter.unusedVariables false
set_option linter.unusedSimpArgs false

/-- each two that follow, the last and the first too, lie on both sides of zero -/
def altRow (l : List Int) : Prop := ∀ k, k < l.length → ¬ (decide (0 < l.getD k 0) = decide (0 < l.getD ((k + 1) % l.length) 0))
noncomputable def altC (ls : List (List Int)) : Bool := @decide (validB ls = true ∧ ∀ j, j < ls.length → altRow (ls.getD j [])) (Classical.propDecidable _)
theorem altC_true {ls : List (List Int)} {k : Nat} (h : validB ls = true) (hk : ¬ k < ls.length) (h2 : ∀ j, j < k → altRow (ls.getD j [])) : altC ls = true :=
  @decide_eq_true _ (Classical.propDecidable _) ⟨h, fun j hj => h2 j (by omega)⟩
theorem altC_false {ls : List (List Int)} (h : validB ls = false) : altC ls = false := @decide_eq_false _ (Classical.propDecidable _) (fun hh => by rw [h] at hh; cases hh.1)
theorem altC_no {ls : List (List Int)} {k j : Nat} (hk : k < ls.length) (hj : j < (ls.getD k []).length) (h : decide (0 < (ls.getD k []).getD j 0) = decide (0 < (ls.getD k []).getD ((j + 1) % (ls.getD k []).length) 0)) : altC ls = false :=
  @decide_eq_false _ (Classical.propDecidable _) (fun hh => hh.2 k hk j hj h)
theorem mod_lt' {j n : Nat} (h : 0 < n) : (j + 1) % n < n := Nat.mod_lt _ h
/-- the row that has x, or -1 -/
def fRow (ls : List (List Int)) (x : Int) : Int := if ls.findIdx (fun l => decide (x ∈ l)) < ls.length then (ls.findIdx (fun l => decide (x ∈ l)) : Int) else -1
theorem fRow_at {ls : List (List Int)} {k : Nat} {x : Int} (h : k < ls.length) (e : x ∈ ls.getD k []) (hb : ∀ j, j < k → x ∉ ls.getD j []) : fRow ls x = k := by
  have e1 : ls.findIdx (fun l => decide (x ∈ l)) = k := by
    rw [List.findIdx_eq h]
    refine ⟨by simpa [List.getD, List.getElem?_eq_getElem h] using e, fun j hj => ?_⟩
    have := hb j hj
    simpa [List.getD, List.getElem?_eq_getElem (show j < ls.length by omega)] using this
  unfold fRow
  rw [e1, if_pos h]
theorem fRow_none {ls : List (List Int)} {k : Nat} {x : Int} (h : ¬ k < ls.length) (hb : ∀ j, j < k → x ∉ ls.getD j []) : fRow ls x = -1 := by
  unfold fRow
  rw [if_neg]
  intro hh
  have h1 := List.findIdx_getElem (w := hh)
  refine hb _ (Nat.lt_of_lt_of_le hh (by omega)) ?_
  have h2 := of_decide_eq_true h1
  simpa [List.getD, List.getElem?_eq_getElem hh] using h2
theorem Rd.box {w : World} {b t : Nat} {x : Value} (h : w.heap[b]? = some (.cells [x].toArray t (0, 0))) : Rd w (.slice (some ⟨b, 0, none⟩) 1 1) 1 1 [x] := by
  refine ⟨rfl, _, _, rfl, Nat.le_refl _, fun _ => ⟨_, rfl, fun j u hu => ?_⟩⟩
  rw [add_lit, cell_of_row w b (0 + j) _ t (0, 0) h]
  simpa using hu
theorem RdL.box {w0 : World} {L : List Ent} {b t : Nat} {x : Value} (i : Nat) (h : L[i]? = some (.box b t [x])) : RdL w0 L (.slice (some ⟨b, 0, none⟩) 1 1) 1 1 [x] := fun _ hw => Rd.box (hw.box h)

set_option maxRecDepth 4000 in
/-- spec.ValidCode -/
theorem f_s_ValidCode (w : World) (v : Value) (ls : List (List Int)) (hs : RdSS w v ls) (hb : ls.length + tot ls ≤ 1073741824) : RetV Try.prog 14 [v] w (.bool (validB ls)) := by
  refine Ret.enter Try.func14 rfl Try.ntmps14 rfl ?_
  refine Run.seq ?_
  refine Run.region ?_
  refine Ops.pure rfl (Pure.assign rfl) ?_
  refine Ops.nil ?_
  refine Run.seq ?_
  refine Run.region ?_
  refine Ops.pure rfl (Pure.move rfl) ?_
  refine Ops.q rfl (QOp.call fn89 rfl (fun w hw => f_s_l14Ok w _ _ (by exact RdSS.old (by assumption) hw) (by assumption))) ?_
  refine Ops.pure rfl (Pure.assign rfl) ?_
  refine Ops.nil ?_
  refine Run.ret1 rfl rfl ?_
  rfl

set_option maxRecDepth 4000 in
/-- spec.SameCode -/
theorem f_s_SameCode (w : World) (v : Value) (u : Value) (ls : List (List Int)) (ms : List (List Int)) (hs : RdSS w v ls) (ht : RdSS w u ms) (hb : ls.length + tot ls ≤ 1073741824) (hc : ms.length + tot ms ≤ 1073741824) : RetV Try.prog 15 [v, u] w (.bool (decide (ls = ms))) := by
  have hs0 := hs
  obtain ⟨vs, hvl, hv, hr⟩ := hs
  have ht0 := ht
  obtain ⟨us, hul, hu, hq⟩ := ht
  refine Ret.enter Try.func15 rfl Try.ntmps15 rfl ?_
  refine Run.seq ?_
  refine Run.region ?_
  refine Ops.pure rfl (Pure.assign rfl) ?_
  refine Ops.nil ?_
  refine Run.seq ?_
  refine Run.seq ?_
  refine Run.region ?_
  refine Ops.pure rfl (Pure.move rfl) ?_
  refine Ops.pure rfl (Pure.len sl24 (RdL.old hv) rfl) ?_
  refine Ops.pure rfl (Pure.move rfl) ?_
  refine Ops.pure rfl (Pure.len sl24 (RdL.old hu) rfl) ?_
  refine Ops.pure rfl (Pure.neq rfl rfl) ?_
  refine Ops.nil ?_
  refine Run.cond rfl (fun c10 => ?_) (fun c10 => ?_)
  · skip
    replace c10 := nT c10
    refine Run.seq ?_
    refine Run.region ?_
    refine Ops.pure rfl (Pure.assign rfl) ?_
    refine Ops.nil ?_
    refine Run.ret1 rfl rfl ?_
    rw [decide_eq_false (by rintro rfl; exact c10 rfl)]
  · skip
    replace c10 := nF c10
    have hlen : ls.length = ms.length := by omega
    refine Run.skip ?_
    refine Run.seq ?_
    refine Run.seq ?_
    refine Run.region ?_
    refine Ops.pure rfl (Pure.assign rfl) ?_
    refine Ops.nil ?_
    refine Run.block ?_
    refine Run.loop (X := Nat) (fun k => [(0, v), (1, u), (5, .int .i64 k)]) (fun k => []) (fun k => k ≤ ls.length ∧ ∀ j, j < k → ls.getD j [] = ms.getD j []) (fun k => ls.length - k) 0 ?_ ?_ ?_ ?_
    · exact ⟨by omega, by omega⟩
    · exact ⟨rfl, rfl, rfl, trivial⟩
    · exact Ext.refl _
    · intro k hinv0
      have hlk := len_le_tot (ls := ls) (k := k)
      have hlm := len_le_tot (ls := ms) (k := k)
      refine Run.seq ?_
      refine Run.seq ?_
      refine Run.region ?_
      refine Ops.pure rfl (Pure.move rfl) ?_
      refine Ops.pure rfl (Pure.move rfl) ?_
      refine Ops.pure rfl (Pure.len sl24 (RdL.old hv) rfl) ?_
      refine Ops.pure rfl (Pure.lss rfl rfl) ?_
      refine Ops.nil ?_
      refine Run.cond rfl (fun c14 => ?_) (fun c14 => ?_)
      · skip
        replace c14 := dT c14
        refine Run.skip ?_
        refine Run.seq ?_
        refine Run.block ?_
        refine Run.seq ?_
        refine Any.start follows ?_
        refine Any.take 0 rfl (by kernel_rfl) rfl (QOp.pure (Pure.move rfl)) ?_
        refine Any.take 1 rfl (by kernel_rfl) rfl (QOp.pure (Pure.move rfl)) ?_
        refine Any.take 2 rfl (by kernel_rfl) rfl (QOp.pure (Pure.idx1N sl24 (RdL.old hv) rfl rfl (by first | assumption | omega | (simp; omega)))) ?_
        refine Any.take 3 rfl (by kernel_rfl) rfl (QOp.pure (Pure.ld cell32 rfl (RdL.old hv) (by first | exact ints_get (by omega) | exact bools_get (by omega) | exact strs_get (by omega) | exact vals_get (by first | omega | (simp; omega))))) ?_
        refine Any.take 4 rfl (by kernel_rfl) rfl (QOp.pure (Pure.move rfl)) ?_
        refine Any.take 5 rfl (by kernel_rfl) rfl (QOp.pure (Pure.move rfl)) ?_
        refine Any.take 6 rfl (by kernel_rfl) rfl (QOp.pure (Pure.idx1N sl24 (RdL.old hu) rfl rfl (by first | assumption | omega | (simp; omega)))) ?_
        refine Any.take 7 rfl (by kernel_rfl) rfl (QOp.pure (Pure.ld cell32 rfl (RdL.old hu) (by first | exact ints_get (by omega) | exact bools_get (by omega) | exact strs_get (by omega) | exact vals_get (by first | omega | (simp; omega))))) ?_
        refine Any.take 8 rfl (by kernel_rfl) rfl (QOp.call fn90 rfl (fun w hw => f_s_l00Same w _ _ _ _ (RdL.old (hr k (by omega)) w hw) (RdL.old (hq k (by omega)) w hw) (by omega) (by omega))) ?_
        refine Any.take 9 rfl (by kernel_rfl) rfl (QOp.pure (Pure.not rfl)) ?_
        refine Any.done (by kernel_rfl) ?_
        refine Run.cond rfl (fun c26 => ?_) (fun c26 => ?_)
        · skip
          replace c26 := nT c26
          refine Run.seq ?_
          refine Run.region ?_
          refine Ops.pure rfl (Pure.assign rfl) ?_
          refine Ops.nil ?_
          refine Run.ret1 rfl rfl ?_
          rw [decide_eq_false (by rintro rfl; exact c26 rfl)]
        · skip
          replace c26 := nF c26
          refine Run.skip ?_
          refine Run.blk ?_
          refine Run.region ?_
          refine Ops.pure rfl (Pure.move rfl) ?_
          refine Ops.pure rfl (Pure.add rfl rfl (by omega) (by omega)) ?_
          refine Ops.pure rfl (Pure.assign rfl) ?_
          refine Ops.nil ?_
          refine Run.asrt ?_
          exact ⟨k + 1, ⟨⟨by omega, fun j hj => step_lt (p := fun j => ls.getD j [] = ms.getD j []) hj hinv0.2 c26⟩, by omega⟩, ⟨rfl, rfl, rfl, trivial⟩, Ext.nil _⟩
      · skip
        replace c14 := dF c14
        refine Run.exit rfl ?_
        refine Run.seq ?_
        refine Run.region ?_
        refine Ops.pure rfl (Pure.assign rfl) ?_
        refine Ops.nil ?_
        refine Run.ret1 rfl rfl ?_
        rw [decide_eq_true (ext_getD [] hlen (fun j hj => hinv0.2 j (by omega)))]

set_option maxRecDepth 4000 in
/-- impl.CountCoded -/
theorem f_i_CountCoded (w : World) (v : Value) (ls : List (List Int)) (hs : RdSS w v ls) (hb : ls.length + tot ls ≤ 1073741824) : RetV Try.prog 22 [v] w (.tuple #[.int .i64 (if validB ls then ((tot ls / 2 : Nat) : Int) else 0), .int .i64 (if validB ls then 0 else 1)]) := by
  refine Ret.enter Try.func22 rfl Try.ntmps22 rfl ?_
  refine Run.seq ?_
  refine Run.region ?_
  refine Ops.pure rfl (Pure.assign rfl) ?_
  refine Ops.pure rfl (Pure.assign rfl) ?_
  refine Ops.nil ?_
  refine Run.seq ?_
  refine Run.seq ?_
  refine Run.region ?_
  refine Ops.pure rfl (Pure.move rfl) ?_
  refine Ops.q rfl (QOp.call fn23 rfl (fun w hw => f_i_ValidCode w _ _ (by exact RdSS.old (by assumption) hw) (by assumption))) ?_
  refine Ops.pure rfl (Pure.not rfl) ?_
  refine Ops.nil ?_
  refine Run.cond rfl (fun c6 => ?_) (fun c6 => ?_)
  · skip
    replace c6 := bT c6
    refine Run.seq ?_
    refine Run.region ?_
    refine Ops.pure rfl (Pure.assign rfl) ?_
    refine Ops.pure rfl (Pure.assign rfl) ?_
    refine Ops.nil ?_
    refine Run.ret2 rfl rfl rfl ?_
    rw [c6]; rfl
  · skip
    replace c6 := bF c6
    refine Run.skip ?_
    refine Run.seq ?_
    refine Run.region ?_
    refine Ops.pure rfl (Pure.move rfl) ?_
    refine Ops.q rfl (QOp.call fn101 rfl (fun w hw => f_i_countCoded w _ _ (by exact RdSS.old (by assumption) hw) (by assumption))) ?_
    refine Ops.pure rfl (Pure.assign rfl) ?_
    refine Ops.pure rfl (Pure.assign rfl) ?_
    refine Ops.nil ?_
    refine Run.ret2 rfl rfl rfl ?_
    rw [c6]; rfl

set_option maxRecDepth 4000 in
/-- impl.AlternatingCode -/
theorem f_i_AlternatingCode (w : World) (v : Value) (ls : List (List Int)) (hs : RdSS w v ls) (hb : ls.length + tot ls ≤ 1073741824) : RetV Try.prog 24 [v] w (.bool (altC ls)) := by
  have hs0 := hs
  obtain ⟨vs, hvl, hv, hr⟩ := hs
  refine Ret.enter Try.func24 rfl Try.ntmps24 rfl ?_
  refine Run.seq ?_
  refine Run.region ?_
  refine Ops.pure rfl (Pure.assign rfl) ?_
  refine Ops.nil ?_
  refine Run.seq ?_
  refine Run.seq ?_
  refine Run.region ?_
  refine Ops.pure rfl (Pure.move rfl) ?_
  refine Ops.q rfl (QOp.call fn23 rfl (fun w hw => f_i_ValidCode w _ _ (by exact RdSS.old (by assumption) hw) (by assumption))) ?_
  refine Ops.pure rfl (Pure.not rfl) ?_
  refine Ops.nil ?_
  refine Run.cond rfl (fun c9 => ?_) (fun c9 => ?_)
  · skip
    replace c9 := bT c9
    refine Run.seq ?_
    refine Run.region ?_
    refine Ops.pure rfl (Pure.assign rfl) ?_
    refine Ops.nil ?_
    refine Run.ret1 rfl rfl ?_
    rw [altC_false c9]
  · skip
    replace c9 := bF c9
    refine Run.skip ?_
    refine Run.seq ?_
    refine Run.seq ?_
    refine Run.region ?_
    refine Ops.pure rfl (Pure.move rfl) ?_
    refine Ops.pure rfl (Pure.len sl24 (RdL.old hv) rfl) ?_
    refine Ops.pure rfl (Pure.move rfl) ?_
    refine Ops.nil ?_
    refine Run.block ?_
    refine Run.loop (X := Nat) (fun k => [(10, v), (11, .int .i64 ls.length), (12, .int .i64 k)]) (fun k => []) (fun k => k ≤ ls.length ∧ ∀ j, j < k → altRow (ls.getD j [])) (fun k => ls.length - k) 0 ?_ ?_ ?_ ?_
    · exact ⟨by omega, by omega⟩
    · exact ⟨rfl, rfl, rfl, trivial⟩
    · exact Ext.refl _
    · intro k hinv0
      have hlk := len_le_tot (ls := ls) (k := k)
      refine Run.seq ?_
      refine Run.region ?_
      refine Ops.pure rfl (Pure.lss rfl rfl) ?_
      refine Ops.nil ?_
      refine Run.seq ?_
      refine Run.cond rfl (fun c13 => ?_) (fun c13 => ?_)
      · skip
        replace c13 := dT c13
        refine Run.skip ?_
        refine Run.seq ?_
        refine Run.block ?_
        refine Run.seq ?_
        refine Run.region ?_
        refine Ops.pure rfl (Pure.idx1N sl24 (RdL.old hv) rfl rfl (by first | assumption | omega | (simp; omega))) ?_
        refine Ops.pure rfl (Pure.ld cell32 rfl (RdL.old hv) (by first | exact ints_get (by first | omega | assumption) | exact bools_get (by first | omega | assumption) | exact strs_get (by first | omega | assumption) | exact vals_get (by first | omega | (simp; omega)))) ?_
        refine Ops.pure rfl (Pure.assign rfl) ?_
        refine Ops.nil ?_
        refine Run.seq ?_
        refine Run.region ?_
        refine Ops.pure rfl (Pure.move rfl) ?_
        refine Ops.pure rfl (Pure.len sl32 (RdL.old (hr k (by omega))) rfl) ?_
        refine Ops.pure rfl (Pure.move rfl) ?_
        refine Ops.nil ?_
        refine Run.block ?_
        refine Run.loop (X := Nat) (fun j => [(10, v), (11, .int .i64 ls.length), (12, .int .i64 k), (4, vs.getD k undef), (16, vs.getD k undef), (17, .int .i64 (ls.getD k []).length), (18, .int .i64 j)]) (fun j => []) (fun j => j ≤ (ls.getD k []).length ∧ ∀ i : Nat, i < j → ¬ (decide (0 < (ls.getD k []).getD i 0) = decide (0 < (ls.getD k []).getD ((i + 1) % (ls.getD k []).length) 0))) (fun j => (ls.getD k []).length - j) 0 ?_ ?_ ?_ ?_
        · exact ⟨by omega, by omega⟩
        · exact ⟨rfl, rfl, rfl, rfl, rfl, rfl, rfl, trivial⟩
        · exact Ext.refl _
        · intro j hinv1
          refine Run.seq ?_
          refine Run.region ?_
          refine Ops.pure rfl (Pure.lss rfl rfl) ?_
          refine Ops.nil ?_
          refine Run.seq ?_
          refine Run.cond rfl (fun c19 => ?_) (fun c19 => ?_)
          · skip
            replace c19 := dT c19
            have hml := mod_lt' (j := j) (show 0 < (ls.getD k []).length by omega)
            refine Run.skip ?_
            refine Run.seq ?_
            refine Run.block ?_
            refine Run.seq ?_
            refine Run.region ?_
            refine Ops.pure rfl (Pure.move rfl) ?_
            refine Ops.pure rfl (Pure.idx1N sl32 (RdL.old (hr k (by omega))) rfl rfl (by first | assumption | omega | (simp; omega))) ?_
            refine Ops.pure rfl (Pure.ld cell2 rfl (RdL.old (hr k (by omega))) (by first | exact ints_get (by first | omega | assumption) | exact bools_get (by first | omega | assumption) | exact strs_get (by first | omega | assumption) | exact vals_get (by first | omega | (simp; omega)))) ?_
            refine Ops.pure rfl (Pure.assign rfl) ?_
            refine Ops.pure rfl (Pure.assign rfl) ?_
            refine Ops.nil ?_
            refine Run.seq ?_
            refine Run.region ?_
            refine Ops.pure rfl (Pure.move rfl) ?_
            refine Ops.pure rfl (Pure.gtr rfl rfl) ?_
            refine Ops.pure rfl (Pure.move rfl) ?_
            refine Ops.pure rfl (Pure.move rfl) ?_
            refine Ops.pure rfl (Pure.add rfl rfl (by omega) (by omega)) ?_
            refine Ops.pure rfl (Pure.move rfl) ?_
            refine Ops.pure rfl (Pure.len sl32 (RdL.old (hr k (by omega))) rfl) ?_
            refine Ops.pure rfl (Pure.remN rfl rfl (by omega)) ?_
            refine Ops.pure rfl (Pure.idx1N sl32 (RdL.old (hr k (by omega))) rfl rfl (by first | assumption | omega | (simp; omega))) ?_
            refine Ops.pure rfl (Pure.ld cell2 rfl (RdL.old (hr k (by omega))) (by first | exact ints_get (by first | omega | assumption) | exact bools_get (by first | omega | assumption) | exact strs_get (by first | omega | assumption) | exact vals_get (by first | omega | (simp; omega)))) ?_
            refine Ops.pure rfl (Pure.gtr rfl rfl) ?_
            refine Ops.pure rfl (Pure.eqlB und4 rfl rfl) ?_
            refine Ops.nil ?_
            refine Run.cond rfl (fun c34 => ?_) (fun c34 => ?_)
            · skip
              replace c34 := dT c34
              refine Run.seq ?_
              refine Run.region ?_
              refine Ops.pure rfl (Pure.assign rfl) ?_
              refine Ops.nil ?_
              refine Run.ret1 rfl rfl ?_
              rw [altC_no (k := k) (j := j) (by omega) (by omega) c34]
            · skip
              replace c34 := dF c34
              refine Run.skip ?_
              refine Run.blk ?_
              refine Run.region ?_
              refine Ops.pure rfl (Pure.add rfl rfl (by omega) (by omega)) ?_
              refine Ops.pure rfl (Pure.move rfl) ?_
              refine Ops.nil ?_
              refine Run.asrt ?_
              exact ⟨j + 1, ⟨⟨by omega, fun i hi => step_lt (p := fun (i : Nat) => ¬ (decide (0 < (ls.getD k []).getD i 0) = decide (0 < (ls.getD k []).getD ((i + 1) % (ls.getD k []).length) 0))) hi hinv1.2 c34⟩, by omega⟩, ⟨rfl, rfl, rfl, rfl, rfl, rfl, rfl, trivial⟩, Ext.nil _⟩
          · skip
            replace c19 := dF c19
            refine Run.exit rfl ?_
            refine Run.blk ?_
            refine Run.region ?_
            refine Ops.pure rfl (Pure.add rfl rfl (by omega) (by omega)) ?_
            refine Ops.pure rfl (Pure.move rfl) ?_
            refine Ops.nil ?_
            refine Run.asrt ?_
            exact ⟨k + 1, ⟨⟨by omega, fun i hi => step_lt (p := fun j => altRow (ls.getD j [])) hi hinv0.2 (fun i hi => hinv1.2 i (by omega))⟩, by omega⟩, ⟨rfl, rfl, rfl, trivial⟩, Ext.nil _⟩
      · skip
        replace c13 := dF c13
        refine Run.exit rfl ?_
        refine Run.seq ?_
        refine Run.region ?_
        refine Ops.pure rfl (Pure.assign rfl) ?_
        refine Ops.nil ?_
        refine Run.ret1 rfl rfl ?_
        rw [altC_true (k := k) c9 (by omega) hinv0.2]

set_option maxRecDepth 4000 in
/-- impl.curveWith 1 -/
theorem f_i_curveWith_1 (w : World) (v : Value) (l : List Int) (b : Nat) (x : Int) (hv : Rd w v 1 l.length (ints l)) (hl : l.length ≤ 1073741824) (hx : Rd w (.slice (some ⟨b, 0, none⟩) 1 1) 1 1 [.int .i64 x]) : RetV Try.prog 181 [v, .pointer (some ⟨b, 0, none⟩)] w (.bool (decide (x ∈ l))) := by
  refine Ret.enter Try.func181 rfl Try.ntmps181 rfl ?_
  refine Run.seq ?_
  refine Run.region ?_
  refine Ops.pure rfl (Pure.assign rfl) ?_
  refine Ops.nil ?_
  refine Run.seq ?_
  refine Run.region ?_
  refine Ops.pure rfl (Pure.move rfl) ?_
  refine Ops.pure rfl (Pure.ld (j := 0) cell2 rfl (RdL.old hx) rfl) ?_
  refine Ops.q rfl (QOp.call fn182 rfl (fun w hw => f_slices_Contains_int64_int64 w _ _ _ (by exact RdL.old (by assumption) w hw) (by assumption))) ?_
  refine Ops.pure rfl (Pure.assign rfl) ?_
  refine Ops.nil ?_
  refine Run.ret1 rfl rfl ?_
  rfl

set_option maxRecDepth 4000 in
/-- slices.IndexFunc[[][]int64,[]int64] -/
theorem f_slices_IndexFunc_int64_int64 (w : World) (v : Value) (ls : List (List Int)) (b : Nat) (x : Int) (hs : RdSS w v ls) (hb : ls.length + tot ls ≤ 1073741824) (hx : Rd w (.slice (some ⟨b, 0, none⟩) 1 1) 1 1 [.int .i64 x]) : RetV Try.prog 180 [v, .func (.func 181) #[] #[.pointer (some ⟨b, 0, none⟩)]] w (.int .i64 (fRow ls x)) := by
  have hs0 := hs
  obtain ⟨vs, hvl, hv, hr⟩ := hs
  refine Ret.enter Try.func180 rfl Try.ntmps180 rfl ?_
  refine Run.seq ?_
  refine Run.region ?_
  refine Ops.pure rfl (Pure.assign rfl) ?_
  refine Ops.nil ?_
  refine Run.seq ?_
  refine Run.seq ?_
  refine Run.region ?_
  refine Ops.pure rfl (Pure.move rfl) ?_
  refine Ops.pure rfl (Pure.len sl24 (RdL.old hv) rfl) ?_
  refine Ops.pure rfl (Pure.move rfl) ?_
  refine Ops.nil ?_
  refine Run.block ?_
  refine Run.loop (X := Nat) (fun k => [(0, v), (1, .func (.func 181) #[] #[.pointer (some ⟨b, 0, none⟩)]), (7, .int .i64 ls.length), (8, .int .i64 k)]) (fun k => []) (fun k => k ≤ ls.length ∧ ∀ j, j < k → x ∉ ls.getD j []) (fun k => ls.length - k) 0 ?_ ?_ ?_ ?_
  · exact ⟨by omega, by omega⟩
  · exact ⟨rfl, rfl, rfl, rfl, trivial⟩
  · exact Ext.refl _
  · intro k hinv0
    have hlk := len_le_tot (ls := ls) (k := k)
    refine Run.seq ?_
    refine Run.region ?_
    refine Ops.pure rfl (Pure.lss rfl rfl) ?_
    refine Ops.nil ?_
    refine Run.seq ?_
    refine Run.cond rfl (fun c9 => ?_) (fun c9 => ?_)
    · skip
      replace c9 := dT c9
      refine Run.skip ?_
      refine Run.seq ?_
      refine Run.block ?_
      refine Run.seq ?_
      refine Run.region ?_
      refine Ops.pure rfl (Pure.move rfl) ?_
      refine Ops.pure rfl (Pure.assign rfl) ?_
      refine Ops.nil ?_
      refine Run.seq ?_
      refine Run.region ?_
      refine Ops.pure rfl (Pure.move rfl) ?_
      refine Ops.pure rfl (Pure.move rfl) ?_
      refine Ops.pure rfl (Pure.move rfl) ?_
      refine Ops.pure rfl (Pure.idx1N sl24 (RdL.old hv) rfl rfl (by first | assumption | omega | (simp; omega))) ?_
      refine Ops.pure rfl (Pure.ld cell32 rfl (RdL.old hv) (by first | exact ints_get (by omega) | exact bools_get (by omega) | exact strs_get (by omega) | exact vals_get (by first | omega | (simp; omega)))) ?_
      refine Ops.q rfl (QOp.callF fn181 rfl rfl rfl (fun w hw => f_i_curveWith_1 w _ _ _ _ (RdL.old (hr k (by omega)) w hw) (by omega) (RdL.old hx w hw))) ?_
      refine Ops.nil ?_
      refine Run.cond rfl (fun c16 => ?_) (fun c16 => ?_)
      · skip
        replace c16 := dT c16
        refine Run.seq ?_
        refine Run.region ?_
        refine Ops.pure rfl (Pure.move rfl) ?_
        refine Ops.pure rfl (Pure.assign rfl) ?_
        refine Ops.nil ?_
        refine Run.ret1 rfl rfl ?_
        rw [fRow_at (by omega) c16 hinv0.2]
      · skip
        replace c16 := dF c16
        refine Run.skip ?_
        refine Run.blk ?_
        refine Run.region ?_
        refine Ops.pure rfl (Pure.add rfl rfl (by omega) (by omega)) ?_
        refine Ops.pure rfl (Pure.move rfl) ?_
        refine Ops.nil ?_
        refine Run.asrt ?_
        exact ⟨k + 1, ⟨⟨by omega, fun j hj => step_lt (p := fun j => x ∉ ls.getD j []) hj hinv0.2 c16⟩, by omega⟩, ⟨rfl, rfl, rfl, rfl, trivial⟩, Ext.nil _⟩
    · skip
      replace c9 := dF c9
      refine Run.exit rfl ?_
      refine Run.seq ?_
      refine Run.region ?_
      refine Ops.pure rfl (Pure.assign rfl) ?_
      refine Ops.nil ?_
      refine Run.ret1 rfl rfl ?_
      rw [fRow_none (k := k) (by omega) hinv0.2]

set_option maxRecDepth 4000 in
/-- impl.curveWith -/
theorem f_i_curveWith (w : World) (v : Value) (ls : List (List Int)) (x : Int) (hs : RdSS w v ls) (hb : ls.length + tot ls ≤ 1073741824) : RetV Try.prog 106 [v, .int .i64 x] w (.int .i64 (fRow ls x)) := by
  refine Ret.enter Try.func106 rfl Try.ntmps106 rfl ?_
  refine Run.seq ?_
  refine Run.region ?_
  refine Ops.go rfl (Loud.box rfl rfl) ?_
  rintro _ _ ⟨b3, rfl, rfl⟩
  refine Ops.pure rfl (Pure.assign rfl) ?_
  refine Ops.nil ?_
  refine Run.seq ?_
  refine Run.region ?_
  refine Ops.pure rfl (Pure.move rfl) ?_
  refine Ops.pure rfl (Pure.makeFunc1 rfl) ?_
  refine Ops.q rfl (QOp.call fn180 rfl (fun w hw => f_slices_IndexFunc_int64_int64 w _ _ _ _ (RdSS.old hs hw) (by omega) (RdL.box 0 rfl w hw))) ?_
  refine Ops.pure rfl (Pure.assign rfl) ?_
  refine Ops.nil ?_
  refine Run.ret1 rfl rfl ?_
  rfl

/-- the curves at a crossing, and the error -/
def atC (ls : List (List Int)) (x : Int) : Int × Int × Int :=
  if validB ls then (if 0 ≤ x ∧ x ≤ ((tot ls / 2 : Nat) : Int) - 1 then (fRow ls (x + 1), fRow ls (-x - 1), 0) else (0, 0, 2)) else (0, 0, 1)

set_option maxRecDepth 4000 in
/-- impl.CurvesAt -/
theorem f_i_CurvesAt (w : World) (v : Value) (ls : List (List Int)) (x : Int) (hs : RdSS w v ls) (hb : ls.length + tot ls ≤ 1073741824) : RetV Try.prog 27 [v, .int .i64 x] w (.tuple #[.int .i64 (atC ls x).1, .int .i64 (atC ls x).2.1, .int .i64 (atC ls x).2.2]) := by
  refine Ret.enter Try.func27 rfl Try.ntmps27 rfl ?_
  refine Run.seq ?_
  refine Run.region ?_
  refine Ops.pure rfl (Pure.assign rfl) ?_
  refine Ops.pure rfl (Pure.assign rfl) ?_
  refine Ops.pure rfl (Pure.assign rfl) ?_
  refine Ops.nil ?_
  refine Run.seq ?_
  refine Run.seq ?_
  refine Run.region ?_
  refine Ops.pure rfl (Pure.move rfl) ?_
  refine Ops.q rfl (QOp.call fn23 rfl (fun w hw => f_i_ValidCode w _ _ (by exact RdSS.old (by assumption) hw) (by assumption))) ?_
  refine Ops.pure rfl (Pure.not rfl) ?_
  refine Ops.nil ?_
  refine Run.cond rfl (fun c9 => ?_) (fun c9 => ?_)
  · skip
    replace c9 := bT c9
    refine Run.seq ?_
    refine Run.region ?_
    refine Ops.pure rfl (Pure.assign rfl) ?_
    refine Ops.pure rfl (Pure.assign rfl) ?_
    refine Ops.pure rfl (Pure.assign rfl) ?_
    refine Ops.nil ?_
    refine Run.ret3 rfl rfl rfl rfl ?_
    unfold atC
    rw [c9]; rfl
  · skip
    replace c9 := bF c9
    refine Run.skip ?_
    refine Run.seq ?_
    refine Run.seq ?_
    refine Run.region ?_
    refine Ops.pure rfl (Pure.move rfl) ?_
    refine Ops.pure rfl (Pure.move rfl) ?_
    refine Ops.q rfl (QOp.call fn101 rfl (fun w hw => f_i_countCoded w _ _ (by exact RdSS.old (by assumption) hw) (by assumption))) ?_
    refine Ops.pure rfl (Pure.sub rfl rfl (by omega) (by omega)) ?_
    refine Ops.q rfl (QOp.call fn93 rfl (fun w hw => f_i_inRange w _ _ _)) ?_
    refine Ops.pure rfl (Pure.not rfl) ?_
    refine Ops.nil ?_
    refine Run.cond rfl (fun c15 => ?_) (fun c15 => ?_)
    · skip
      replace c15 := nT c15
      refine Run.seq ?_
      refine Run.region ?_
      refine Ops.pure rfl (Pure.assign rfl) ?_
      refine Ops.pure rfl (Pure.assign rfl) ?_
      refine Ops.pure rfl (Pure.assign rfl) ?_
      refine Ops.nil ?_
      refine Run.ret3 rfl rfl rfl rfl ?_
      unfold atC
      rw [c9, if_pos rfl, if_neg c15]
    · skip
      replace c15 := nF c15
      refine Run.skip ?_
      refine Run.seq ?_
      refine Run.region ?_
      refine Ops.pure rfl (Pure.move rfl) ?_
      refine Ops.pure rfl (Pure.move rfl) ?_
      refine Ops.pure rfl (Pure.add rfl rfl (by omega) (by omega)) ?_
      refine Ops.q rfl (QOp.call fn106 rfl (fun w hw => f_i_curveWith w _ _ _ (by exact RdSS.old (by assumption) hw) (by assumption))) ?_
      refine Ops.pure rfl (Pure.move rfl) ?_
      refine Ops.pure rfl (Pure.move rfl) ?_
      refine Ops.pure rfl (Pure.neg rfl (by omega) (by omega)) ?_
      refine Ops.pure rfl (Pure.sub rfl rfl (by omega) (by omega)) ?_
      refine Ops.q rfl (QOp.call fn106 rfl (fun w hw => f_i_curveWith w _ _ _ (by exact RdSS.old (by assumption) hw) (by assumption))) ?_
      refine Ops.pure rfl (Pure.assign rfl) ?_
      refine Ops.pure rfl (Pure.assign rfl) ?_
      refine Ops.pure rfl (Pure.assign rfl) ?_
      refine Ops.nil ?_
      refine Run.ret3 rfl rfl rfl rfl ?_
      unfold atC
      rw [c9, if_pos rfl, if_pos c15]

end Go.Proofs.Ytmfinopdokkjcaa
