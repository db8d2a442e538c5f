/- Contracts of functions, printed by program from annotations. -/
import Derived.Test.YtmfinopdokkjcaaSize
import Derived.Test.YtmfinopdokkjcaaAwt
namespace Go.Proofs.Ytmfinopdokkjcaa
open Go Go.AW Go.RowKit
set_option linter.unusedVariables false
set_option linter.unusedSimpArgs false

def OkP (a b : Int) (l : List Int) : Prop := SizeOk a b ∧ l.length = inn a b ∧ ∀ x ∈ l, 0 ≤ x ∧ x ≤ 2
instance (a b : Int) (l : List Int) : Decidable (OkP a b l) := by unfold OkP; infer_instance
/-- a panel is valid -/
def okP (a b : Int) (l : List Int) : Bool := decide (OkP a b l)
theorem okP_true {a b : Int} {l : List Int} {k : Nat} (hs : SizeOk a b) (hl : l.length = inn a b) (hk : ¬ k < l.length) (hx : ∀ j, j < k → 0 ≤ l.getD j 0 ∧ l.getD j 0 ≤ 2) : okP a b l = true := by
  refine decide_eq_true ⟨hs, hl, fun x hm => ?_⟩
  obtain ⟨j, hj, rfl⟩ := List.mem_iff_getElem.1 hm
  have := hx j (by omega)
  simpa [List.getD, List.getElem?_eq_getElem hj] using this
theorem okP_false {a b : Int} {l : List Int} (h : ¬ (SizeOk a b ∧ l.length = inn a b)) : okP a b l = false := decide_eq_false fun hh => h ⟨hh.1, hh.2.1⟩
theorem okP_no {a b : Int} {l : List Int} {k : Nat} (hk : k < l.length) (hx : ¬ (0 ≤ l.getD k 0 ∧ l.getD k 0 ≤ 2)) : okP a b l = false := decide_eq_false fun hh => hx (hh.2.2 _ (mem_of_getD hk rfl))
theorem okP_spec {a b : Int} {l : List Int} (h : okP a b l = true) : SizeOk a b ∧ l.length = inn a b ∧ ∀ x ∈ l, 0 ≤ x ∧ x ≤ 2 := of_decide_eq_true h
attribute [irreducible] okP
theorem okP_at {a b : Int} {l : List Int} (h : okP a b l = true) {k : Nat} (hk : k < l.length) : 0 ≤ l.getD k 0 ∧ l.getD k 0 ≤ 2 := (okP_spec h).2.2 _ (mem_of_getD hk rfl)
/-- the places of the crossings, up to place k -/
def zeros (l : List Int) (k : Nat) : List Int := ((List.range k).filter fun j => l.getD j 0 == 0).map fun (j : Nat) => (j : Int)
theorem zeros_zero (l : List Int) : zeros l 0 = [] := rfl
theorem zeros_yes {l : List Int} {k : Nat} (h : l.getD k 0 = 0) : zeros l (k + 1) = zeros l k ++ [(k : Int)] := by
  unfold zeros
  have e : [k].filter (fun j => l.getD j 0 == 0) = [k] := by rw [List.filter_cons_of_pos (by rw [h]; rfl)]; rfl
  rw [List.range_succ, List.filter_append, List.map_append, e]
  rfl
theorem zeros_no {l : List Int} {k : Nat} (h : ¬ l.getD k 0 = 0) : zeros l (k + 1) = zeros l k := by
  unfold zeros
  have e : [k].filter (fun j => l.getD j 0 == 0) = [] := by rw [List.filter_cons_of_neg (by simp only [beq_iff_eq]; exact h)]; rfl
  rw [List.range_succ, List.filter_append, List.map_append, e]
  exact List.append_nil _
theorem one3 {a b : Int} {v : Value} (h : v.oneCell' = true) : ∀ z ∈ [Value.int .i64 a, .int .i64 b, v], z.oneCell' = true := by
  intro z hz
  simp only [List.mem_cons, List.not_mem_nil, or_false] at hz
  rcases hz with rfl | rfl | rfl
  · rfl
  · rfl
  · exact h
theorem length_zeros (l : List Int) (k : Nat) : (zeros l k).length ≤ k := by
  unfold zeros
  rw [List.length_map]
  exact Nat.le_trans (List.length_filter_le _ _) (by simp)
def crC (a b : Int) (l : List Int) : List Int := if okP a b l then zeros l l.length else []
def okE (a b : Int) (l : List Int) : Int := if okP a b l then 0 else 1
theorem crC_ok {a b : Int} {l : List Int} (h : okP a b l = true) : crC a b l = zeros l l.length ∧ okE a b l = 0 := by unfold crC okE; rw [h]; exact ⟨rfl, rfl⟩
theorem crC_bad {a b : Int} {l : List Int} (h : okP a b l = false) : crC a b l = [] ∧ okE a b l = 1 := by unfold crC okE; rw [h]; exact ⟨rfl, rfl⟩
theorem crC_size {a b : Int} {l : List Int} : (crC a b l).length ≤ l.length := by
  unfold crC
  cases okP a b l with
  | true => exact length_zeros l l.length
  | false => exact Nat.zero_le _
/-- What a call gives that returns a slice of integers of its own and an error. -/
def retI (ms : List Int) (e : Int) : Value → List Ent → Prop := fun u L => ∃ x, u = .tuple #[x, .int .i64 e] ∧ L = [.row 2 1 x ms.length (ints ms)]
theorem retI_nil {ms : List Int} {e : Int} (h : ms = []) : retI ms e (.tuple #[.slice none 0 0, .int .i64 e]) [.row 2 1 (.slice none 0 0) 0 []] := by subst h; exact ⟨_, rfl, rfl⟩

set_option maxRecDepth 4000 in
/-- impl.validBreak -/
theorem f_i_validBreak (w : World) (x : Int) : RetV Try.prog 139 [.int .i64 x] w (.bool (decide (0 ≤ x ∧ x ≤ 2))) := by
  refine Ret.enter Try.func139 rfl Try.ntmps139 rfl ?_
  refine Run.seq ?_
  refine Run.region ?_
  refine Ops.pure rfl (Pure.assign rfl) ?_
  refine Ops.nil ?_
  refine Run.seq ?_
  refine Run.region ?_
  refine Ops.pure rfl (Pure.move rfl) ?_
  refine Ops.q rfl (QOp.call fn93 rfl (fun w hw => f_i_inRange w _ _ _)) ?_
  refine Ops.pure rfl (Pure.assign rfl) ?_
  refine Ops.nil ?_
  refine Run.ret1 rfl rfl ?_
  rfl

set_option maxRecDepth 4000 in
/-- spec.l02Kind -/
theorem f_s_l02Kind (w : World) (x : Int) : RetV Try.prog 100 [.int .i64 x] w (.bool (decide (0 ≤ x ∧ x ≤ 2))) := by
  refine Ret.enter Try.func100 rfl Try.ntmps100 rfl ?_
  refine Run.seq ?_
  refine Run.region ?_
  refine Ops.pure rfl (Pure.assign rfl) ?_
  refine Ops.nil ?_
  refine Run.seq ?_
  refine Run.region ?_
  refine Ops.pure rfl (Pure.move rfl) ?_
  refine Ops.q rfl (QOp.call fn119 rfl (fun w hw => f_s_l00In w _ _ _)) ?_
  refine Ops.pure rfl (Pure.assign rfl) ?_
  refine Ops.nil ?_
  refine Run.ret1 rfl rfl ?_
  rfl

set_option maxRecDepth 4000 in
/-- impl.ValidPanel -/
theorem f_i_ValidPanel (w : World) (a : Int) (b : Int) (v : Value) (l : List Int) (hv : Rd w v 1 l.length (ints l)) (hl : l.length ≤ 1073741824) (a0 : -9223372036854775808 ≤ a) (a1 : a ≤ 9223372036854775807) (b0 : -9223372036854775808 ≤ b) (b1 : b ≤ 9223372036854775807) : RetV Try.prog 96 [.agg #[.int .i64 a, .int .i64 b, v]] w (.bool (okP a b l)) := by
  refine Ret.enter Try.func96 rfl Try.ntmps96 rfl ?_
  refine Run.seq ?_
  refine Run.region ?_
  refine Ops.go rfl (Loud.box rfl rfl) ?_
  rintro _ _ ⟨b1, rfl, rfl⟩
  refine Ops.pure rfl (Pure.assign rfl) ?_
  refine Ops.nil ?_
  refine Run.seq ?_
  refine Run.seq ?_
  refine Any.start follows ?_
  refine Any.take 0 rfl (by kernel_rfl) rfl (QOp.pure (Pure.fieldAddrB fld35_0 rfl)) ?_
  refine Any.take 1 rfl (by kernel_rfl) rfl (QOp.pure (Pure.ldB 0 rfl cell2 rfl rfl)) ?_
  refine Any.take 2 rfl (by kernel_rfl) rfl (QOp.pure (Pure.fieldAddrB fld35_1 rfl)) ?_
  refine Any.take 3 rfl (by kernel_rfl) rfl (QOp.pure (Pure.ldB 0 rfl cell2 rfl rfl)) ?_
  refine Any.take 4 rfl (by kernel_rfl) rfl (QOp.call fn171 rfl (fun w hw => f_i_validSize w _ _)) ?_
  refine Any.take 5 rfl (by kernel_rfl) rfl (QOp.pure (Pure.not rfl)) ?_
  refine Any.take 6 rfl (by kernel_rfl) rfl (QOp.pure (Pure.move rfl)) ?_
  refine Any.splitG 11 rfl (fun c11 => ?_) (fun c11 => ?_)
  · skip
    have c11' := nT c11
    refine Any.takeN 7 rfl (by kernel_rfl) rfl rfl rfl rfl (by rw [c11]; decide) ?_
    refine Any.takeN 8 rfl (by kernel_rfl) rfl rfl rfl rfl (by rw [c11]; decide) ?_
    refine Any.takeN 9 rfl (by kernel_rfl) rfl rfl rfl rfl (by rw [c11]; decide) ?_
    refine Any.takeN 10 rfl (by kernel_rfl) rfl rfl rfl rfl (by rw [c11]; decide) ?_
    refine Any.takeN 11 rfl (by kernel_rfl) rfl rfl rfl rfl (by rw [c11]; decide) ?_
    refine Any.takeN 12 rfl (by kernel_rfl) rfl rfl rfl rfl (by rw [c11]; decide) ?_
    refine Any.takeN 13 rfl (by kernel_rfl) rfl rfl rfl rfl (by rw [c11]; decide) ?_
    refine Any.takeN 14 rfl (by kernel_rfl) rfl rfl rfl rfl (by rw [c11]; decide) ?_
    refine Any.takeN 15 rfl (by kernel_rfl) rfl rfl rfl rfl (by rw [c11]; decide) ?_
    refine Any.take 16 rfl (by kernel_rfl) rfl (QOp.pure (Pure.pickT rfl c11 rfl)) ?_
    refine Any.done (by kernel_rfl) ?_
    refine Run.condE rfl rfl ?_
    refine Run.seq ?_
    refine Run.region ?_
    refine Ops.pure rfl (Pure.assign rfl) ?_
    refine Ops.nil ?_
    refine Run.ret1 rfl rfl ?_
    rw [okP_false (by first | omega | (unfold SizeOk; omega) | (simp_all; done) | (intro hh; simp_all; omega))]
  · skip
    have c11' := nF c11
    skip
    refine Any.takeY 7 rfl (by kernel_rfl) rfl rfl rfl rfl c11 (QOp.pure (Pure.fieldAddrB fld35_2 rfl)) ?_
    refine Any.takeY 8 rfl (by kernel_rfl) rfl rfl rfl rfl c11 (QOp.pure (Pure.ldB 0 rfl cell32 rfl rfl)) ?_
    refine Any.takeY 9 rfl (by kernel_rfl) rfl rfl rfl rfl c11 (QOp.pure (Pure.len sl32 (RdL.old hv) rfl)) ?_
    refine Any.takeY 10 rfl (by kernel_rfl) rfl rfl rfl rfl c11 (QOp.pure (Pure.fieldAddrB fld35_0 rfl)) ?_
    refine Any.takeY 11 rfl (by kernel_rfl) rfl rfl rfl rfl c11 (QOp.pure (Pure.ldB 0 rfl cell2 rfl rfl)) ?_
    refine Any.takeY 12 rfl (by kernel_rfl) rfl rfl rfl rfl c11 (QOp.pure (Pure.fieldAddrB fld35_1 rfl)) ?_
    refine Any.takeY 13 rfl (by kernel_rfl) rfl rfl rfl rfl c11 (QOp.pure (Pure.ldB 0 rfl cell2 rfl rfl)) ?_
    refine Any.takeY 14 rfl (by kernel_rfl) rfl rfl rfl rfl c11 (QOp.call fn126 rfl (fun w hw => f_i_innerPoints w _ _ (by assumption))) ?_
    refine Any.takeY 15 rfl (by kernel_rfl) rfl rfl rfl rfl c11 (QOp.pure (Pure.neq rfl rfl)) ?_
    refine Any.take 16 rfl (by kernel_rfl) rfl (QOp.pure (Pure.pickF rfl c11 rfl)) ?_
    refine Any.done (by kernel_rfl) ?_
    refine Run.cond rfl (fun c21 => ?_) (fun c21 => ?_)
    · skip
      replace c21 := nT c21
      refine Run.seq ?_
      refine Run.region ?_
      refine Ops.pure rfl (Pure.assign rfl) ?_
      refine Ops.nil ?_
      refine Run.ret1 rfl rfl ?_
      rw [okP_false (by first | omega | (unfold SizeOk; omega) | (simp_all; done) | (intro hh; simp_all; omega))]
    · skip
      replace c21 := nF c21
      refine Run.skip ?_
      refine Run.seq ?_
      refine Run.seq ?_
      refine Run.region ?_
      refine Ops.pure rfl (Pure.fieldAddrB fld35_2 rfl) ?_
      refine Ops.pure rfl (Pure.ldB 0 rfl cell32 rfl rfl) ?_
      refine Ops.pure rfl (Pure.len sl32 (RdL.old hv) rfl) ?_
      refine Ops.pure rfl (Pure.move rfl) ?_
      refine Ops.nil ?_
      refine Run.block ?_
      refine Run.loop (X := Nat) (fun k => [(23, v), (24, .int .i64 l.length), (25, .int .i64 k)]) (fun k => []) (fun k => k ≤ l.length ∧ ∀ j, j < k → 0 ≤ l.getD j 0 ∧ l.getD j 0 ≤ 2) (fun k => l.length - k) 0 ?_ ?_ ?_ ?_
      · exact ⟨by omega, by omega⟩
      · exact ⟨rfl, rfl, rfl, trivial⟩
      · exact Ext.nil _
      · intro k hinv0
        refine Run.seq ?_
        refine Run.region ?_
        refine Ops.pure rfl (Pure.lss rfl rfl) ?_
        refine Ops.nil ?_
        refine Run.seq ?_
        refine Run.cond rfl (fun c26 => ?_) (fun c26 => ?_)
        · skip
          replace c26 := dT c26
          refine Run.skip ?_
          refine Run.seq ?_
          refine Run.block ?_
          refine Run.seq ?_
          refine Run.region ?_
          refine Ops.pure rfl (Pure.idx1N sl32 (RdL.old hv) rfl rfl (by first | assumption | omega | (simp; omega))) ?_
          refine Ops.pure rfl (Pure.ld cell2 rfl (RdL.old hv) (by first | exact ints_get (by omega) | exact bools_get (by omega) | exact strs_get (by omega) | exact vals_get (by first | omega | (simp; omega)))) ?_
          refine Ops.pure rfl (Pure.assign rfl) ?_
          refine Ops.nil ?_
          refine Run.seq ?_
          refine Run.region ?_
          refine Ops.pure rfl (Pure.move rfl) ?_
          refine Ops.q rfl (QOp.call fn139 rfl (fun w hw => f_i_validBreak w _)) ?_
          refine Ops.pure rfl (Pure.not rfl) ?_
          refine Ops.nil ?_
          refine Run.cond rfl (fun c31 => ?_) (fun c31 => ?_)
          · skip
            replace c31 := nT c31
            refine Run.seq ?_
            refine Run.region ?_
            refine Ops.pure rfl (Pure.assign rfl) ?_
            refine Ops.nil ?_
            refine Run.ret1 rfl rfl ?_
            rw [okP_no (by omega) c31]
          · skip
            replace c31 := nF c31
            refine Run.skip ?_
            refine Run.blk ?_
            refine Run.region ?_
            refine Ops.pure rfl (Pure.add rfl rfl (by omega) (by omega)) ?_
            refine Ops.pure rfl (Pure.move rfl) ?_
            refine Ops.nil ?_
            refine Run.asrt ?_
            exact ⟨k + 1, ⟨⟨by omega, fun j hj => step_lt (p := fun j => 0 ≤ l.getD j 0 ∧ l.getD j 0 ≤ 2) hj hinv0.2 c31⟩, by omega⟩, ⟨rfl, rfl, rfl, trivial⟩, Ext.nil _⟩
        · skip
          replace c26 := dF c26
          refine Run.exit rfl ?_
          refine Run.seq ?_
          refine Run.region ?_
          refine Ops.pure rfl (Pure.assign rfl) ?_
          refine Ops.nil ?_
          refine Run.ret1 rfl rfl ?_
          rw [okP_true (k := k) (by first | assumption | (unfold SizeOk; omega)) (by omega) (by omega) hinv0.2]

set_option maxRecDepth 4000 in
/-- spec.l02Ok -/
theorem f_s_l02Ok (w : World) (p : Nat) (a : Int) (b : Int) (v : Value) (l : List Int) (hp : Rd w (boxS p) 3 1 [.int .i64 a, .int .i64 b, v]) (hv : Rd w v 1 l.length (ints l)) (hl : l.length ≤ 1073741824) (a0 : -9223372036854775808 ≤ a) (a1 : a ≤ 9223372036854775807) (b0 : -9223372036854775808 ≤ b) (b1 : b ≤ 9223372036854775807) : RetV Try.prog 99 [.pointer (some ⟨p, 0, none⟩)] w (.bool (okP a b l)) := by
  refine Ret.enter Try.func99 rfl Try.ntmps99 rfl ?_
  refine Run.seq ?_
  refine Run.region ?_
  refine Ops.pure rfl (Pure.assign rfl) ?_
  refine Ops.nil ?_
  refine Run.seq ?_
  refine Run.seq ?_
  refine Any.start follows ?_
  refine Any.take 0 rfl (by kernel_rfl) rfl (QOp.pure (Pure.move rfl)) ?_
  refine Any.take 1 rfl (by kernel_rfl) rfl (QOp.pure (Pure.nilchk rfl)) ?_
  refine Any.take 2 rfl (by kernel_rfl) rfl (QOp.pure (Pure.fieldAddrB fld35_0 rfl)) ?_
  refine Any.take 3 rfl (by kernel_rfl) rfl (QOp.pure (Pure.ldP cell2 rfl (RdL.old hp) rfl)) ?_
  refine Any.take 4 rfl (by kernel_rfl) rfl (QOp.call fn179 rfl (fun w hw => f_s_l02Side w _)) ?_
  refine Any.take 5 rfl (by kernel_rfl) rfl (QOp.pure (Pure.not rfl)) ?_
  refine Any.take 6 rfl (by kernel_rfl) rfl (QOp.pure (Pure.move rfl)) ?_
  refine Any.splitG 10 rfl (fun c10 => ?_) (fun c10 => ?_)
  · skip
    have c10' := nT c10
    refine Any.takeN 7 rfl (by kernel_rfl) rfl rfl rfl rfl (by rw [c10]; decide) ?_
    refine Any.takeN 8 rfl (by kernel_rfl) rfl rfl rfl rfl (by rw [c10]; decide) ?_
    refine Any.takeN 9 rfl (by kernel_rfl) rfl rfl rfl rfl (by rw [c10]; decide) ?_
    refine Any.takeN 10 rfl (by kernel_rfl) rfl rfl rfl rfl (by rw [c10]; decide) ?_
    refine Any.takeN 11 rfl (by kernel_rfl) rfl rfl rfl rfl (by rw [c10]; decide) ?_
    refine Any.takeN 12 rfl (by kernel_rfl) rfl rfl rfl rfl (by rw [c10]; decide) ?_
    refine Any.take 13 rfl (by kernel_rfl) rfl (QOp.pure (Pure.pickT rfl c10 rfl)) ?_
    refine Any.take 14 rfl (by kernel_rfl) rfl (QOp.pure (Pure.move rfl)) ?_
    refine Any.takeN 15 rfl (by kernel_rfl) rfl rfl rfl rfl (by decide) ?_
    refine Any.takeN 16 rfl (by kernel_rfl) rfl rfl rfl rfl (by decide) ?_
    refine Any.takeN 17 rfl (by kernel_rfl) rfl rfl rfl rfl (by decide) ?_
    refine Any.takeN 18 rfl (by kernel_rfl) rfl rfl rfl rfl (by decide) ?_
    refine Any.takeN 19 rfl (by kernel_rfl) rfl rfl rfl rfl (by decide) ?_
    refine Any.takeN 20 rfl (by kernel_rfl) rfl rfl rfl rfl (by decide) ?_
    refine Any.takeN 21 rfl (by kernel_rfl) rfl rfl rfl rfl (by decide) ?_
    refine Any.takeN 22 rfl (by kernel_rfl) rfl rfl rfl rfl (by decide) ?_
    refine Any.takeN 23 rfl (by kernel_rfl) rfl rfl rfl rfl (by decide) ?_
    refine Any.takeN 24 rfl (by kernel_rfl) rfl rfl rfl rfl (by decide) ?_
    refine Any.takeN 25 rfl (by kernel_rfl) rfl rfl rfl rfl (by decide) ?_
    refine Any.takeN 26 rfl (by kernel_rfl) rfl rfl rfl rfl (by decide) ?_
    refine Any.takeN 27 rfl (by kernel_rfl) rfl rfl rfl rfl (by decide) ?_
    refine Any.takeN 28 rfl (by kernel_rfl) rfl rfl rfl rfl (by decide) ?_
    refine Any.takeN 29 rfl (by kernel_rfl) rfl rfl rfl rfl (by decide) ?_
    refine Any.take 30 rfl (by kernel_rfl) rfl (QOp.pure (Pure.pickT rfl rfl rfl)) ?_
    refine Any.done (by kernel_rfl) ?_
    refine Run.condE rfl rfl ?_
    refine Run.seq ?_
    refine Run.region ?_
    refine Ops.pure rfl (Pure.assign rfl) ?_
    refine Ops.nil ?_
    refine Run.ret1 rfl rfl ?_
    rw [okP_false (by first | omega | (unfold SizeOk; omega) | (simp_all; done) | (intro hh; simp_all; omega))]
  · skip
    have c10' := nF c10
    refine Any.takeY 7 rfl (by kernel_rfl) rfl rfl rfl rfl c10 (QOp.pure (Pure.move rfl)) ?_
    refine Any.takeY 8 rfl (by kernel_rfl) rfl rfl rfl rfl c10 (QOp.pure (Pure.nilchk rfl)) ?_
    refine Any.takeY 9 rfl (by kernel_rfl) rfl rfl rfl rfl c10 (QOp.pure (Pure.fieldAddrB fld35_1 rfl)) ?_
    refine Any.takeY 10 rfl (by kernel_rfl) rfl rfl rfl rfl c10 (QOp.pure (Pure.ldP cell2 rfl (RdL.old hp) rfl)) ?_
    refine Any.takeY 11 rfl (by kernel_rfl) rfl rfl rfl rfl c10 (QOp.call fn179 rfl (fun w hw => f_s_l02Side w _)) ?_
    refine Any.takeY 12 rfl (by kernel_rfl) rfl rfl rfl rfl c10 (QOp.pure (Pure.not rfl)) ?_
    refine Any.take 13 rfl (by kernel_rfl) rfl (QOp.pure (Pure.pickF rfl c10 rfl)) ?_
    refine Any.take 14 rfl (by kernel_rfl) rfl (QOp.pure (Pure.move rfl)) ?_
    refine Any.splitG 18 rfl (fun c18 => ?_) (fun c18 => ?_)
    · skip
      have c18' := nT c18
      refine Any.takeN 15 rfl (by kernel_rfl) rfl rfl rfl rfl (by rw [c18]; decide) ?_
      refine Any.takeN 16 rfl (by kernel_rfl) rfl rfl rfl rfl (by rw [c18]; decide) ?_
      refine Any.takeN 17 rfl (by kernel_rfl) rfl rfl rfl rfl (by rw [c18]; decide) ?_
      refine Any.takeN 18 rfl (by kernel_rfl) rfl rfl rfl rfl (by rw [c18]; decide) ?_
      refine Any.takeN 19 rfl (by kernel_rfl) rfl rfl rfl rfl (by rw [c18]; decide) ?_
      refine Any.takeN 20 rfl (by kernel_rfl) rfl rfl rfl rfl (by rw [c18]; decide) ?_
      refine Any.takeN 21 rfl (by kernel_rfl) rfl rfl rfl rfl (by rw [c18]; decide) ?_
      refine Any.takeN 22 rfl (by kernel_rfl) rfl rfl rfl rfl (by rw [c18]; decide) ?_
      refine Any.takeN 23 rfl (by kernel_rfl) rfl rfl rfl rfl (by rw [c18]; decide) ?_
      refine Any.takeN 24 rfl (by kernel_rfl) rfl rfl rfl rfl (by rw [c18]; decide) ?_
      refine Any.takeN 25 rfl (by kernel_rfl) rfl rfl rfl rfl (by rw [c18]; decide) ?_
      refine Any.takeN 26 rfl (by kernel_rfl) rfl rfl rfl rfl (by rw [c18]; decide) ?_
      refine Any.takeN 27 rfl (by kernel_rfl) rfl rfl rfl rfl (by rw [c18]; decide) ?_
      refine Any.takeN 28 rfl (by kernel_rfl) rfl rfl rfl rfl (by rw [c18]; decide) ?_
      refine Any.takeN 29 rfl (by kernel_rfl) rfl rfl rfl rfl (by rw [c18]; decide) ?_
      refine Any.take 30 rfl (by kernel_rfl) rfl (QOp.pure (Pure.pickT rfl c18 rfl)) ?_
      refine Any.done (by kernel_rfl) ?_
      refine Run.condE rfl rfl ?_
      refine Run.seq ?_
      refine Run.region ?_
      refine Ops.pure rfl (Pure.assign rfl) ?_
      refine Ops.nil ?_
      refine Run.ret1 rfl rfl ?_
      rw [okP_false (by first | omega | (unfold SizeOk; omega) | (simp_all; done) | (intro hh; simp_all; omega))]
    · skip
      have c18' := nF c18
      refine Any.takeY 15 rfl (by kernel_rfl) rfl rfl rfl rfl c18 (QOp.pure (Pure.move rfl)) ?_
      refine Any.takeY 16 rfl (by kernel_rfl) rfl rfl rfl rfl c18 (QOp.pure (Pure.nilchk rfl)) ?_
      refine Any.takeY 17 rfl (by kernel_rfl) rfl rfl rfl rfl c18 (QOp.pure (Pure.fieldAddrB fld35_2 rfl)) ?_
      refine Any.takeY 18 rfl (by kernel_rfl) rfl rfl rfl rfl c18 (QOp.pure (Pure.ldP cell32 rfl (RdL.old hp) rfl)) ?_
      refine Any.takeY 19 rfl (by kernel_rfl) rfl rfl rfl rfl c18 (QOp.pure (Pure.len sl32 (RdL.old hv) rfl)) ?_
      refine Any.takeY 20 rfl (by kernel_rfl) rfl rfl rfl rfl c18 (QOp.pure (Pure.move rfl)) ?_
      refine Any.takeY 21 rfl (by kernel_rfl) rfl rfl rfl rfl c18 (QOp.pure (Pure.nilchk rfl)) ?_
      refine Any.takeY 22 rfl (by kernel_rfl) rfl rfl rfl rfl c18 (QOp.pure (Pure.fieldAddrB fld35_0 rfl)) ?_
      refine Any.takeY 23 rfl (by kernel_rfl) rfl rfl rfl rfl c18 (QOp.pure (Pure.ldP cell2 rfl (RdL.old hp) rfl)) ?_
      refine Any.takeY 24 rfl (by kernel_rfl) rfl rfl rfl rfl c18 (QOp.pure (Pure.move rfl)) ?_
      refine Any.takeY 25 rfl (by kernel_rfl) rfl rfl rfl rfl c18 (QOp.pure (Pure.nilchk rfl)) ?_
      refine Any.takeY 26 rfl (by kernel_rfl) rfl rfl rfl rfl c18 (QOp.pure (Pure.fieldAddrB fld35_1 rfl)) ?_
      refine Any.takeY 27 rfl (by kernel_rfl) rfl rfl rfl rfl c18 (QOp.pure (Pure.ldP cell2 rfl (RdL.old hp) rfl)) ?_
      refine Any.takeY 28 rfl (by kernel_rfl) rfl rfl rfl rfl c18 (QOp.call fn128 rfl (fun w hw => f_s_l02Inner w _ _ (by unfold SizeOk; omega))) ?_
      refine Any.takeY 29 rfl (by kernel_rfl) rfl rfl rfl rfl c18 (QOp.pure (Pure.neq rfl rfl)) ?_
      refine Any.take 30 rfl (by kernel_rfl) rfl (QOp.pure (Pure.pickF rfl c18 rfl)) ?_
      refine Any.done (by kernel_rfl) ?_
      refine Run.cond rfl (fun c34 => ?_) (fun c34 => ?_)
      · skip
        replace c34 := nT c34
        refine Run.seq ?_
        refine Run.region ?_
        refine Ops.pure rfl (Pure.assign rfl) ?_
        refine Ops.nil ?_
        refine Run.ret1 rfl rfl ?_
        rw [okP_false (by first | omega | (unfold SizeOk; omega) | (simp_all; done) | (intro hh; simp_all; omega))]
      · skip
        replace c34 := nF c34
        refine Run.skip ?_
        refine Run.seq ?_
        refine Run.seq ?_
        refine Run.region ?_
        refine Ops.pure rfl (Pure.assign rfl) ?_
        refine Ops.nil ?_
        refine Run.block ?_
        refine Run.loop (X := Nat) (fun k => [(0, .pointer (some ⟨p, 0, none⟩)), (3, .int .i64 k)]) (fun k => []) (fun k => k ≤ l.length ∧ ∀ j, j < k → 0 ≤ l.getD j 0 ∧ l.getD j 0 ≤ 2) (fun k => l.length - k) 0 ?_ ?_ ?_ ?_
        · exact ⟨by omega, by omega⟩
        · exact ⟨rfl, rfl, trivial⟩
        · exact Ext.nil _
        · intro k hinv0
          refine Run.seq ?_
          refine Run.seq ?_
          refine Run.region ?_
          refine Ops.pure rfl (Pure.move rfl) ?_
          refine Ops.pure rfl (Pure.move rfl) ?_
          refine Ops.pure rfl (Pure.nilchk rfl) ?_
          refine Ops.pure rfl (Pure.fieldAddrB fld35_2 rfl) ?_
          refine Ops.pure rfl (Pure.ldP cell32 rfl (RdL.old hp) rfl) ?_
          refine Ops.pure rfl (Pure.len sl32 (RdL.old hv) rfl) ?_
          refine Ops.pure rfl (Pure.lss rfl rfl) ?_
          refine Ops.nil ?_
          refine Run.cond rfl (fun c41 => ?_) (fun c41 => ?_)
          · skip
            replace c41 := dT c41
            refine Run.skip ?_
            refine Run.seq ?_
            refine Run.block ?_
            refine Run.seq ?_
            refine Run.region ?_
            refine Ops.pure rfl (Pure.move rfl) ?_
            refine Ops.pure rfl (Pure.nilchk rfl) ?_
            refine Ops.pure rfl (Pure.fieldAddrB fld35_2 rfl) ?_
            refine Ops.pure rfl (Pure.ldP cell32 rfl (RdL.old hp) rfl) ?_
            refine Ops.pure rfl (Pure.move rfl) ?_
            refine Ops.pure rfl (Pure.idx1N sl32 (RdL.old hv) rfl rfl (by first | assumption | omega | (simp; omega))) ?_
            refine Ops.pure rfl (Pure.ld cell2 rfl (RdL.old hv) (by first | exact ints_get (by omega) | exact bools_get (by omega) | exact strs_get (by omega) | exact vals_get (by first | omega | (simp; omega)))) ?_
            refine Ops.q rfl (QOp.call fn119 rfl (fun w hw => f_s_l00In w _ _ _)) ?_
            refine Ops.pure rfl (Pure.not rfl) ?_
            refine Ops.nil ?_
            refine Run.cond rfl (fun c52 => ?_) (fun c52 => ?_)
            · skip
              replace c52 := nT c52
              refine Run.seq ?_
              refine Run.region ?_
              refine Ops.pure rfl (Pure.assign rfl) ?_
              refine Ops.nil ?_
              refine Run.ret1 rfl rfl ?_
              rw [okP_no (by omega) c52]
            · skip
              replace c52 := nF c52
              refine Run.skip ?_
              refine Run.blk ?_
              refine Run.region ?_
              refine Ops.pure rfl (Pure.move rfl) ?_
              refine Ops.pure rfl (Pure.add rfl rfl (by omega) (by omega)) ?_
              refine Ops.pure rfl (Pure.assign rfl) ?_
              refine Ops.nil ?_
              refine Run.asrt ?_
              exact ⟨k + 1, ⟨⟨by omega, fun j hj => step_lt (p := fun j => 0 ≤ l.getD j 0 ∧ l.getD j 0 ≤ 2) hj hinv0.2 c52⟩, by omega⟩, ⟨rfl, rfl, trivial⟩, Ext.nil _⟩
          · skip
            replace c41 := dF c41
            refine Run.exit rfl ?_
            refine Run.seq ?_
            refine Run.region ?_
            refine Ops.pure rfl (Pure.assign rfl) ?_
            refine Ops.nil ?_
            refine Run.ret1 rfl rfl ?_
            rw [okP_true (k := k) (by first | assumption | (unfold SizeOk; omega)) (by omega) (by omega) hinv0.2]

end Go.Proofs.Ytmfinopdokkjcaa
