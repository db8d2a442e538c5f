/- Contracts of functions, printed by program from annotations. -/
import Derived.Test.YtkplanpcmkbfiaaSize
import Derived.Test.YtkplanpcmkbfiaaAwt
namespace Go.Proofs.Ytkplanpcmkbfiaa
open Go Go.AW Go.RowKit
set_option linter.unusedVariables false
set_option linter.unusedSimpArgs false

def OkP (a b : Int) (l : List Int) : Prop := SizeOk a b ∧ l.length = inn a b ∧ ∀ x ∈ l, 0 ≤ x ∧ x ≤ 2
instance (a b : Int) (l : List Int) : Decidable (OkP a b l) := by unfold OkP; infer_instance
/-- a panel is valid -/
def okP (a b : Int) (l : List Int) : Bool := decide (OkP a b l)
theorem okP_true {a b : Int} {l : List Int} {k : Nat} (hs : SizeOk a b) (hl : l.length = inn a b) (hk : ¬ k < l.length) (hx : ∀ j, j < k → 0 ≤ l.getD j 0 ∧ l.getD j 0 ≤ 2) : okP a b l = true := by
  refine decide_eq_true ⟨hs, hl, fun x hm => ?_⟩
  obtain ⟨j, hj, rfl⟩ := List.mem_iff_getElem.1 hm
  have := hx j (by omega)
  simpa [List.getD, List.getElem?_eq_getElem hj] using this
theorem okP_false {a b : Int} {l : List Int} (h : ¬ (SizeOk a b ∧ l.length = inn a b)) : okP a b l = false := decide_eq_false fun hh => h ⟨hh.1, hh.2.1⟩
theorem okP_no {a b : Int} {l : List Int} {k : Nat} (hk : k < l.length) (hx : ¬ (0 ≤ l.getD k 0 ∧ l.getD k 0 ≤ 2)) : okP a b l = false := decide_eq_false fun hh => hx (hh.2.2 _ (mem_of_getD hk rfl))
theorem okP_spec {a b : Int} {l : List Int} (h : okP a b l = true) : SizeOk a b ∧ l.length = inn a b ∧ ∀ x ∈ l, 0 ≤ x ∧ x ≤ 2 := of_decide_eq_true h
attribute [irreducible] okP
theorem okP_at {a b : Int} {l : List Int} (h : okP a b l = true) {k : Nat} (hk : k < l.length) : 0 ≤ l.getD k 0 ∧ l.getD k 0 ≤ 2 := (okP_spec h).2.2 _ (mem_of_getD hk rfl)
/-- the places of the crossings, up to place k -/
def zeros (l : List Int) (k : Nat) : List Int := ((List.range k).filter fun j => l.getD j 0 == 0).map fun (j : Nat) => (j : Int)
theorem zeros_zero (l : List Int) : zeros l 0 = [] := rfl
theorem zeros_yes {l : List Int} {k : Nat} (h : l.getD k 0 = 0) : zeros l (k + 1) = zeros l k ++ [(k : Int)] := by
  unfold zeros
  have e : [k].filter (fun j => l.getD j 0 == 0) = [k] := by rw [List.filter_cons_of_pos (by rw [h]; rfl)]; rfl
  rw [List.range_succ, List.filter_append, List.map_append, e]
  rfl
theorem zeros_no {l : List Int} {k : Nat} (h : ¬ l.getD k 0 = 0) : zeros l (k + 1) = zeros l k := by
  unfold zeros
  have e : [k].filter (fun j => l.getD j 0 == 0) = [] := by rw [List.filter_cons_of_neg (by simp only [beq_iff_eq]; exact h)]; rfl
  rw [List.range_succ, List.filter_append, List.map_append, e]
  exact List.append_nil _
theorem one3 {a b : Int} {v : Value} (h : v.oneCell' = true) : ∀ z ∈ [Value.int .i64 a, .int .i64 b, v], z.oneCell' = true := by
  intro z hz
  simp only [List.mem_cons, List.not_mem_nil, or_false] at hz
  rcases hz with rfl | rfl | rfl
  · rfl
  · rfl
  · exact h
theorem length_zeros (l : List Int) (k : Nat) : (zeros l k).length ≤ k := by
  unfold zeros
  rw [List.length_map]
  exact Nat.le_trans (List.length_filter_le _ _) (by simp)
def crC (a b : Int) (l : List Int) : List Int := if okP a b l then zeros l l.length else []
def okE (a b : Int) (l : List Int) : Int := if okP a b l then 0 else 1
theorem crC_ok {a b : Int} {l : List Int} (h : okP a b l = true) : crC a b l = zeros l l.length ∧ okE a b l = 0 := by unfold crC okE; rw [h]; exact ⟨rfl, rfl⟩
theorem crC_bad {a b : Int} {l : List Int} (h : okP a b l = false) : crC a b l = [] ∧ okE a b l = 1 := by unfold crC okE; rw [h]; exact ⟨rfl, rfl⟩
theorem crC_size {a b : Int} {l : List Int} : (crC a b l).length ≤ l.length := by
  unfold crC
  cases okP a b l with
  | true => exact length_zeros l l.length
  | false => exact Nat.zero_le _
/-- What a call gives that returns a slice of integers of its own and an error. -/
def retI (ms : List Int) (e : Int) : Value → List Ent → Prop := fun u L => ∃ x, u = .tuple #[x, .int .i64 e] ∧ L = [.row 2 1 x ms.length (ints ms)]
theorem retI_nil {ms : List Int} {e : Int} (h : ms = []) : retI ms e (.tuple #[.slice none 0 0, .int .i64 e]) [.row 2 1 (.slice none 0 0) 0 []] := by subst h; exact ⟨_, rfl, rfl⟩

set_option maxRecDepth 4000 in
/-- laws.szPanel -/
theorem f_l_szPanel (w : World) (a : Int) (b : Int) (v : Value) (l : List Int) (left : Int) (hv : Rd w v 1 l.length (ints l)) (h0 : 0 ≤ left) (h1 : left ≤ 1048576) (h2 : l.length ≤ 9223372036854775807) : RetV Try.prog 13 [.agg #[.int .i64 a, .int .i64 b, v], .int .i64 left] w (.int .i64 (if (l.length : Int) ≤ left then left - l.length else -1)) := by
  refine Ret.enter Try.func13 rfl Try.ntmps13 rfl ?_
  refine Run.seq ?_
  refine Run.region ?_
  refine Ops.go rfl (Loud.box rfl rfl) ?_
  rintro _ _ ⟨b2, rfl, rfl⟩
  refine Ops.pure rfl (Pure.assign rfl) ?_
  refine Ops.nil ?_
  refine Run.seq ?_
  refine Run.region ?_
  refine Ops.pure rfl (Pure.fieldAddrB fld24_2 rfl) ?_
  refine Ops.pure rfl (Pure.ldB 0 rfl cell22 rfl rfl) ?_
  refine Ops.pure rfl (Pure.move rfl) ?_
  refine Ops.q rfl (QOp.call fn68 rfl (fun w hw => f_l_szInt64S w _ _ _ (by exact RdL.old (by assumption) w hw) (by assumption) (by assumption) (by assumption))) ?_
  refine Ops.pure rfl (Pure.assign rfl) ?_
  refine Ops.nil ?_
  refine Run.seq ?_
  refine Run.seq ?_
  by_cases hle : (l.length : Int) ≤ left
  · skip
    rw [if_pos hle]
    refine Run.region ?_
    refine Ops.pure rfl (Pure.move rfl) ?_
    refine Ops.pure rfl (Pure.lss rfl rfl) ?_
    refine Ops.nil ?_
    refine Run.condEF rfl (decide_eq_false (by omega)) ?_
    refine Run.skip ?_
    refine Run.seq ?_
    refine Run.region ?_
    refine Ops.pure rfl (Pure.move rfl) ?_
    refine Ops.pure rfl (Pure.assign rfl) ?_
    refine Ops.nil ?_
    refine Run.ret1 rfl rfl ?_
    rfl
  · skip
    rw [if_neg hle]
    refine Run.region ?_
    refine Ops.pure rfl (Pure.move rfl) ?_
    refine Ops.pure rfl (Pure.lss rfl rfl) ?_
    refine Ops.nil ?_
    refine Run.condE rfl (decide_eq_true (by omega)) ?_
    refine Run.seq ?_
    refine Run.region ?_
    refine Ops.pure rfl (Pure.assign rfl) ?_
    refine Ops.nil ?_
    refine Run.ret1 rfl rfl ?_
    rfl

set_option maxRecDepth 4000 in
/-- laws.toPanel -/
theorem f_l_toPanel (w : World) (a : Int) (b : Int) (v : Value) (l : List Int) (hv : Rd w v 1 l.length (ints l)) (hl : l.length ≤ 1073741824) : Ret Try.prog 15 [.agg #[.int .i64 a, .int .i64 b, v]] w (fun u L => ∃ x, x.oneCell' = true ∧ u = .agg #[.int .i64 a, .int .i64 b, x] ∧ L = [.row 2 1 x l.length (ints l)]) := by
  have hv1 := hv.one
  refine Ret.enter Try.func15 rfl Try.ntmps15 rfl ?_
  refine Run.seq ?_
  refine Run.region ?_
  refine Ops.go rfl (Loud.box rfl rfl) ?_
  rintro _ _ ⟨b1, rfl, rfl⟩
  refine Ops.go rfl (Loud.alloc zero28 rfl) ?_
  rintro _ _ ⟨b2, rfl, rfl⟩
  refine Ops.nil ?_
  refine Run.seq ?_
  refine Run.region ?_
  refine Ops.go rfl (Loud.alloc zero28 rfl) ?_
  rintro _ _ ⟨b3, rfl, rfl⟩
  refine Ops.nil ?_
  refine Run.seq ?_
  refine Run.region ?_
  refine Ops.pure rfl (Pure.fieldAddrB fld24_0 rfl) ?_
  refine Ops.pure rfl (Pure.ldB 2 rfl cell2 rfl rfl) ?_
  refine Ops.pure rfl (Pure.fieldAddrB fld28_0 rfl) ?_
  refine Ops.store (Stores.box 0 rfl rfl rfl size2 (allOne rfl) rfl rfl) ?_
  refine Ops.nil ?_
  refine Run.seq ?_
  refine Run.region ?_
  refine Ops.pure rfl (Pure.fieldAddrB fld24_1 rfl) ?_
  refine Ops.pure rfl (Pure.ldB 2 rfl cell2 rfl rfl) ?_
  refine Ops.pure rfl (Pure.fieldAddrB fld28_1 rfl) ?_
  refine Ops.store (Stores.box 0 rfl rfl rfl size2 (allOne rfl) rfl rfl) ?_
  refine Ops.nil ?_
  refine Run.seq ?_
  refine Run.region ?_
  refine Ops.pure rfl (Pure.fieldAddrB fld24_2 rfl) ?_
  refine Ops.pure rfl (Pure.ldB 2 rfl cell22 rfl rfl) ?_
  refine Ops.go rfl (Loud.callR fn71 rfl (fun w hw => f_l_toInt64S w _ _ (by exact RdL.old (by assumption) w hw) (by assumption))) ?_
  rintro v12 _ ⟨L12, hQ12, rfl⟩
  subst hQ12
  refine Ops.have_ (fun w hw => row_one 0 hw rfl) (fun h12 => ?_)
  refine Ops.pure rfl (Pure.fieldAddrB fld28_2 rfl) ?_
  refine Ops.store (Stores.box1 1 rfl rfl rfl size22 (by assumption) rfl) ?_
  refine Ops.nil ?_
  refine Run.seq ?_
  refine Run.region ?_
  refine Ops.pure rfl (Pure.ldBA 1 rfl cell28 rfl rfl rfl) ?_
  refine Ops.store (Stores.box 2 rfl rfl rfl size28 (one3 h12) rfl rfl) ?_
  refine Ops.nil ?_
  refine Run.retCx 2 rfl rfl rfl cell28 rfl (Ext.take 0 rfl (Ext.nil _)) ?_
  exact ⟨v12, h12, rfl, rfl⟩

set_option maxRecDepth 4000 in
/-- laws.eqPanel -/
theorem f_l_eqPanel (w : World) (a : Int) (b : Int) (v : Value) (l : List Int) (a' : Int) (b' : Int) (v' : Value) (l' : List Int) (hv : Rd w v 1 l.length (ints l)) (hv' : Rd w v' 1 l'.length (ints l')) (hl : l.length ≤ 1073741824) (hl' : l'.length ≤ 1073741824) : RetV Try.prog 18 [.agg #[.int .i64 a, .int .i64 b, v], .agg #[.int .i64 a', .int .i64 b', v']] w (.bool (decide (a = a' ∧ b = b' ∧ l = l'))) := by
  refine Ret.enter Try.func18 rfl Try.ntmps18 rfl ?_
  refine Run.seq ?_
  refine Run.region ?_
  refine Ops.go rfl (Loud.box rfl rfl) ?_
  rintro _ _ ⟨b2, rfl, rfl⟩
  refine Ops.go rfl (Loud.box rfl rfl) ?_
  rintro _ _ ⟨b3, rfl, rfl⟩
  refine Ops.pure rfl (Pure.assign rfl) ?_
  refine Ops.nil ?_
  refine Run.seq ?_
  refine Run.seq ?_
  refine Run.region ?_
  refine Ops.pure rfl (Pure.fieldAddrB fld28_0 rfl) ?_
  refine Ops.pure rfl (Pure.ldB 1 rfl cell2 rfl rfl) ?_
  refine Ops.pure rfl (Pure.fieldAddrB fld28_0 rfl) ?_
  refine Ops.pure rfl (Pure.ldB 0 rfl cell2 rfl rfl) ?_
  refine Ops.pure rfl (Pure.neq rfl rfl) ?_
  refine Ops.nil ?_
  refine Run.cond rfl (fun c9 => ?_) (fun c9 => ?_)
  · skip
    replace c9 := nT c9
    refine Run.seq ?_
    refine Run.region ?_
    refine Ops.pure rfl (Pure.assign rfl) ?_
    refine Ops.nil ?_
    refine Run.ret1 rfl rfl ?_
    first
      | rfl
      | (simp_all; done)
  · skip
    replace c9 := nF c9
    refine Run.skip ?_
    refine Run.seq ?_
    refine Run.seq ?_
    refine Run.region ?_
    refine Ops.pure rfl (Pure.fieldAddrB fld28_1 rfl) ?_
    refine Ops.pure rfl (Pure.ldB 1 rfl cell2 rfl rfl) ?_
    refine Ops.pure rfl (Pure.fieldAddrB fld28_1 rfl) ?_
    refine Ops.pure rfl (Pure.ldB 0 rfl cell2 rfl rfl) ?_
    refine Ops.pure rfl (Pure.neq rfl rfl) ?_
    refine Ops.nil ?_
    refine Run.cond rfl (fun c14 => ?_) (fun c14 => ?_)
    · skip
      replace c14 := nT c14
      refine Run.seq ?_
      refine Run.region ?_
      refine Ops.pure rfl (Pure.assign rfl) ?_
      refine Ops.nil ?_
      refine Run.ret1 rfl rfl ?_
      first
        | rfl
        | (simp_all; done)
    · skip
      replace c14 := nF c14
      refine Run.skip ?_
      refine Run.seq ?_
      refine Run.seq ?_
      refine Run.region ?_
      refine Ops.pure rfl (Pure.fieldAddrB fld28_2 rfl) ?_
      refine Ops.pure rfl (Pure.ldB 1 rfl cell22 rfl rfl) ?_
      refine Ops.pure rfl (Pure.fieldAddrB fld28_2 rfl) ?_
      refine Ops.pure rfl (Pure.ldB 0 rfl cell22 rfl rfl) ?_
      refine Ops.q rfl (QOp.call fn17 rfl (fun w hw => f_l_eqInt64S w _ _ _ _ (by exact RdL.old (by assumption) w hw) (by exact RdL.old (by assumption) w hw) (by assumption) (by assumption))) ?_
      refine Ops.pure rfl (Pure.not rfl) ?_
      refine Ops.nil ?_
      refine Run.cond rfl (fun c20 => ?_) (fun c20 => ?_)
      · skip
        replace c20 := nT c20
        refine Run.seq ?_
        refine Run.region ?_
        refine Ops.pure rfl (Pure.assign rfl) ?_
        refine Ops.nil ?_
        refine Run.ret1 rfl rfl ?_
        first
          | rfl
          | (simp_all; done)
      · skip
        replace c20 := nF c20
        refine Run.skip ?_
        refine Run.seq ?_
        refine Run.region ?_
        refine Ops.pure rfl (Pure.assign rfl) ?_
        refine Ops.nil ?_
        refine Run.ret1 rfl rfl ?_
        first
          | rfl
          | (simp_all; done)

set_option maxRecDepth 4000 in
/-- laws.markPanel -/
theorem f_l_markPanel (w0 : World) (w : World) (a : Int) (b : Int) (v : Value) (l : List Int) (k : Int) (F : List Ent) (hw : Sat w0 w (.row 2 1 v l.length (ints l) :: F)) (hl : l.length ≤ 1073741824) (hk0 : 0 ≤ k) (hk1 : k ≤ 4611686018427387904) : RetO Try.prog 19 [.agg #[.int .i64 a, .int .i64 b, v], .int .i64 k] w0 w (fun u L => u = .int .i64 (k + l.length) ∧ L = .row 2 1 v l.length (ints (marks k l.length)) :: F) := by
  refine RetO.enter Try.func19 rfl Try.ntmps19 rfl hw ?_
  refine Run.seq ?_
  refine Run.region ?_
  refine Ops.go rfl (Loud.box rfl rfl) ?_
  rintro _ _ ⟨b2, rfl, rfl⟩
  refine Ops.pure rfl (Pure.assign rfl) ?_
  refine Ops.nil ?_
  refine Run.seq ?_
  refine Run.region ?_
  refine Ops.pure rfl (Pure.fieldAddrB fld28_2 rfl) ?_
  refine Ops.pure rfl (Pure.ldB 0 rfl cell22 rfl rfl) ?_
  refine Ops.pure rfl (Pure.move rfl) ?_
  refine Ops.go rfl (Loud.callO fn20 rfl (fun w hw => f_l_markInt64S _ w _ _ _ _ (Sat.front 1 rfl hw) (by omega) (by omega) (by omega))) ?_
  rintro v8 L8 hQ8
  obtain ⟨rfl, rfl⟩ := hQ8
  refine Ops.pure rfl (Pure.assign rfl) ?_
  refine Ops.nil ?_
  refine Run.seq ?_
  refine Run.ext_ (L' := _ :: F) (Ext.take 0 rfl (Ext.right [_] _)) ?_
  refine Run.region ?_
  refine Ops.pure rfl (Pure.move rfl) ?_
  refine Ops.pure rfl (Pure.assign rfl) ?_
  refine Ops.nil ?_
  refine Run.ret1 rfl rfl ?_
  exact ⟨rfl, rfl⟩

set_option maxRecDepth 4000 in
/-- impl.validBreak -/
theorem f_i_validBreak (w : World) (x : Int) : RetV Try.prog 117 [.int .i64 x] w (.bool (decide (0 ≤ x ∧ x ≤ 2))) := by
  refine Ret.enter Try.func117 rfl Try.ntmps117 rfl ?_
  refine Run.seq ?_
  refine Run.region ?_
  refine Ops.pure rfl (Pure.assign rfl) ?_
  refine Ops.nil ?_
  refine Run.seq ?_
  refine Run.region ?_
  refine Ops.pure rfl (Pure.move rfl) ?_
  refine Ops.q rfl (QOp.call fn128 rfl (fun w hw => f_i_inRange w _ _ _)) ?_
  refine Ops.pure rfl (Pure.assign rfl) ?_
  refine Ops.nil ?_
  refine Run.ret1 rfl rfl ?_
  rfl

set_option maxRecDepth 4000 in
/-- spec.l02Kind -/
theorem f_s_l02Kind (w : World) (x : Int) : RetV Try.prog 148 [.int .i64 x] w (.bool (decide (0 ≤ x ∧ x ≤ 2))) := by
  refine Ret.enter Try.func148 rfl Try.ntmps148 rfl ?_
  refine Run.seq ?_
  refine Run.region ?_
  refine Ops.pure rfl (Pure.assign rfl) ?_
  refine Ops.nil ?_
  refine Run.seq ?_
  refine Run.region ?_
  refine Ops.pure rfl (Pure.move rfl) ?_
  refine Ops.q rfl (QOp.call fn121 rfl (fun w hw => f_s_l00In w _ _ _)) ?_
  refine Ops.pure rfl (Pure.assign rfl) ?_
  refine Ops.nil ?_
  refine Run.ret1 rfl rfl ?_
  rfl

set_option maxRecDepth 4000 in
/-- impl.ValidPanel -/
theorem f_i_ValidPanel (w : World) (a : Int) (b : Int) (v : Value) (l : List Int) (hv : Rd w v 1 l.length (ints l)) (hl : l.length ≤ 1073741824) (a0 : -9223372036854775808 ≤ a) (a1 : a ≤ 9223372036854775807) (b0 : -9223372036854775808 ≤ b) (b1 : b ≤ 9223372036854775807) : RetV Try.prog 100 [.agg #[.int .i64 a, .int .i64 b, v]] w (.bool (okP a b l)) := by
  refine Ret.enter Try.func100 rfl Try.ntmps100 rfl ?_
  refine Run.seq ?_
  refine Run.region ?_
  refine Ops.go rfl (Loud.box rfl rfl) ?_
  rintro _ _ ⟨b1, rfl, rfl⟩
  refine Ops.pure rfl (Pure.assign rfl) ?_
  refine Ops.nil ?_
  refine Run.seq ?_
  refine Run.seq ?_
  refine Any.start follows ?_
  refine Any.take 0 rfl (by kernel_rfl) rfl (QOp.pure (Pure.fieldAddrB fld28_0 rfl)) ?_
  refine Any.take 1 rfl (by kernel_rfl) rfl (QOp.pure (Pure.ldB 0 rfl cell2 rfl rfl)) ?_
  refine Any.take 2 rfl (by kernel_rfl) rfl (QOp.pure (Pure.fieldAddrB fld28_1 rfl)) ?_
  refine Any.take 3 rfl (by kernel_rfl) rfl (QOp.pure (Pure.ldB 0 rfl cell2 rfl rfl)) ?_
  refine Any.take 4 rfl (by kernel_rfl) rfl (QOp.call fn143 rfl (fun w hw => f_i_validSize w _ _)) ?_
  refine Any.take 5 rfl (by kernel_rfl) rfl (QOp.pure (Pure.not rfl)) ?_
  refine Any.take 6 rfl (by kernel_rfl) rfl (QOp.pure (Pure.move rfl)) ?_
  refine Any.splitG 11 rfl (fun c11 => ?_) (fun c11 => ?_)
  · skip
    have c11' := nT c11
    refine Any.takeN 7 rfl (by kernel_rfl) rfl rfl rfl rfl (by rw [c11]; decide) ?_
    refine Any.takeN 8 rfl (by kernel_rfl) rfl rfl rfl rfl (by rw [c11]; decide) ?_
    refine Any.takeN 9 rfl (by kernel_rfl) rfl rfl rfl rfl (by rw [c11]; decide) ?_
    refine Any.takeN 10 rfl (by kernel_rfl) rfl rfl rfl rfl (by rw [c11]; decide) ?_
    refine Any.takeN 11 rfl (by kernel_rfl) rfl rfl rfl rfl (by rw [c11]; decide) ?_
    refine Any.takeN 12 rfl (by kernel_rfl) rfl rfl rfl rfl (by rw [c11]; decide) ?_
    refine Any.takeN 13 rfl (by kernel_rfl) rfl rfl rfl rfl (by rw [c11]; decide) ?_
    refine Any.takeN 14 rfl (by kernel_rfl) rfl rfl rfl rfl (by rw [c11]; decide) ?_
    refine Any.takeN 15 rfl (by kernel_rfl) rfl rfl rfl rfl (by rw [c11]; decide) ?_
    refine Any.take 16 rfl (by kernel_rfl) rfl (QOp.pure (Pure.pickT rfl c11 rfl)) ?_
    refine Any.done (by kernel_rfl) ?_
    refine Run.condE rfl rfl ?_
    refine Run.seq ?_
    refine Run.region ?_
    refine Ops.pure rfl (Pure.assign rfl) ?_
    refine Ops.nil ?_
    refine Run.ret1 rfl rfl ?_
    rw [okP_false (by first | omega | (unfold SizeOk; omega) | (simp_all; done) | (intro hh; simp_all; omega))]
  · skip
    have c11' := nF c11
    skip
    refine Any.takeY 7 rfl (by kernel_rfl) rfl rfl rfl rfl c11 (QOp.pure (Pure.fieldAddrB fld28_2 rfl)) ?_
    refine Any.takeY 8 rfl (by kernel_rfl) rfl rfl rfl rfl c11 (QOp.pure (Pure.ldB 0 rfl cell22 rfl rfl)) ?_
    refine Any.takeY 9 rfl (by kernel_rfl) rfl rfl rfl rfl c11 (QOp.pure (Pure.len sl22 (RdL.old hv) rfl)) ?_
    refine Any.takeY 10 rfl (by kernel_rfl) rfl rfl rfl rfl c11 (QOp.pure (Pure.fieldAddrB fld28_0 rfl)) ?_
    refine Any.takeY 11 rfl (by kernel_rfl) rfl rfl rfl rfl c11 (QOp.pure (Pure.ldB 0 rfl cell2 rfl rfl)) ?_
    refine Any.takeY 12 rfl (by kernel_rfl) rfl rfl rfl rfl c11 (QOp.pure (Pure.fieldAddrB fld28_1 rfl)) ?_
    refine Any.takeY 13 rfl (by kernel_rfl) rfl rfl rfl rfl c11 (QOp.pure (Pure.ldB 0 rfl cell2 rfl rfl)) ?_
    refine Any.takeY 14 rfl (by kernel_rfl) rfl rfl rfl rfl c11 (QOp.call fn144 rfl (fun w hw => f_i_innerPoints w _ _ (by assumption))) ?_
    refine Any.takeY 15 rfl (by kernel_rfl) rfl rfl rfl rfl c11 (QOp.pure (Pure.neq rfl rfl)) ?_
    refine Any.take 16 rfl (by kernel_rfl) rfl (QOp.pure (Pure.pickF rfl c11 rfl)) ?_
    refine Any.done (by kernel_rfl) ?_
    refine Run.cond rfl (fun c21 => ?_) (fun c21 => ?_)
    · skip
      replace c21 := nT c21
      refine Run.seq ?_
      refine Run.region ?_
      refine Ops.pure rfl (Pure.assign rfl) ?_
      refine Ops.nil ?_
      refine Run.ret1 rfl rfl ?_
      rw [okP_false (by first | omega | (unfold SizeOk; omega) | (simp_all; done) | (intro hh; simp_all; omega))]
    · skip
      replace c21 := nF c21
      refine Run.skip ?_
      refine Run.seq ?_
      refine Run.seq ?_
      refine Run.region ?_
      refine Ops.pure rfl (Pure.fieldAddrB fld28_2 rfl) ?_
      refine Ops.pure rfl (Pure.ldB 0 rfl cell22 rfl rfl) ?_
      refine Ops.pure rfl (Pure.len sl22 (RdL.old hv) rfl) ?_
      refine Ops.pure rfl (Pure.move rfl) ?_
      refine Ops.nil ?_
      refine Run.block ?_
      refine Run.loop (X := Nat) (fun k => [(23, v), (24, .int .i64 l.length), (25, .int .i64 k)]) (fun k => []) (fun k => k ≤ l.length ∧ ∀ j, j < k → 0 ≤ l.getD j 0 ∧ l.getD j 0 ≤ 2) (fun k => l.length - k) 0 ?_ ?_ ?_ ?_
      · exact ⟨by omega, by omega⟩
      · exact ⟨rfl, rfl, rfl, trivial⟩
      · exact Ext.nil _
      · intro k hinv0
        refine Run.seq ?_
        refine Run.region ?_
        refine Ops.pure rfl (Pure.lss rfl rfl) ?_
        refine Ops.nil ?_
        refine Run.seq ?_
        refine Run.cond rfl (fun c26 => ?_) (fun c26 => ?_)
        · skip
          replace c26 := dT c26
          refine Run.skip ?_
          refine Run.seq ?_
          refine Run.block ?_
          refine Run.seq ?_
          refine Run.region ?_
          refine Ops.pure rfl (Pure.idx1N sl22 (RdL.old hv) rfl rfl (by first | assumption | omega | (simp; omega))) ?_
          refine Ops.pure rfl (Pure.ld cell2 rfl (RdL.old hv) (by first | exact ints_get (by omega) | exact bools_get (by omega) | exact strs_get (by omega) | exact vals_get (by first | omega | (simp; omega)))) ?_
          refine Ops.pure rfl (Pure.assign rfl) ?_
          refine Ops.nil ?_
          refine Run.seq ?_
          refine Run.region ?_
          refine Ops.pure rfl (Pure.move rfl) ?_
          refine Ops.q rfl (QOp.call fn117 rfl (fun w hw => f_i_validBreak w _)) ?_
          refine Ops.pure rfl (Pure.not rfl) ?_
          refine Ops.nil ?_
          refine Run.cond rfl (fun c31 => ?_) (fun c31 => ?_)
          · skip
            replace c31 := nT c31
            refine Run.seq ?_
            refine Run.region ?_
            refine Ops.pure rfl (Pure.assign rfl) ?_
            refine Ops.nil ?_
            refine Run.ret1 rfl rfl ?_
            rw [okP_no (by omega) c31]
          · skip
            replace c31 := nF c31
            refine Run.skip ?_
            refine Run.blk ?_
            refine Run.region ?_
            refine Ops.pure rfl (Pure.add rfl rfl (by omega) (by omega)) ?_
            refine Ops.pure rfl (Pure.move rfl) ?_
            refine Ops.nil ?_
            refine Run.asrt ?_
            exact ⟨k + 1, ⟨⟨by omega, fun j hj => step_lt (p := fun j => 0 ≤ l.getD j 0 ∧ l.getD j 0 ≤ 2) hj hinv0.2 c31⟩, by omega⟩, ⟨rfl, rfl, rfl, trivial⟩, Ext.nil _⟩
        · skip
          replace c26 := dF c26
          refine Run.exit rfl ?_
          refine Run.seq ?_
          refine Run.region ?_
          refine Ops.pure rfl (Pure.assign rfl) ?_
          refine Ops.nil ?_
          refine Run.ret1 rfl rfl ?_
          rw [okP_true (k := k) (by first | assumption | (unfold SizeOk; omega)) (by omega) (by omega) hinv0.2]

set_option maxRecDepth 4000 in
/-- spec.l02Ok -/
theorem f_s_l02Ok (w : World) (p : Nat) (a : Int) (b : Int) (v : Value) (l : List Int) (hp : Rd w (boxS p) 3 1 [.int .i64 a, .int .i64 b, v]) (hv : Rd w v 1 l.length (ints l)) (hl : l.length ≤ 1073741824) (a0 : -9223372036854775808 ≤ a) (a1 : a ≤ 9223372036854775807) (b0 : -9223372036854775808 ≤ b) (b1 : b ≤ 9223372036854775807) : RetV Try.prog 84 [.pointer (some ⟨p, 0, none⟩)] w (.bool (okP a b l)) := by
  refine Ret.enter Try.func84 rfl Try.ntmps84 rfl ?_
  refine Run.seq ?_
  refine Run.region ?_
  refine Ops.pure rfl (Pure.assign rfl) ?_
  refine Ops.nil ?_
  refine Run.seq ?_
  refine Run.seq ?_
  refine Any.start follows ?_
  refine Any.take 0 rfl (by kernel_rfl) rfl (QOp.pure (Pure.move rfl)) ?_
  refine Any.take 1 rfl (by kernel_rfl) rfl (QOp.pure (Pure.nilchk rfl)) ?_
  refine Any.take 2 rfl (by kernel_rfl) rfl (QOp.pure (Pure.fieldAddrB fld28_0 rfl)) ?_
  refine Any.take 3 rfl (by kernel_rfl) rfl (QOp.pure (Pure.ldP cell2 rfl (RdL.old hp) rfl)) ?_
  refine Any.take 4 rfl (by kernel_rfl) rfl (QOp.call fn131 rfl (fun w hw => f_s_l02Side w _)) ?_
  refine Any.take 5 rfl (by kernel_rfl) rfl (QOp.pure (Pure.not rfl)) ?_
  refine Any.take 6 rfl (by kernel_rfl) rfl (QOp.pure (Pure.move rfl)) ?_
  refine Any.splitG 10 rfl (fun c10 => ?_) (fun c10 => ?_)
  · skip
    have c10' := nT c10
    refine Any.takeN 7 rfl (by kernel_rfl) rfl rfl rfl rfl (by rw [c10]; decide) ?_
    refine Any.takeN 8 rfl (by kernel_rfl) rfl rfl rfl rfl (by rw [c10]; decide) ?_
    refine Any.takeN 9 rfl (by kernel_rfl) rfl rfl rfl rfl (by rw [c10]; decide) ?_
    refine Any.takeN 10 rfl (by kernel_rfl) rfl rfl rfl rfl (by rw [c10]; decide) ?_
    refine Any.takeN 11 rfl (by kernel_rfl) rfl rfl rfl rfl (by rw [c10]; decide) ?_
    refine Any.takeN 12 rfl (by kernel_rfl) rfl rfl rfl rfl (by rw [c10]; decide) ?_
    refine Any.take 13 rfl (by kernel_rfl) rfl (QOp.pure (Pure.pickT rfl c10 rfl)) ?_
    refine Any.take 14 rfl (by kernel_rfl) rfl (QOp.pure (Pure.move rfl)) ?_
    refine Any.takeN 15 rfl (by kernel_rfl) rfl rfl rfl rfl (by decide) ?_
    refine Any.takeN 16 rfl (by kernel_rfl) rfl rfl rfl rfl (by decide) ?_
    refine Any.takeN 17 rfl (by kernel_rfl) rfl rfl rfl rfl (by decide) ?_
    refine Any.takeN 18 rfl (by kernel_rfl) rfl rfl rfl rfl (by decide) ?_
    refine Any.takeN 19 rfl (by kernel_rfl) rfl rfl rfl rfl (by decide) ?_
    refine Any.takeN 20 rfl (by kernel_rfl) rfl rfl rfl rfl (by decide) ?_
    refine Any.takeN 21 rfl (by kernel_rfl) rfl rfl rfl rfl (by decide) ?_
    refine Any.takeN 22 rfl (by kernel_rfl) rfl rfl rfl rfl (by decide) ?_
    refine Any.takeN 23 rfl (by kernel_rfl) rfl rfl rfl rfl (by decide) ?_
    refine Any.takeN 24 rfl (by kernel_rfl) rfl rfl rfl rfl (by decide) ?_
    refine Any.takeN 25 rfl (by kernel_rfl) rfl rfl rfl rfl (by decide) ?_
    refine Any.takeN 26 rfl (by kernel_rfl) rfl rfl rfl rfl (by decide) ?_
    refine Any.takeN 27 rfl (by kernel_rfl) rfl rfl rfl rfl (by decide) ?_
    refine Any.takeN 28 rfl (by kernel_rfl) rfl rfl rfl rfl (by decide) ?_
    refine Any.takeN 29 rfl (by kernel_rfl) rfl rfl rfl rfl (by decide) ?_
    refine Any.take 30 rfl (by kernel_rfl) rfl (QOp.pure (Pure.pickT rfl rfl rfl)) ?_
    refine Any.done (by kernel_rfl) ?_
    refine Run.condE rfl rfl ?_
    refine Run.seq ?_
    refine Run.region ?_
    refine Ops.pure rfl (Pure.assign rfl) ?_
    refine Ops.nil ?_
    refine Run.ret1 rfl rfl ?_
    rw [okP_false (by first | omega | (unfold SizeOk; omega) | (simp_all; done) | (intro hh; simp_all; omega))]
  · skip
    have c10' := nF c10
    refine Any.takeY 7 rfl (by kernel_rfl) rfl rfl rfl rfl c10 (QOp.pure (Pure.move rfl)) ?_
    refine Any.takeY 8 rfl (by kernel_rfl) rfl rfl rfl rfl c10 (QOp.pure (Pure.nilchk rfl)) ?_
    refine Any.takeY 9 rfl (by kernel_rfl) rfl rfl rfl rfl c10 (QOp.pure (Pure.fieldAddrB fld28_1 rfl)) ?_
    refine Any.takeY 10 rfl (by kernel_rfl) rfl rfl rfl rfl c10 (QOp.pure (Pure.ldP cell2 rfl (RdL.old hp) rfl)) ?_
    refine Any.takeY 11 rfl (by kernel_rfl) rfl rfl rfl rfl c10 (QOp.call fn131 rfl (fun w hw => f_s_l02Side w _)) ?_
    refine Any.takeY 12 rfl (by kernel_rfl) rfl rfl rfl rfl c10 (QOp.pure (Pure.not rfl)) ?_
    refine Any.take 13 rfl (by kernel_rfl) rfl (QOp.pure (Pure.pickF rfl c10 rfl)) ?_
    refine Any.take 14 rfl (by kernel_rfl) rfl (QOp.pure (Pure.move rfl)) ?_
    refine Any.splitG 18 rfl (fun c18 => ?_) (fun c18 => ?_)
    · skip
      have c18' := nT c18
      refine Any.takeN 15 rfl (by kernel_rfl) rfl rfl rfl rfl (by rw [c18]; decide) ?_
      refine Any.takeN 16 rfl (by kernel_rfl) rfl rfl rfl rfl (by rw [c18]; decide) ?_
      refine Any.takeN 17 rfl (by kernel_rfl) rfl rfl rfl rfl (by rw [c18]; decide) ?_
      refine Any.takeN 18 rfl (by kernel_rfl) rfl rfl rfl rfl (by rw [c18]; decide) ?_
      refine Any.takeN 19 rfl (by kernel_rfl) rfl rfl rfl rfl (by rw [c18]; decide) ?_
      refine Any.takeN 20 rfl (by kernel_rfl) rfl rfl rfl rfl (by rw [c18]; decide) ?_
      refine Any.takeN 21 rfl (by kernel_rfl) rfl rfl rfl rfl (by rw [c18]; decide) ?_
      refine Any.takeN 22 rfl (by kernel_rfl) rfl rfl rfl rfl (by rw [c18]; decide) ?_
      refine Any.takeN 23 rfl (by kernel_rfl) rfl rfl rfl rfl (by rw [c18]; decide) ?_
      refine Any.takeN 24 rfl (by kernel_rfl) rfl rfl rfl rfl (by rw [c18]; decide) ?_
      refine Any.takeN 25 rfl (by kernel_rfl) rfl rfl rfl rfl (by rw [c18]; decide) ?_
      refine Any.takeN 26 rfl (by kernel_rfl) rfl rfl rfl rfl (by rw [c18]; decide) ?_
      refine Any.takeN 27 rfl (by kernel_rfl) rfl rfl rfl rfl (by rw [c18]; decide) ?_
      refine Any.takeN 28 rfl (by kernel_rfl) rfl rfl rfl rfl (by rw [c18]; decide) ?_
      refine Any.takeN 29 rfl (by kernel_rfl) rfl rfl rfl rfl (by rw [c18]; decide) ?_
      refine Any.take 30 rfl (by kernel_rfl) rfl (QOp.pure (Pure.pickT rfl c18 rfl)) ?_
      refine Any.done (by kernel_rfl) ?_
      refine Run.condE rfl rfl ?_
      refine Run.seq ?_
      refine Run.region ?_
      refine Ops.pure rfl (Pure.assign rfl) ?_
      refine Ops.nil ?_
      refine Run.ret1 rfl rfl ?_
      rw [okP_false (by first | omega | (unfold SizeOk; omega) | (simp_all; done) | (intro hh; simp_all; omega))]
    · skip
      have c18' := nF c18
      refine Any.takeY 15 rfl (by kernel_rfl) rfl rfl rfl rfl c18 (QOp.pure (Pure.move rfl)) ?_
      refine Any.takeY 16 rfl (by kernel_rfl) rfl rfl rfl rfl c18 (QOp.pure (Pure.nilchk rfl)) ?_
      refine Any.takeY 17 rfl (by kernel_rfl) rfl rfl rfl rfl c18 (QOp.pure (Pure.fieldAddrB fld28_2 rfl)) ?_
      refine Any.takeY 18 rfl (by kernel_rfl) rfl rfl rfl rfl c18 (QOp.pure (Pure.ldP cell22 rfl (RdL.old hp) rfl)) ?_
      refine Any.takeY 19 rfl (by kernel_rfl) rfl rfl rfl rfl c18 (QOp.pure (Pure.len sl22 (RdL.old hv) rfl)) ?_
      refine Any.takeY 20 rfl (by kernel_rfl) rfl rfl rfl rfl c18 (QOp.pure (Pure.move rfl)) ?_
      refine Any.takeY 21 rfl (by kernel_rfl) rfl rfl rfl rfl c18 (QOp.pure (Pure.nilchk rfl)) ?_
      refine Any.takeY 22 rfl (by kernel_rfl) rfl rfl rfl rfl c18 (QOp.pure (Pure.fieldAddrB fld28_0 rfl)) ?_
      refine Any.takeY 23 rfl (by kernel_rfl) rfl rfl rfl rfl c18 (QOp.pure (Pure.ldP cell2 rfl (RdL.old hp) rfl)) ?_
      refine Any.takeY 24 rfl (by kernel_rfl) rfl rfl rfl rfl c18 (QOp.pure (Pure.move rfl)) ?_
      refine Any.takeY 25 rfl (by kernel_rfl) rfl rfl rfl rfl c18 (QOp.pure (Pure.nilchk rfl)) ?_
      refine Any.takeY 26 rfl (by kernel_rfl) rfl rfl rfl rfl c18 (QOp.pure (Pure.fieldAddrB fld28_1 rfl)) ?_
      refine Any.takeY 27 rfl (by kernel_rfl) rfl rfl rfl rfl c18 (QOp.pure (Pure.ldP cell2 rfl (RdL.old hp) rfl)) ?_
      refine Any.takeY 28 rfl (by kernel_rfl) rfl rfl rfl rfl c18 (QOp.call fn130 rfl (fun w hw => f_s_l02Inner w _ _ (by unfold SizeOk; omega))) ?_
      refine Any.takeY 29 rfl (by kernel_rfl) rfl rfl rfl rfl c18 (QOp.pure (Pure.neq rfl rfl)) ?_
      refine Any.take 30 rfl (by kernel_rfl) rfl (QOp.pure (Pure.pickF rfl c18 rfl)) ?_
      refine Any.done (by kernel_rfl) ?_
      refine Run.cond rfl (fun c34 => ?_) (fun c34 => ?_)
      · skip
        replace c34 := nT c34
        refine Run.seq ?_
        refine Run.region ?_
        refine Ops.pure rfl (Pure.assign rfl) ?_
        refine Ops.nil ?_
        refine Run.ret1 rfl rfl ?_
        rw [okP_false (by first | omega | (unfold SizeOk; omega) | (simp_all; done) | (intro hh; simp_all; omega))]
      · skip
        replace c34 := nF c34
        refine Run.skip ?_
        refine Run.seq ?_
        refine Run.seq ?_
        refine Run.region ?_
        refine Ops.pure rfl (Pure.assign rfl) ?_
        refine Ops.nil ?_
        refine Run.block ?_
        refine Run.loop (X := Nat) (fun k => [(0, .pointer (some ⟨p, 0, none⟩)), (3, .int .i64 k)]) (fun k => []) (fun k => k ≤ l.length ∧ ∀ j, j < k → 0 ≤ l.getD j 0 ∧ l.getD j 0 ≤ 2) (fun k => l.length - k) 0 ?_ ?_ ?_ ?_
        · exact ⟨by omega, by omega⟩
        · exact ⟨rfl, rfl, trivial⟩
        · exact Ext.nil _
        · intro k hinv0
          refine Run.seq ?_
          refine Run.seq ?_
          refine Run.region ?_
          refine Ops.pure rfl (Pure.move rfl) ?_
          refine Ops.pure rfl (Pure.move rfl) ?_
          refine Ops.pure rfl (Pure.nilchk rfl) ?_
          refine Ops.pure rfl (Pure.fieldAddrB fld28_2 rfl) ?_
          refine Ops.pure rfl (Pure.ldP cell22 rfl (RdL.old hp) rfl) ?_
          refine Ops.pure rfl (Pure.len sl22 (RdL.old hv) rfl) ?_
          refine Ops.pure rfl (Pure.lss rfl rfl) ?_
          refine Ops.nil ?_
          refine Run.cond rfl (fun c41 => ?_) (fun c41 => ?_)
          · skip
            replace c41 := dT c41
            refine Run.skip ?_
            refine Run.seq ?_
            refine Run.block ?_
            refine Run.seq ?_
            refine Run.region ?_
            refine Ops.pure rfl (Pure.move rfl) ?_
            refine Ops.pure rfl (Pure.nilchk rfl) ?_
            refine Ops.pure rfl (Pure.fieldAddrB fld28_2 rfl) ?_
            refine Ops.pure rfl (Pure.ldP cell22 rfl (RdL.old hp) rfl) ?_
            refine Ops.pure rfl (Pure.move rfl) ?_
            refine Ops.pure rfl (Pure.idx1N sl22 (RdL.old hv) rfl rfl (by first | assumption | omega | (simp; omega))) ?_
            refine Ops.pure rfl (Pure.ld cell2 rfl (RdL.old hv) (by first | exact ints_get (by omega) | exact bools_get (by omega) | exact strs_get (by omega) | exact vals_get (by first | omega | (simp; omega)))) ?_
            refine Ops.q rfl (QOp.call fn121 rfl (fun w hw => f_s_l00In w _ _ _)) ?_
            refine Ops.pure rfl (Pure.not rfl) ?_
            refine Ops.nil ?_
            refine Run.cond rfl (fun c52 => ?_) (fun c52 => ?_)
            · skip
              replace c52 := nT c52
              refine Run.seq ?_
              refine Run.region ?_
              refine Ops.pure rfl (Pure.assign rfl) ?_
              refine Ops.nil ?_
              refine Run.ret1 rfl rfl ?_
              rw [okP_no (by omega) c52]
            · skip
              replace c52 := nF c52
              refine Run.skip ?_
              refine Run.blk ?_
              refine Run.region ?_
              refine Ops.pure rfl (Pure.move rfl) ?_
              refine Ops.pure rfl (Pure.add rfl rfl (by omega) (by omega)) ?_
              refine Ops.pure rfl (Pure.assign rfl) ?_
              refine Ops.nil ?_
              refine Run.asrt ?_
              exact ⟨k + 1, ⟨⟨by omega, fun j hj => step_lt (p := fun j => 0 ≤ l.getD j 0 ∧ l.getD j 0 ≤ 2) hj hinv0.2 c52⟩, by omega⟩, ⟨rfl, rfl, trivial⟩, Ext.nil _⟩
          · skip
            replace c41 := dF c41
            refine Run.exit rfl ?_
            refine Run.seq ?_
            refine Run.region ?_
            refine Ops.pure rfl (Pure.assign rfl) ?_
            refine Ops.nil ?_
            refine Run.ret1 rfl rfl ?_
            rw [okP_true (k := k) (by first | assumption | (unfold SizeOk; omega)) (by omega) (by omega) hinv0.2]

set_option maxRecDepth 4000 in
/-- (impl.Panel).crossingNumbers -/
theorem f_i_Panel_crossingNumbers (w : World) (a : Int) (b : Int) (v : Value) (l : List Int) (hv : Rd w v 1 l.length (ints l)) (hl : l.length ≤ 1073741824) : Ret Try.prog 119 [.agg #[.int .i64 a, .int .i64 b, v]] w (fun u L => L = [.row 2 1 u (zeros l l.length).length (ints (zeros l l.length))]) := by
  refine Ret.enter Try.func119 rfl Try.ntmps119 rfl ?_
  refine Run.seq ?_
  refine Run.region ?_
  refine Ops.go rfl (Loud.box rfl rfl) ?_
  rintro _ _ ⟨b1, rfl, rfl⟩
  refine Ops.pure rfl (Pure.assign rfl) ?_
  refine Ops.nil ?_
  refine Run.seq ?_
  refine Run.region ?_
  refine Ops.go rfl (Loud.lit sl22 rfl rfl rfl (by simp [Value.oneCell'])) ?_
  rintro v6 _ rfl
  refine Ops.pure rfl (Pure.assign rfl) ?_
  refine Ops.nil ?_
  refine Run.seq ?_
  refine Run.seq ?_
  refine Run.region ?_
  refine Ops.pure rfl (Pure.fieldAddrB fld28_2 rfl) ?_
  refine Ops.pure rfl (Pure.ldB 1 rfl cell22 rfl rfl) ?_
  refine Ops.pure rfl (Pure.len sl22 (RdL.old hv) rfl) ?_
  refine Ops.pure rfl (Pure.move rfl) ?_
  refine Ops.nil ?_
  refine Run.block ?_
  refine Run.loop2 (X := Nat) (Y := Value) (fun k vo => [(3, vo), (8, v), (9, .int .i64 l.length), (10, .int .i64 k)]) (fun k vo => [.row 2 1 vo (zeros l k).length (ints (zeros l k))]) (fun k vo => k ≤ l.length) (fun k vo => l.length - k) 0 v6 ?_ ?_ ?_ ?_
  · exact Nat.zero_le _
  · exact ⟨rfl, rfl, rfl, rfl, trivial⟩
  · exact Ext.take 0 rfl (Ext.nil _)
  · intro k vo hinv0
    have hzl := length_zeros l k
    have hbx := True.intro
    refine Run.seq ?_
    refine Run.region ?_
    refine Ops.pure rfl (Pure.lss rfl rfl) ?_
    refine Ops.nil ?_
    refine Run.seq ?_
    refine Run.cond rfl (fun c11 => ?_) (fun c11 => ?_)
    · skip
      replace c11 := dT c11
      refine Run.skip ?_
      refine Run.seq ?_
      refine Run.block ?_
      refine Run.seq ?_
      refine Run.region ?_
      refine Ops.pure rfl (Pure.move rfl) ?_
      refine Ops.pure rfl (Pure.idx1N sl22 (RdL.old hv) rfl rfl (by first | assumption | omega | (simp; omega))) ?_
      refine Ops.pure rfl (Pure.ld cell2 rfl (RdL.old hv) (by first | exact ints_get (by omega) | exact bools_get (by omega) | exact strs_get (by omega) | exact vals_get (by first | omega | (simp; omega)))) ?_
      refine Ops.pure rfl (Pure.assign rfl) ?_
      refine Ops.pure rfl (Pure.assign rfl) ?_
      refine Ops.nil ?_
      refine Run.seq ?_
      refine Run.region ?_
      refine Ops.pure rfl (Pure.move rfl) ?_
      refine Ops.pure rfl (Pure.eql rfl rfl) ?_
      refine Ops.nil ?_
      refine Run.cond rfl (fun c16 => ?_) (fun c16 => ?_)
      · skip
        replace c16 := dT c16
        refine Run.region ?_
        refine Ops.pure rfl (Pure.move rfl) ?_
        refine Ops.pure rfl (Pure.move rfl) ?_
        refine Ops.go rfl (Loud.lit sl22 rfl rfl rfl (by simp [Value.oneCell'])) ?_
        rintro v19 _ rfl
        refine Ops.go rfl (Loud.append 1 rfl sl22 rfl rfl (RdL.own 0 rfl) (by simp [Value.oneCell']) (by omega) (by omega)) ?_
        rintro v20 _ rfl
        refine Ops.pure rfl (Pure.assign rfl) ?_
        refine Ops.nil ?_
        refine Run.blk ?_
        refine Run.region ?_
        refine Ops.pure rfl (Pure.add rfl rfl (by omega) (by omega)) ?_
        refine Ops.pure rfl (Pure.move rfl) ?_
        refine Ops.nil ?_
        refine Run.asrt ?_
        first
          | (refine ⟨k + 1, v20, ⟨by omega, by omega⟩, ⟨rfl, rfl, rfl, rfl, trivial⟩, Ext.trans (Ext.eq ?_) (Ext.take 1 rfl (Ext.nil _))⟩
             rw [zeros_yes c16, List.length_append, ints, List.map_append]
             rfl)
          | (refine ⟨k + 1, vo, ⟨by omega, by omega⟩, ⟨rfl, rfl, rfl, rfl, trivial⟩, Ext.eq ?_⟩
             rw [zeros_no c16])
      · skip
        replace c16 := dF c16
        refine Run.skip ?_
        refine Run.blk ?_
        refine Run.region ?_
        refine Ops.pure rfl (Pure.add rfl rfl (by omega) (by omega)) ?_
        refine Ops.pure rfl (Pure.move rfl) ?_
        refine Ops.nil ?_
        refine Run.asrt ?_
        first
          | (refine ⟨k + 1, v20, ⟨by omega, by omega⟩, ⟨rfl, rfl, rfl, rfl, trivial⟩, Ext.trans (Ext.eq ?_) (Ext.take 1 rfl (Ext.nil _))⟩
             rw [zeros_yes c16, List.length_append, ints, List.map_append]
             rfl)
          | (refine ⟨k + 1, vo, ⟨by omega, by omega⟩, ⟨rfl, rfl, rfl, rfl, trivial⟩, Ext.eq ?_⟩
             rw [zeros_no c16])
    · skip
      replace c11 := dF c11
      refine Run.exit rfl ?_
      refine Run.seq ?_
      refine Run.region ?_
      refine Ops.pure rfl (Pure.move rfl) ?_
      refine Ops.pure rfl (Pure.assign rfl) ?_
      refine Ops.nil ?_
      refine Run.ret1 rfl rfl ?_
      have e : k = l.length := by omega
      subst e
      rfl

set_option maxRecDepth 4000 in
/-- spec.l13All -/
theorem f_s_l13All (w : World) (p : Nat) (a : Int) (b : Int) (v : Value) (l : List Int) (hp : Rd w (boxS p) 3 1 [.int .i64 a, .int .i64 b, v]) (hv : Rd w v 1 l.length (ints l)) (hl : l.length ≤ 1073741824) : Ret Try.prog 120 [.pointer (some ⟨p, 0, none⟩)] w (fun u L => L = [.row 2 1 u (zeros l l.length).length (ints (zeros l l.length))]) := by
  refine Ret.enter Try.func120 rfl Try.ntmps120 rfl ?_
  refine Run.seq ?_
  refine Run.region ?_
  refine Ops.pure rfl (Pure.assign rfl) ?_
  refine Ops.nil ?_
  refine Run.seq ?_
  refine Run.region ?_
  refine Ops.go rfl (Loud.lit sl22 rfl rfl rfl (by simp [Value.oneCell'])) ?_
  rintro v5 _ rfl
  refine Ops.pure rfl (Pure.assign rfl) ?_
  refine Ops.nil ?_
  refine Run.seq ?_
  refine Run.seq ?_
  refine Run.region ?_
  refine Ops.pure rfl (Pure.assign rfl) ?_
  refine Ops.nil ?_
  refine Run.block ?_
  refine Run.loop2 (X := Nat) (Y := Value) (fun k vo => [(0, .pointer (some ⟨p, 0, none⟩)), (3, vo), (4, .int .i64 k)]) (fun k vo => [.row 2 1 vo (zeros l k).length (ints (zeros l k))]) (fun k vo => k ≤ l.length) (fun k vo => l.length - k) 0 v5 ?_ ?_ ?_ ?_
  · exact Nat.zero_le _
  · exact ⟨rfl, rfl, rfl, trivial⟩
  · exact Ext.refl _
  · intro k vo hinv0
    have hzl := length_zeros l k
    have hbx := True.intro
    refine Run.seq ?_
    refine Run.seq ?_
    refine Run.region ?_
    refine Ops.pure rfl (Pure.move rfl) ?_
    refine Ops.pure rfl (Pure.move rfl) ?_
    refine Ops.pure rfl (Pure.nilchk rfl) ?_
    refine Ops.pure rfl (Pure.fieldAddrB fld28_2 rfl) ?_
    refine Ops.pure rfl (Pure.ldP cell22 rfl (RdL.old hp) rfl) ?_
    refine Ops.pure rfl (Pure.len sl22 (RdL.old hv) rfl) ?_
    refine Ops.pure rfl (Pure.lss rfl rfl) ?_
    refine Ops.nil ?_
    refine Run.cond rfl (fun c12 => ?_) (fun c12 => ?_)
    · skip
      replace c12 := dT c12
      refine Run.skip ?_
      refine Run.seq ?_
      refine Run.block ?_
      refine Run.seq ?_
      refine Run.region ?_
      refine Ops.pure rfl (Pure.move rfl) ?_
      refine Ops.pure rfl (Pure.nilchk rfl) ?_
      refine Ops.pure rfl (Pure.fieldAddrB fld28_2 rfl) ?_
      refine Ops.pure rfl (Pure.ldP cell22 rfl (RdL.old hp) rfl) ?_
      refine Ops.pure rfl (Pure.move rfl) ?_
      refine Ops.pure rfl (Pure.idx1N sl22 (RdL.old hv) rfl rfl (by first | assumption | omega | (simp; omega))) ?_
      refine Ops.pure rfl (Pure.ld cell2 rfl (RdL.old hv) (by first | exact ints_get (by omega) | exact bools_get (by omega) | exact strs_get (by omega) | exact vals_get (by first | omega | (simp; omega)))) ?_
      refine Ops.pure rfl (Pure.eql rfl rfl) ?_
      refine Ops.nil ?_
      refine Run.cond rfl (fun c22 => ?_) (fun c22 => ?_)
      · skip
        replace c22 := dT c22
        refine Run.region ?_
        refine Ops.pure rfl (Pure.move rfl) ?_
        refine Ops.pure rfl (Pure.move rfl) ?_
        refine Ops.go rfl (Loud.lit sl22 rfl rfl rfl (by simp [Value.oneCell'])) ?_
        rintro v25 _ rfl
        refine Ops.go rfl (Loud.append 1 rfl sl22 rfl rfl (RdL.own 0 rfl) (by simp [Value.oneCell']) (by omega) (by omega)) ?_
        rintro v26 _ rfl
        refine Ops.pure rfl (Pure.assign rfl) ?_
        refine Ops.nil ?_
        refine Run.blk ?_
        refine Run.region ?_
        refine Ops.pure rfl (Pure.move rfl) ?_
        refine Ops.pure rfl (Pure.add rfl rfl (by omega) (by omega)) ?_
        refine Ops.pure rfl (Pure.assign rfl) ?_
        refine Ops.nil ?_
        refine Run.asrt ?_
        first
          | (refine ⟨k + 1, v26, ⟨by omega, by omega⟩, ⟨rfl, rfl, rfl, trivial⟩, Ext.trans (Ext.eq ?_) (Ext.take 1 rfl (Ext.nil _))⟩
             rw [zeros_yes c22, List.length_append, ints, List.map_append]
             rfl)
          | (refine ⟨k + 1, vo, ⟨by omega, by omega⟩, ⟨rfl, rfl, rfl, trivial⟩, Ext.eq ?_⟩
             rw [zeros_no c22])
      · skip
        replace c22 := dF c22
        refine Run.skip ?_
        refine Run.blk ?_
        refine Run.region ?_
        refine Ops.pure rfl (Pure.move rfl) ?_
        refine Ops.pure rfl (Pure.add rfl rfl (by omega) (by omega)) ?_
        refine Ops.pure rfl (Pure.assign rfl) ?_
        refine Ops.nil ?_
        refine Run.asrt ?_
        first
          | (refine ⟨k + 1, v26, ⟨by omega, by omega⟩, ⟨rfl, rfl, rfl, trivial⟩, Ext.trans (Ext.eq ?_) (Ext.take 1 rfl (Ext.nil _))⟩
             rw [zeros_yes c22, List.length_append, ints, List.map_append]
             rfl)
          | (refine ⟨k + 1, vo, ⟨by omega, by omega⟩, ⟨rfl, rfl, rfl, trivial⟩, Ext.eq ?_⟩
             rw [zeros_no c22])
    · skip
      replace c12 := dF c12
      refine Run.exit rfl ?_
      refine Run.seq ?_
      refine Run.region ?_
      refine Ops.pure rfl (Pure.move rfl) ?_
      refine Ops.pure rfl (Pure.assign rfl) ?_
      refine Ops.nil ?_
      refine Run.ret1 rfl rfl ?_
      have e : k = l.length := by omega
      subst e
      rfl

set_option maxRecDepth 4000 in
/-- spec.CrossingsOf -/
theorem f_s_CrossingsOf (w : World) (a : Int) (b : Int) (v : Value) (l : List Int) (hv : Rd w v 1 l.length (ints l)) (hl : l.length ≤ 1073741824) (a0 : -9223372036854775808 ≤ a) (a1 : a ≤ 9223372036854775807) (b0 : -9223372036854775808 ≤ b) (b1 : b ≤ 9223372036854775807) : Ret Try.prog 62 [.agg #[.int .i64 a, .int .i64 b, v]] w (retI (crC a b l) (okE a b l)) := by
  refine Ret.enter Try.func62 rfl Try.ntmps62 rfl ?_
  refine Run.seq ?_
  refine Run.region ?_
  refine Ops.go rfl (Loud.box rfl rfl) ?_
  rintro _ _ ⟨b1, rfl, rfl⟩
  refine Ops.pure rfl (Pure.assign rfl) ?_
  refine Ops.pure rfl (Pure.assign rfl) ?_
  refine Ops.nil ?_
  refine Run.seq ?_
  refine Run.seq ?_
  refine Run.region ?_
  refine Ops.q rfl (QOp.call fn84 rfl (fun w hw => f_s_l02Ok w _ _ _ _ _ (by exact RdL.boxM 0 rfl rfl w hw) (by exact RdL.old (by assumption) w hw) (by assumption) (by assumption) (by assumption) (by assumption) (by assumption))) ?_
  refine Ops.pure rfl (Pure.not rfl) ?_
  refine Ops.nil ?_
  refine Run.cond rfl (fun c5 => ?_) (fun c5 => ?_)
  · skip
    replace c5 := bT c5
    refine Run.seq ?_
    refine Run.addNil 2 1 ?_
    refine Run.ext_ (Ext.take 0 rfl (Ext.nil _)) ?_
    refine Run.region ?_
    refine Ops.pure rfl (Pure.assign rfl) ?_
    refine Ops.pure rfl (Pure.assign rfl) ?_
    refine Ops.nil ?_
    refine Run.ret2 rfl rfl rfl ?_
    rw [(crC_bad c5).2]
    exact retI_nil (crC_bad c5).1
  · skip
    replace c5 := bF c5
    refine Run.skip ?_
    refine Run.seq ?_
    refine Run.region ?_
    refine Ops.go rfl (Loud.callR fn120 rfl (fun w hw => f_s_l13All w _ _ _ _ _ (by exact RdL.boxM 0 rfl rfl w hw) (by exact RdL.old (by assumption) w hw) (by assumption))) ?_
    rintro v6 _ ⟨L6, hQ6, rfl⟩
    subst hQ6
    refine Ops.pure rfl (Pure.assign rfl) ?_
    refine Ops.pure rfl (Pure.assign rfl) ?_
    refine Ops.nil ?_
    refine Run.ext_ (Ext.take 0 rfl (Ext.nil _)) ?_
    refine Run.ret2 rfl rfl rfl ?_
    rw [(crC_ok c5).1, (crC_ok c5).2]
    exact ⟨_, rfl, rfl⟩

set_option maxRecDepth 4000 in
/-- impl.CrossingsOf -/
theorem f_i_CrossingsOf (w : World) (a : Int) (b : Int) (v : Value) (l : List Int) (hv : Rd w v 1 l.length (ints l)) (hl : l.length ≤ 1073741824) (a0 : -9223372036854775808 ≤ a) (a1 : a ≤ 9223372036854775807) (b0 : -9223372036854775808 ≤ b) (b1 : b ≤ 9223372036854775807) : Ret Try.prog 61 [.agg #[.int .i64 a, .int .i64 b, v]] w (retI (crC a b l) (okE a b l)) := by
  refine Ret.enter Try.func61 rfl Try.ntmps61 rfl ?_
  refine Run.seq ?_
  refine Run.region ?_
  refine Ops.go rfl (Loud.box rfl rfl) ?_
  rintro _ _ ⟨b1, rfl, rfl⟩
  refine Ops.pure rfl (Pure.assign rfl) ?_
  refine Ops.pure rfl (Pure.assign rfl) ?_
  refine Ops.nil ?_
  refine Run.seq ?_
  refine Run.seq ?_
  refine Run.region ?_
  refine Ops.pure rfl (Pure.ldBA 0 rfl cell28 rfl rfl rfl) ?_
  refine Ops.q rfl (QOp.call fn100 rfl (fun w hw => f_i_ValidPanel w _ _ _ _ (by exact RdL.old (by assumption) w hw) (by assumption) (by assumption) (by assumption) (by assumption) (by assumption))) ?_
  refine Ops.pure rfl (Pure.not rfl) ?_
  refine Ops.nil ?_
  refine Run.cond rfl (fun c6 => ?_) (fun c6 => ?_)
  · skip
    replace c6 := bT c6
    refine Run.seq ?_
    refine Run.addNil 2 1 ?_
    refine Run.ext_ (Ext.take 0 rfl (Ext.nil _)) ?_
    refine Run.region ?_
    refine Ops.pure rfl (Pure.assign rfl) ?_
    refine Ops.pure rfl (Pure.assign rfl) ?_
    refine Ops.nil ?_
    refine Run.ret2 rfl rfl rfl ?_
    rw [(crC_bad c6).2]
    exact retI_nil (crC_bad c6).1
  · skip
    replace c6 := bF c6
    refine Run.skip ?_
    refine Run.seq ?_
    refine Run.region ?_
    refine Ops.pure rfl (Pure.ldBA 0 rfl cell28 rfl rfl rfl) ?_
    refine Ops.go rfl (Loud.callR fn119 rfl (fun w hw => f_i_Panel_crossingNumbers w _ _ _ _ (by exact RdL.old (by assumption) w hw) (by assumption))) ?_
    rintro v8 _ ⟨L8, hQ8, rfl⟩
    subst hQ8
    refine Ops.pure rfl (Pure.assign rfl) ?_
    refine Ops.pure rfl (Pure.assign rfl) ?_
    refine Ops.nil ?_
    refine Run.ext_ (Ext.take 0 rfl (Ext.nil _)) ?_
    refine Run.ret2 rfl rfl rfl ?_
    rw [(crC_ok c6).1, (crC_ok c6).2]
    exact ⟨_, rfl, rfl⟩

end Go.Proofs.Ytkplanpcmkbfiaa
