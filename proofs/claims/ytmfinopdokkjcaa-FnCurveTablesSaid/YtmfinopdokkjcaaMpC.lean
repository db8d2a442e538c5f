/- Contracts of functions, printed by program from annotations. -/
import Derived.Test.YtmfinopdokkjcaaMpW
namespace Go.Proofs.Ytmfinopdokkjcaa
open Go Go.AW Go.RowKit
set_option linter.unusedVariables false
set_option linter.unusedSimpArgs false

def cpI (x y : Int) : Int := if x < y then -1 else if y < x then 1 else 0
theorem cpI_zero {x y : Int} : cpI x y = 0 ↔ x = y := by
  unfold cpI
  split
  · omega
  · split <;> omega
def cpL : List Int → List Int → Int
  | [], [] => 0
  | [], _ :: _ => -1
  | _ :: _, [] => 1
  | x :: l, y :: m => if cpI x y = 0 then cpL l m else cpI x y
theorem cpL_at : ∀ {l m : List Int} {k : Nat}, k < l.length → k < m.length → (∀ j, j < k → l.getD j 0 = m.getD j 0) → ¬ cpI (l.getD k 0) (m.getD k 0) = 0 → cpL l m = cpI (l.getD k 0) (m.getD k 0)
  | [], _, _, h, _, _, _ => absurd h (Nat.not_lt_zero _)
  | _ :: _, [], _, _, h, _, _ => absurd h (Nat.not_lt_zero _)
  | x :: l, y :: m, 0, _, _, _, h => by
    exact if_neg h
  | x :: l, y :: m, k + 1, h1, h2, he, h => by
    have h0 : x = y := he 0 (Nat.succ_pos _)
    show (if cpI x y = 0 then cpL l m else cpI x y) = _
    rw [if_pos (cpI_zero.2 h0)]
    exact cpL_at (Nat.lt_of_succ_lt_succ h1) (Nat.lt_of_succ_lt_succ h2) (fun j hj => he (j + 1) (by omega)) h
theorem cpL_self : ∀ l : List Int, cpL l l = 0
  | [] => rfl
  | x :: l => by
    show (if cpI x x = 0 then cpL l l else cpI x x) = 0
    rw [if_pos (cpI_zero.2 rfl)]
    exact cpL_self l
/-- one panel against another -/
def cpP (p q : Int × Int × List Int) : Int := if cpI p.1 q.1 = 0 then (if cpI p.2.1 q.2.1 = 0 then cpL p.2.2 q.2.2 else cpI p.2.1 q.2.1) else cpI p.1 q.1
def img (a b : Int) (l : List Int) (s : Nat) : Int × Int × List Int := (mpA s a b, mpB s a b, mapL s a b l)
/-- the least of the first images -/
def caTo (a b : Int) (l : List Int) : Nat → Int × Int × List Int
  | 0 => img a b l 0
  | n + 1 => if cpP (img a b l (n + 1)) (caTo a b l n) < 0 then img a b l (n + 1) else caTo a b l n
theorem caTo_yes {a b : Int} {l : List Int} {n : Nat} (h : cpP (img a b l (n + 1)) (caTo a b l n) < 0) : caTo a b l (n + 1) = img a b l (n + 1) := if_pos h
theorem caTo_no {a b : Int} {l : List Int} {n : Nat} (h : ¬ cpP (img a b l (n + 1)) (caTo a b l n) < 0) : caTo a b l (n + 1) = caTo a b l n := if_neg h
theorem caTo_img (a b : Int) (l : List Int) : ∀ n, ∃ s, s ≤ n ∧ caTo a b l n = img a b l s
  | 0 => ⟨0, Nat.le_refl _, rfl⟩
  | n + 1 => by
    obtain ⟨s, h1, h2⟩ := caTo_img a b l n
    by_cases h : cpP (img a b l (n + 1)) (caTo a b l n) < 0
    · exact ⟨n + 1, Nat.le_refl _, caTo_yes h⟩
    · exact ⟨s, by omega, (caTo_no h).trans h2⟩
theorem caTo_len (a b : Int) (l : List Int) (n : Nat) : (caTo a b l n).2.2.length = inn a b := by
  obtain ⟨s, _, h⟩ := caTo_img a b l n
  rw [h]
  exact length_mapL s a b l

theorem fn241 : FnOk Try.prog 241 := ⟨_, Try.func241, by kernel_rfl, rfl⟩
theorem fn224 : FnOk Try.prog 224 := ⟨_, Try.func224, by kernel_rfl, rfl⟩

set_option maxRecDepth 4000 in
/-- impl.compare -/
theorem f_i_compare (w : World) (x : Int) (y : Int) : RetV Try.prog 219 [.int .i64 x, .int .i64 y] w (.int .i64 (cpI x y)) := by
  refine Ret.enter Try.func219 rfl Try.ntmps219 rfl ?_
  refine Run.seq ?_
  refine Run.region ?_
  refine Ops.pure rfl (Pure.assign rfl) ?_
  refine Ops.nil ?_
  refine Run.seq ?_
  refine Run.block ?_
  refine Run.seq ?_
  refine Run.region ?_
  refine Ops.pure rfl (Pure.move rfl) ?_
  refine Ops.pure rfl (Pure.move rfl) ?_
  refine Ops.pure rfl (Pure.lss rfl rfl) ?_
  refine Ops.pure rfl (Pure.assign rfl) ?_
  refine Ops.nil ?_
  refine Run.cond rfl (fun c5 => ?_) (fun c5 => ?_)
  · skip
    replace c5 := dT c5
    refine Run.seq ?_
    refine Run.region ?_
    refine Ops.pure rfl (Pure.assign rfl) ?_
    refine Ops.nil ?_
    refine Run.ret1 rfl rfl ?_
    unfold cpI
    first
      | (rw [if_pos (by omega)])
      | (rw [if_neg (by omega), if_pos (by omega)])
      | (rw [if_neg (by omega), if_neg (by omega)])
  · skip
    replace c5 := dF c5
    refine Run.seq ?_
    refine Run.region ?_
    refine Ops.pure rfl (Pure.move rfl) ?_
    refine Ops.pure rfl (Pure.move rfl) ?_
    refine Ops.pure rfl (Pure.gtr rfl rfl) ?_
    refine Ops.pure rfl (Pure.assign rfl) ?_
    refine Ops.nil ?_
    refine Run.cond rfl (fun c9 => ?_) (fun c9 => ?_)
    · skip
      replace c9 := dT c9
      refine Run.seq ?_
      refine Run.region ?_
      refine Ops.pure rfl (Pure.assign rfl) ?_
      refine Ops.nil ?_
      refine Run.ret1 rfl rfl ?_
      unfold cpI
      first
        | (rw [if_pos (by omega)])
        | (rw [if_neg (by omega), if_pos (by omega)])
        | (rw [if_neg (by omega), if_neg (by omega)])
    · skip
      replace c9 := dF c9
      refine Run.skip ?_
      refine Run.blk ?_
      refine Run.seq ?_
      refine Run.region ?_
      refine Ops.pure rfl (Pure.assign rfl) ?_
      refine Ops.nil ?_
      refine Run.ret1 rfl rfl ?_
      unfold cpI
      first
        | (rw [if_pos (by omega)])
        | (rw [if_neg (by omega), if_pos (by omega)])
        | (rw [if_neg (by omega), if_neg (by omega)])

set_option maxRecDepth 4000 in
/-- cmp.isNaN[int64] -/
theorem f_cmp_isNaN_int64 (w : World) (x : Int) : RetV Try.prog 241 [.int .i64 x] w (.bool false) := by
  refine Ret.enter Try.func241 rfl Try.ntmps241 rfl ?_
  refine Run.seq ?_
  refine Run.region ?_
  refine Ops.pure rfl (Pure.assign rfl) ?_
  refine Ops.nil ?_
  refine Run.seq ?_
  refine Run.region ?_
  refine Ops.pure rfl (Pure.move rfl) ?_
  refine Ops.pure rfl (Pure.move rfl) ?_
  refine Ops.pure rfl (Pure.neq rfl rfl) ?_
  refine Ops.pure rfl (Pure.assign rfl) ?_
  refine Ops.nil ?_
  refine Run.ret1 rfl rfl ?_
  first
    | rfl
    | simp

set_option maxRecDepth 4000 in
/-- cmp.Compare[int64] -/
theorem f_cmp_Compare_int64 (w : World) (x : Int) (y : Int) : RetV Try.prog 224 [.int .i64 x, .int .i64 y] w (.int .i64 (cpI x y)) := by
  refine Ret.enter Try.func224 rfl Try.ntmps224 rfl ?_
  refine Run.seq ?_
  refine Run.region ?_
  refine Ops.pure rfl (Pure.assign rfl) ?_
  refine Ops.nil ?_
  refine Run.seq ?_
  refine Run.region ?_
  refine Ops.pure rfl (Pure.move rfl) ?_
  refine Ops.q rfl (QOp.call fn241 rfl (fun w hw => f_cmp_isNaN_int64 w _)) ?_
  refine Ops.pure rfl (Pure.assign rfl) ?_
  refine Ops.nil ?_
  refine Run.seq ?_
  refine Run.region ?_
  refine Ops.pure rfl (Pure.move rfl) ?_
  refine Ops.q rfl (QOp.call fn241 rfl (fun w hw => f_cmp_isNaN_int64 w _)) ?_
  refine Ops.pure rfl (Pure.assign rfl) ?_
  refine Ops.nil ?_
  refine Run.seq ?_
  refine Run.seq ?_
  refine Run.region ?_
  refine Ops.pure rfl (Pure.move rfl) ?_
  refine Ops.nil ?_
  refine Run.condEF rfl (rfl) ?_
  refine Run.skip ?_
  refine Run.seq ?_
  refine Run.seq ?_
  refine Run.region ?_
  refine Ops.pure rfl (Pure.move rfl) ?_
  refine Ops.nil ?_
  refine Run.condEF rfl (rfl) ?_
  refine Run.skip ?_
  refine Run.seq ?_
  refine Run.seq ?_
  refine Run.region ?_
  refine Ops.pure rfl (Pure.move rfl) ?_
  refine Ops.pure rfl (Pure.move rfl) ?_
  refine Ops.pure rfl (Pure.lss rfl rfl) ?_
  refine Ops.nil ?_
  refine Run.cond rfl (fun c16 => ?_) (fun c16 => ?_)
  · skip
    replace c16 := dT c16
    refine Run.seq ?_
    refine Run.region ?_
    refine Ops.pure rfl (Pure.assign rfl) ?_
    refine Ops.nil ?_
    refine Run.ret1 rfl rfl ?_
    unfold cpI
    first
      | (rw [if_pos (by omega)])
      | (rw [if_neg (by omega), if_pos (by omega)])
      | (rw [if_neg (by omega), if_neg (by omega)])
  · skip
    replace c16 := dF c16
    refine Run.skip ?_
    refine Run.seq ?_
    refine Run.seq ?_
    refine Run.region ?_
    refine Ops.pure rfl (Pure.move rfl) ?_
    refine Ops.pure rfl (Pure.move rfl) ?_
    refine Ops.pure rfl (Pure.gtr rfl rfl) ?_
    refine Ops.nil ?_
    refine Run.cond rfl (fun c19 => ?_) (fun c19 => ?_)
    · skip
      replace c19 := dT c19
      refine Run.seq ?_
      refine Run.region ?_
      refine Ops.pure rfl (Pure.assign rfl) ?_
      refine Ops.nil ?_
      refine Run.ret1 rfl rfl ?_
      unfold cpI
      first
        | (rw [if_pos (by omega)])
        | (rw [if_neg (by omega), if_pos (by omega)])
        | (rw [if_neg (by omega), if_neg (by omega)])
    · skip
      replace c19 := dF c19
      refine Run.skip ?_
      refine Run.seq ?_
      refine Run.region ?_
      refine Ops.pure rfl (Pure.assign rfl) ?_
      refine Ops.nil ?_
      refine Run.ret1 rfl rfl ?_
      unfold cpI
      first
        | (rw [if_pos (by omega)])
        | (rw [if_neg (by omega), if_pos (by omega)])
        | (rw [if_neg (by omega), if_neg (by omega)])

set_option maxRecDepth 4000 in
/-- slices.Compare[[]int64,int64] -/
theorem f_slices_Compare_int64_int64 (w : World) (v : Value) (u : Value) (l : List Int) (m : List Int) (hv : Rd w v 1 l.length (ints l)) (hu : Rd w u 1 m.length (ints m)) (hlm : l.length = m.length) (hl : l.length ≤ 1073741824) : RetV Try.prog 205 [v, u] w (.int .i64 (cpL l m)) := by
  refine Ret.enter Try.func205 rfl Try.ntmps205 rfl ?_
  refine Run.seq ?_
  refine Run.region ?_
  refine Ops.pure rfl (Pure.assign rfl) ?_
  refine Ops.nil ?_
  refine Run.seq ?_
  refine Run.seq ?_
  refine Run.region ?_
  refine Ops.pure rfl (Pure.move rfl) ?_
  refine Ops.pure rfl (Pure.len sl32 (RdL.old hv) rfl) ?_
  refine Ops.pure rfl (Pure.move rfl) ?_
  refine Ops.nil ?_
  refine Run.block ?_
  refine Run.loop (X := Nat) (fun k => [(0, v), (1, u), (9, v), (10, .int .i64 l.length), (11, .int .i64 k)]) (fun k => []) (fun k => k ≤ l.length ∧ ∀ j, j < k → l.getD j 0 = m.getD j 0) (fun k => l.length - k) 0 ?_ ?_ ?_ ?_
  · exact ⟨by omega, by omega⟩
  · exact ⟨rfl, rfl, rfl, rfl, rfl, trivial⟩
  · exact Ext.refl _
  · intro k hinv0
    refine Run.seq ?_
    refine Run.region ?_
    refine Ops.pure rfl (Pure.lss rfl rfl) ?_
    refine Ops.nil ?_
    refine Run.seq ?_
    refine Run.cond rfl (fun c12 => ?_) (fun c12 => ?_)
    · skip
      replace c12 := dT c12
      refine Run.skip ?_
      refine Run.seq ?_
      refine Run.block ?_
      refine Run.seq ?_
      refine Run.region ?_
      refine Ops.pure rfl (Pure.move rfl) ?_
      refine Ops.pure rfl (Pure.idx1N sl32 (RdL.old hv) rfl rfl (by first | assumption | omega | (simp; omega))) ?_
      refine Ops.pure rfl (Pure.ld cell2 rfl (RdL.old hv) (by first | exact ints_get (by omega) | exact bools_get (by omega) | exact strs_get (by omega) | exact vals_get (by first | omega | (simp; omega)))) ?_
      refine Ops.pure rfl (Pure.assign rfl) ?_
      refine Ops.pure rfl (Pure.assign rfl) ?_
      refine Ops.nil ?_
      refine Run.seq ?_
      refine Run.seq ?_
      refine Run.region ?_
      refine Ops.pure rfl (Pure.move rfl) ?_
      refine Ops.pure rfl (Pure.move rfl) ?_
      refine Ops.pure rfl (Pure.len sl32 (RdL.old hu) rfl) ?_
      refine Ops.pure rfl (Pure.geq rfl rfl) ?_
      refine Ops.nil ?_
      refine Run.condEF rfl (decide_eq_false (by omega)) ?_
      refine Run.skip ?_
      refine Run.seq ?_
      refine Run.region ?_
      refine Ops.pure rfl (Pure.move rfl) ?_
      refine Ops.pure rfl (Pure.move rfl) ?_
      refine Ops.pure rfl (Pure.idx1N sl32 (RdL.old hu) rfl rfl (by first | assumption | omega | (simp; omega))) ?_
      refine Ops.pure rfl (Pure.ld cell2 rfl (RdL.old hu) (by first | exact ints_get (by omega) | exact bools_get (by omega) | exact strs_get (by omega) | exact vals_get (by first | omega | (simp; omega)))) ?_
      refine Ops.pure rfl (Pure.assign rfl) ?_
      refine Ops.nil ?_
      refine Run.seq ?_
      refine Run.region ?_
      refine Ops.pure rfl (Pure.move rfl) ?_
      refine Ops.pure rfl (Pure.move rfl) ?_
      refine Ops.q rfl (QOp.call fn224 rfl (fun w hw => f_cmp_Compare_int64 w (l.getD k 0) (m.getD k 0))) ?_
      refine Ops.pure rfl (Pure.assign rfl) ?_
      refine Ops.nil ?_
      refine Run.seq ?_
      refine Run.region ?_
      refine Ops.pure rfl (Pure.move rfl) ?_
      refine Ops.pure rfl (Pure.neq rfl rfl) ?_
      refine Ops.nil ?_
      refine Run.cond rfl (fun c28 => ?_) (fun c28 => ?_)
      · skip
        replace c28 := nT c28
        refine Run.seq ?_
        refine Run.region ?_
        refine Ops.pure rfl (Pure.move rfl) ?_
        refine Ops.pure rfl (Pure.assign rfl) ?_
        refine Ops.nil ?_
        refine Run.ret1 rfl rfl ?_
        rw [cpL_at (k := k) (by omega) (by omega) hinv0.2 (by omega)]
      · skip
        replace c28 := nF c28
        refine Run.skip ?_
        refine Run.blk ?_
        refine Run.region ?_
        refine Ops.pure rfl (Pure.add rfl rfl (by omega) (by omega)) ?_
        refine Ops.pure rfl (Pure.move rfl) ?_
        refine Ops.nil ?_
        refine Run.asrt ?_
        exact ⟨k + 1, ⟨⟨by omega, fun j hj => step_lt (p := fun j => l.getD j 0 = m.getD j 0) hj hinv0.2 (cpI_zero.1 (by omega))⟩, by omega⟩, ⟨rfl, rfl, rfl, rfl, rfl, trivial⟩, Ext.nil _⟩
    · skip
      replace c12 := dF c12
      refine Run.exit rfl ?_
      refine Run.seq ?_
      refine Run.seq ?_
      refine Run.region ?_
      refine Ops.pure rfl (Pure.move rfl) ?_
      refine Ops.pure rfl (Pure.len sl32 (RdL.old hv) rfl) ?_
      refine Ops.pure rfl (Pure.move rfl) ?_
      refine Ops.pure rfl (Pure.len sl32 (RdL.old hu) rfl) ?_
      refine Ops.pure rfl (Pure.lss rfl rfl) ?_
      refine Ops.nil ?_
      refine Run.condEF rfl (decide_eq_false (by omega)) ?_
      refine Run.skip ?_
      refine Run.seq ?_
      refine Run.region ?_
      refine Ops.pure rfl (Pure.assign rfl) ?_
      refine Ops.nil ?_
      refine Run.ret1 rfl rfl ?_
      have e : l = m := ext_getD 0 hlm (fun j hj => hinv0.2 j (by omega))
      rw [e, cpL_self]

set_option maxRecDepth 4000 in
/-- impl.ComparePanels -/
theorem f_i_ComparePanels (w : World) (a : Int) (b : Int) (v : Value) (l : List Int) (a' : Int) (b' : Int) (v' : Value) (l' : List Int) (hv : Rd w v 1 l.length (ints l)) (hv' : Rd w v' 1 l'.length (ints l')) (hlm : l.length = l'.length) (hl : l.length ≤ 1073741824) : RetV Try.prog 188 [.agg #[.int .i64 a, .int .i64 b, v], .agg #[.int .i64 a', .int .i64 b', v']] w (.int .i64 (cpP (a, b, l) (a', b', l'))) := by
  refine Ret.enter Try.func188 rfl Try.ntmps188 rfl ?_
  refine Run.seq ?_
  refine Run.region ?_
  refine Ops.go rfl (Loud.box rfl rfl) ?_
  rintro _ _ ⟨b2, rfl, rfl⟩
  refine Ops.go rfl (Loud.box rfl rfl) ?_
  rintro _ _ ⟨b3, rfl, rfl⟩
  refine Ops.pure rfl (Pure.assign rfl) ?_
  refine Ops.nil ?_
  refine Run.seq ?_
  refine Run.seq ?_
  refine Run.region ?_
  refine Ops.pure rfl (Pure.fieldAddrB fld35_0 rfl) ?_
  refine Ops.pure rfl (Pure.ldB 1 rfl cell2 rfl rfl) ?_
  refine Ops.pure rfl (Pure.fieldAddrB fld35_0 rfl) ?_
  refine Ops.pure rfl (Pure.ldB 0 rfl cell2 rfl rfl) ?_
  refine Ops.q rfl (QOp.call fn219 rfl (fun w hw => f_i_compare w _ _)) ?_
  refine Ops.pure rfl (Pure.assign rfl) ?_
  refine Ops.nil ?_
  refine Run.seq ?_
  refine Run.region ?_
  refine Ops.pure rfl (Pure.move rfl) ?_
  refine Ops.pure rfl (Pure.neq rfl rfl) ?_
  refine Ops.nil ?_
  refine Run.cond rfl (fun c13 => ?_) (fun c13 => ?_)
  · skip
    replace c13 := nT c13
    refine Run.seq ?_
    refine Run.region ?_
    refine Ops.pure rfl (Pure.move rfl) ?_
    refine Ops.pure rfl (Pure.assign rfl) ?_
    refine Ops.nil ?_
    refine Run.ret1 rfl rfl ?_
    unfold cpP
    first
      | (rw [if_neg (by assumption)])
      | (rw [if_pos (by omega), if_neg (by assumption)])
      | (rw [if_pos (by omega), if_pos (by omega)])
  · skip
    replace c13 := nF c13
    refine Run.skip ?_
    refine Run.seq ?_
    refine Run.seq ?_
    refine Run.region ?_
    refine Ops.pure rfl (Pure.fieldAddrB fld35_1 rfl) ?_
    refine Ops.pure rfl (Pure.ldB 1 rfl cell2 rfl rfl) ?_
    refine Ops.pure rfl (Pure.fieldAddrB fld35_1 rfl) ?_
    refine Ops.pure rfl (Pure.ldB 0 rfl cell2 rfl rfl) ?_
    refine Ops.q rfl (QOp.call fn219 rfl (fun w hw => f_i_compare w _ _)) ?_
    refine Ops.pure rfl (Pure.assign rfl) ?_
    refine Ops.nil ?_
    refine Run.seq ?_
    refine Run.region ?_
    refine Ops.pure rfl (Pure.move rfl) ?_
    refine Ops.pure rfl (Pure.neq rfl rfl) ?_
    refine Ops.nil ?_
    refine Run.cond rfl (fun c21 => ?_) (fun c21 => ?_)
    · skip
      replace c21 := nT c21
      refine Run.seq ?_
      refine Run.region ?_
      refine Ops.pure rfl (Pure.move rfl) ?_
      refine Ops.pure rfl (Pure.assign rfl) ?_
      refine Ops.nil ?_
      refine Run.ret1 rfl rfl ?_
      unfold cpP
      first
        | (rw [if_neg (by assumption)])
        | (rw [if_pos (by omega), if_neg (by assumption)])
        | (rw [if_pos (by omega), if_pos (by omega)])
    · skip
      replace c21 := nF c21
      refine Run.skip ?_
      refine Run.seq ?_
      refine Run.region ?_
      refine Ops.pure rfl (Pure.fieldAddrB fld35_2 rfl) ?_
      refine Ops.pure rfl (Pure.ldB 1 rfl cell32 rfl rfl) ?_
      refine Ops.pure rfl (Pure.fieldAddrB fld35_2 rfl) ?_
      refine Ops.pure rfl (Pure.ldB 0 rfl cell32 rfl rfl) ?_
      refine Ops.q rfl (QOp.call fn205 rfl (fun w hw => f_slices_Compare_int64_int64 w _ _ _ _ (by exact RdL.old (by assumption) w hw) (by exact RdL.old (by assumption) w hw) (by assumption) (by assumption))) ?_
      refine Ops.pure rfl (Pure.assign rfl) ?_
      refine Ops.nil ?_
      refine Run.ret1 rfl rfl ?_
      unfold cpP
      first
        | (rw [if_neg (by assumption)])
        | (rw [if_pos (by omega), if_neg (by assumption)])
        | (rw [if_pos (by omega), if_pos (by omega)])

set_option maxRecDepth 4000 in
/-- impl.canonical -/
theorem f_i_canonical (w : World) (a : Int) (b : Int) (v : Value) (l : List Int) (hv : Rd w v 1 l.length (ints l)) (hk : okP a b l = true) : Ret Try.prog 113 [.agg #[.int .i64 a, .int .i64 b, v]] w (fun u L => ∃ x, x.oneCell' = true ∧ u = .agg #[.int .i64 (caTo a b l 7).1, .int .i64 (caTo a b l 7).2.1, x] ∧ L = [.row 2 1 x (inn a b) (ints (caTo a b l 7).2.2)]) := by
  have hs := okP_size hk
  have hib := (inn_eq hs).2.1
  have hli := okP_inn hk
  refine Ret.enter Try.func113 rfl Try.ntmps113 rfl ?_
  refine Run.seq ?_
  refine Run.region ?_
  refine Ops.go rfl (Loud.box rfl rfl) ?_
  rintro _ _ ⟨b1, rfl, rfl⟩
  refine Ops.go rfl (Loud.alloc zero35 rfl) ?_
  rintro _ _ ⟨b2, rfl, rfl⟩
  refine Ops.nil ?_
  refine Run.seq ?_
  refine Run.region ?_
  refine Ops.pure rfl (Pure.ldBA 1 rfl cell35 rfl rfl rfl) ?_
  refine Ops.go rfl (Loud.callR fn187 rfl (fun w hw => f_i_mapPanel w a b v l 0 (RdL.old hv w hw) hk (by decide))) ?_
  rintro v7 _ ⟨L7, hQ7, rfl⟩
  obtain ⟨x7, h7, rfl, rfl⟩ := hQ7
  refine Ops.go rfl (Loud.alloc zero35 rfl) ?_
  rintro _ _ ⟨b3, rfl, rfl⟩
  refine Ops.store (Stores.box 0 rfl rfl rfl size35 (one3 h7) rfl rfl) ?_
  refine Ops.nil ?_
  refine Run.seq ?_
  refine Run.seq ?_
  refine Run.region ?_
  refine Ops.pure rfl (Pure.assign rfl) ?_
  refine Ops.nil ?_
  refine Run.block ?_
  refine Run.loop2 (X := Nat) (Y := Value) (fun k xb => [(1, .pointer (some ⟨b1, 0, none⟩)), (2, .pointer (some ⟨b2, 0, none⟩)), (3, .pointer (some ⟨b3, 0, none⟩)), (4, .int .i64 ((k + 1 : Nat) : Int))]) (fun k xb => [.box b3 35 [.int .i64 (caTo a b l k).1, .int .i64 (caTo a b l k).2.1, xb], .row 2 1 xb (inn a b) (ints (caTo a b l k).2.2), .box b1 35 [.int .i64 a, .int .i64 b, v], .box b2 35 [.int .i64 0, .int .i64 0, .slice none 0 0]]) (fun k xb => xb.oneCell' = true ∧ k ≤ 7) (fun k xb => 7 - k) 0 x7 ?_ ?_ ?_ ?_
  · exact ⟨h7, Nat.zero_le _⟩
  · exact ⟨rfl, rfl, rfl, rfl, trivial⟩
  · exact Ext.take 0 rfl (Ext.take 0 rfl (Ext.take 1 rfl (Ext.take 0 rfl (Ext.nil _))))
  · intro k xb hinv0
    obtain ⟨hxb, hk7⟩ := id hinv0
    have hcl := caTo_len a b l k
    have hml := length_mapL (k + 1) a b l
    refine Run.seq ?_
    refine Run.seq ?_
    refine Run.region ?_
    refine Ops.pure rfl (Pure.move rfl) ?_
    refine Ops.pure rfl (Pure.leq rfl rfl) ?_
    refine Ops.nil ?_
    refine Run.cond rfl (fun c9 => ?_) (fun c9 => ?_)
    · skip
      replace c9 := dT c9
      refine Run.skip ?_
      refine Run.seq ?_
      refine Run.block ?_
      refine Run.seq ?_
      refine Run.region ?_
      refine Ops.pure rfl (Pure.ldBA 2 rfl cell35 rfl rfl rfl) ?_
      refine Ops.pure rfl (Pure.move rfl) ?_
      refine Ops.go rfl (Loud.callR fn187 rfl (fun w hw => f_i_mapPanel w a b v l (k + 1) (RdL.old hv w hw) hk (by omega))) ?_
      rintro v14 _ ⟨L14, hQ14, rfl⟩
      obtain ⟨x14, h14, rfl, rfl⟩ := hQ14
      refine Ops.go rfl (Loud.alloc zero35 rfl) ?_
      rintro _ _ ⟨b5, rfl, rfl⟩
      refine Ops.store (Stores.box 0 rfl rfl rfl size35 (one3 h14) rfl rfl) ?_
      refine Ops.nil ?_
      refine Run.seq ?_
      refine Run.region ?_
      refine Ops.pure rfl (Pure.ldBA 0 rfl cell35 rfl rfl rfl) ?_
      refine Ops.pure rfl (Pure.ldBA 2 rfl cell35 rfl rfl rfl) ?_
      refine Ops.q rfl (QOp.call fn188 rfl (fun w hw => f_i_ComparePanels w (mpA (k + 1) a b) (mpB (k + 1) a b) x14 (mapL (k + 1) a b l) (caTo a b l k).1 (caTo a b l k).2.1 xb (caTo a b l k).2.2 (by rw [hml]; exact RdL.own 1 rfl w hw) (by rw [hcl]; exact RdL.own 3 rfl w hw) (by omega) (by omega))) ?_
      refine Ops.pure rfl (Pure.lss rfl rfl) ?_
      refine Ops.nil ?_
      refine Run.cond rfl (fun c18 => ?_) (fun c18 => ?_)
      · skip
        replace c18 := dT c18
        refine Run.region ?_
        refine Ops.pure rfl (Pure.ldBA 0 rfl cell35 rfl rfl rfl) ?_
        refine Ops.store (Stores.box 2 rfl rfl rfl size35 (one3 h14) rfl rfl) ?_
        refine Ops.nil ?_
        refine Run.blk ?_
        refine Run.region ?_
        refine Ops.pure rfl (Pure.move rfl) ?_
        refine Ops.pure rfl (Pure.add rfl rfl (by omega) (by omega)) ?_
        refine Ops.pure rfl (Pure.assign rfl) ?_
        refine Ops.nil ?_
        refine Run.asrt ?_
        first
          | (refine ⟨k + 1, x14, ⟨⟨h14, by omega⟩, by omega⟩, ⟨rfl, rfl, rfl, rfl, trivial⟩, ?_⟩
             rw [caTo_yes c18]
             exact Ext.take 2 rfl (Ext.take 1 rfl (Ext.take 2 rfl (Ext.take 2 rfl (Ext.nil _)))))
          | (refine ⟨k + 1, xb, ⟨⟨hxb, by omega⟩, by omega⟩, ⟨rfl, rfl, rfl, rfl, trivial⟩, ?_⟩
             rw [caTo_no c18]
             exact Ext.take 2 rfl (Ext.take 2 rfl (Ext.take 2 rfl (Ext.take 2 rfl (Ext.nil _)))))
      · skip
        replace c18 := dF c18
        refine Run.skip ?_
        refine Run.blk ?_
        refine Run.region ?_
        refine Ops.pure rfl (Pure.move rfl) ?_
        refine Ops.pure rfl (Pure.add rfl rfl (by omega) (by omega)) ?_
        refine Ops.pure rfl (Pure.assign rfl) ?_
        refine Ops.nil ?_
        refine Run.asrt ?_
        first
          | (refine ⟨k + 1, x14, ⟨⟨h14, by omega⟩, by omega⟩, ⟨rfl, rfl, rfl, rfl, trivial⟩, ?_⟩
             rw [caTo_yes c18]
             exact Ext.take 2 rfl (Ext.take 1 rfl (Ext.take 2 rfl (Ext.take 2 rfl (Ext.nil _)))))
          | (refine ⟨k + 1, xb, ⟨⟨hxb, by omega⟩, by omega⟩, ⟨rfl, rfl, rfl, rfl, trivial⟩, ?_⟩
             rw [caTo_no c18]
             exact Ext.take 2 rfl (Ext.take 2 rfl (Ext.take 2 rfl (Ext.take 2 rfl (Ext.nil _)))))
    · skip
      replace c9 := dF c9
      refine Run.exit rfl ?_
      refine Run.seq ?_
      have e : k = 7 := by omega
      subst e
      refine Run.region ?_
      refine Ops.pure rfl (Pure.ldBA 0 rfl cell35 rfl rfl rfl) ?_
      refine Ops.store (Stores.box 3 rfl rfl rfl size35 (one3 hxb) rfl rfl) ?_
      refine Ops.nil ?_
      refine Run.retCx 3 rfl rfl rfl cell35 rfl (Ext.take 1 rfl (Ext.nil _)) ?_
      exact ⟨xb, hxb, rfl, rfl⟩

end Go.Proofs.Ytmfinopdokkjcaa
