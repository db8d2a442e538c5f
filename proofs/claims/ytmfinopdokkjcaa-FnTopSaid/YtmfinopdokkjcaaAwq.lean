/- Structs of integers compared. No statement of the seat is proved here. -/
import Derived.Test.YtmfinopdokkjcaaAwt
import Derived.Laws.StructEq
import Derived.Laws.Small
namespace Go.AW
open Go Go.RowKit
set_option linter.unusedVariables false
set_option linter.unusedSimpArgs false

/-- A struct of two integers. -/
structure EqT2 (P : Program) (T : Nat) : Prop where
  eq : ∀ (d : Nat) (w : World) (x y x' y' : Int), (Op.equalIn (d + 2) T (.agg #[.int .i64 x, .int .i64 y]) (.agg #[.int .i64 x', .int .i64 y'])).run P w = .ok (decide (x = x' ∧ y = y')) w
  guard : P.eqGuardType P.depth T = false
/-- A struct of such a one and two integers. -/
structure EqT4 (P : Program) (T : Nat) : Prop where
  eq : ∀ (d : Nat) (w : World) (x y u v x' y' u' v' : Int), (Op.equalIn (d + 3) T (.agg #[.int .i64 x, .int .i64 y, .int .i64 u, .int .i64 v]) (.agg #[.int .i64 x', .int .i64 y', .int .i64 u', .int .i64 v'])).run P w = .ok (decide (x = x' ∧ y = y' ∧ u = u' ∧ v = v')) w
  guard : P.eqGuardType P.depth T = false

theorem part_one {P : Program} {t : Nat} (h : cellT P t = some none) (w : World) (xs : Array Value) (o : Nat) (v : Value) (hv : xs[o]? = some v) : (part t xs o).run P w = .ok v w := by
  obtain ⟨h1, _⟩ := cellT_one h w
  simp [part, h1, hv]
theorem part_agg {P : Program} {t m : Nat} (h : cellT P t = some (some m)) (w : World) (xs : Array Value) (o : Nat) : (part t xs o).run P w = .ok (.agg (xs.extract o (o + m))) w := by
  obtain ⟨h1, h2⟩ := cellT_agg h w
  simp [part, h1, h2]

theorem eqFields_step {P : Program} (d : Nat) (w : World) (xs ys : Array Value) (f : Field) (fs : List Field) (a b : Value) (r : Bool) (hn : (f.name == "_") = false) (ha : (part f.type xs f.offset).run P w = .ok a w) (hb : (part f.type ys f.offset).run P w = .ok b w) (hr : (Op.equalIn d f.type a b).run P w = .ok r w) :
    (Op.eqFields d xs ys (f :: fs)).run P w = if r then (Op.eqFields d xs ys fs).run P w else .ok false w := by
  have hne : f.name ≠ "_" := by simpa using hn
  simp only [Op.eqFields, if_pos hne, Sem.run_bind, ha, hb, hr, Result.andThen_ok]
  cases r <;> simp

theorem EqT2.mk' {P : Program} {T : Nat} {f0 f1 : Field} (hu : P.underlying T = some (.struct #[f0, f1])) (hp : P.stoodInHeld T = false) (hg : P.eqGuardType P.depth T = false) (n0 : (f0.name == "_") = false) (n1 : (f1.name == "_") = false)
    (o0 : f0.offset = 0) (o1 : f1.offset = 1) (t0 : P.underlying f0.type = some (.int .i64)) (t1 : P.underlying f1.type = some (.int .i64)) (c0 : cellT P f0.type = some none) (c1 : cellT P f1.type = some none) : EqT2 P T := by
  refine ⟨fun d w x y x' y' => ?_, hg⟩
  have hf : P.fieldsOf T = #[f0, f1] := by simp [Program.fieldsOf, hu]
  rw [run_equalIn_struct (P := P) w (d + 1) T _ _ (by rw [hf]; exact hu) hp, hf]
  show (Op.eqFields (d + 1) _ _ [f0, f1]).run P w = _
  rw [eqFields_step (d + 1) w _ _ f0 [f1] (.int .i64 x) (.int .i64 x') (x == x') n0 (part_one c0 w _ _ _ (by rw [o0]; rfl)) (part_one c0 w _ _ _ (by rw [o0]; rfl)) (run_equalIn_int w d _ _ _ x x' t0),
    eqFields_step (d + 1) w _ _ f1 [] (.int .i64 y) (.int .i64 y') (y == y') n1 (part_one c1 w _ _ _ (by rw [o1]; rfl)) (part_one c1 w _ _ _ (by rw [o1]; rfl)) (run_equalIn_int w d _ _ _ y y' t1)]
  by_cases e1 : x = x' <;> by_cases e2 : y = y' <;> simp [e1, e2, Op.eqFields]
theorem EqT4.mk' {P : Program} {T : Nat} {f0 f1 f2 : Field} (hu : P.underlying T = some (.struct #[f0, f1, f2])) (hp : P.stoodInHeld T = false) (hg : P.eqGuardType P.depth T = false) (n0 : (f0.name == "_") = false) (n1 : (f1.name == "_") = false) (n2 : (f2.name == "_") = false)
    (o0 : f0.offset = 0) (o1 : f1.offset = 2) (o2 : f2.offset = 3) (h0 : EqT2 P f0.type) (t1 : P.underlying f1.type = some (.int .i64)) (t2 : P.underlying f2.type = some (.int .i64)) (c0 : cellT P f0.type = some (some 2)) (c1 : cellT P f1.type = some none) (c2 : cellT P f2.type = some none) : EqT4 P T := by
  refine ⟨fun d w x y u v x' y' u' v' => ?_, hg⟩
  have hf : P.fieldsOf T = #[f0, f1, f2] := by simp [Program.fieldsOf, hu]
  rw [run_equalIn_struct (P := P) w (d + 2) T _ _ (by rw [hf]; exact hu) hp, hf]
  show (Op.eqFields (d + 2) _ _ [f0, f1, f2]).run P w = _
  rw [eqFields_step (d + 2) w _ _ f0 [f1, f2] (.agg #[.int .i64 x, .int .i64 y]) (.agg #[.int .i64 x', .int .i64 y']) (decide (x = x' ∧ y = y')) n0 (by rw [part_agg c0, o0]; rfl) (by rw [part_agg c0, o0]; rfl) (h0.eq d w x y x' y'),
    eqFields_step (d + 2) w _ _ f1 [f2] (.int .i64 u) (.int .i64 u') (u == u') n1 (part_one c1 w _ _ _ (by rw [o1]; rfl)) (part_one c1 w _ _ _ (by rw [o1]; rfl)) (run_equalIn_int w (d + 1) _ _ _ u u' t1),
    eqFields_step (d + 2) w _ _ f2 [] (.int .i64 v) (.int .i64 v') (v == v') n2 (part_one c2 w _ _ _ (by rw [o2]; rfl)) (part_one c2 w _ _ _ (by rw [o2]; rfl)) (run_equalIn_int w (d + 1) _ _ _ v v' t2)]
  by_cases e1 : x = x' <;> by_cases e2 : y = y' <;> by_cases e3 : u = u' <;> by_cases e4 : v = v' <;> simp [e1, e2, e3, e4, Op.eqFields]

section
variable {P : Program} {N : Nat} {w0 : World} {s : Fr} {L : List Ent} {d : Option Nat} {ty : TypeId} {pos : String} {aft : Array Edge} {g : Option (Nat × Bool)} {T T' : Nat} {p q : Operand} {x y u v x' y' u' v' : Int}
theorem Pure.neq2 (hT : EqT2 P T) (hx : ev s p = some (.agg #[.int .i64 x, .int .i64 y])) (hy : ev s q = some (.agg #[.int .i64 x', .int .i64 y'])) : Pure P N w0 s L ⟨d, .binOp .neq T p q T', ty, pos, aft, g⟩ (.bool (!decide (x = x' ∧ y = y'))) := by
  intro A w ha _
  simp [execOp, ha.ev hx, ha.ev hy, run_eqGuard_agg (hm := hT.guard), run_neq_struct, hT.eq]
theorem Pure.neq4 (hT : EqT4 P T) (hx : ev s p = some (.agg #[.int .i64 x, .int .i64 y, .int .i64 u, .int .i64 v])) (hy : ev s q = some (.agg #[.int .i64 x', .int .i64 y', .int .i64 u', .int .i64 v'])) : Pure P N w0 s L ⟨d, .binOp .neq T p q T', ty, pos, aft, g⟩ (.bool (!decide (x = x' ∧ y = y' ∧ u = u' ∧ v = v'))) := by
  intro A w ha _
  simp [execOp, ha.ev hx, ha.ev hy, run_eqGuard_agg (hm := hT.guard), run_neq_struct, hT.eq]
theorem Pure.minI {k : IntKind} (hx : ev s p = some (.int k x)) (hy : ev s q = some (.int k y)) : Pure P N w0 s L ⟨d, .call { callee := .builtin .min, args := #[p, q], argTypes := #[T, T'] }, ty, pos, aft, g⟩ (.int k (min x y)) := by
  intro A w ha _
  have e : min x y = if y < x then y else x := by split <;> omega
  rw [e]
  simp [execOp, ha.ev hx, ha.ev hy, resolve, invoke, builtin, run_min_int2]
theorem Pure.maxI {k : IntKind} (hx : ev s p = some (.int k x)) (hy : ev s q = some (.int k y)) : Pure P N w0 s L ⟨d, .call { callee := .builtin .max, args := #[p, q], argTypes := #[T, T'] }, ty, pos, aft, g⟩ (.int k (max x y)) := by
  intro A w ha _
  have e : max x y = if x < y then y else x := by split <;> omega
  rw [e]
  simp [execOp, ha.ev hx, ha.ev hy, resolve, invoke, builtin, run_max_int2]
end
end Go.AW
