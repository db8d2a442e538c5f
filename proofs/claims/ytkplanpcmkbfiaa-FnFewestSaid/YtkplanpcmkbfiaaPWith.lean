/- Contracts of functions, printed by program from annotations. -/
import Derived.Test.YtkplanpcmkbfiaaLawN
namespace Go.Proofs.Ytkplanpcmkbfiaa
open Go Go.AW Go.RowKit
set_option linter.unusedVariables false
set_option linter.unusedSimpArgs false

def pdig (m : Nat) : Nat → List Int
  | 0 => []
  | j + 1 => ((m / p3 j % 3 : Nat) : Int) :: pdig m j
theorem length_pdig (m : Nat) : ∀ j, (pdig m j).length = j
  | 0 => rfl
  | j + 1 => by simp [pdig, length_pdig m j]
theorem pdig_step {m n j : Nat} (h : j < n) : (List.replicate (n - j) (0 : Int) ++ pdig m j).set (n - 1 - j) ((m / p3 j % 3 : Nat) : Int) = List.replicate (n - (j + 1)) 0 ++ pdig m (j + 1) := by
  have e : n - j = (n - 1 - j) + 1 := by omega
  rw [e, show n - (j + 1) = n - 1 - j by omega, List.set_append, if_pos (by simp), List.replicate_succ', List.set_append, if_neg (by simp)]
  simp [pdig]
theorem div_p3 (m j : Nat) : m / p3 j / 3 = m / p3 (j + 1) := by rw [p3_succ, Nat.div_div_eq_div_mul, Nat.mul_comm]

set_option maxRecDepth 4000 in
/-- spec.l02New -/
theorem f_s_l02New (w : World) (a : Int) (b : Int) (hs : SizeOk a b) : Ret Try.prog 83 [.int .i64 a, .int .i64 b] w (fun u L => ∃ x, x.oneCell' = true ∧ u = .agg #[.int .i64 a, .int .i64 b, x] ∧ L = [.row 2 1 x (inn a b) (ints (List.replicate (inn a b) 0))]) := by
  have hin := inn_eq hs
  obtain ⟨hs1, hs2, hs3, hs4⟩ := id hs
  refine Ret.enter Try.func83 rfl Try.ntmps83 rfl ?_
  refine Run.seq ?_
  refine Run.region ?_
  refine Ops.go rfl (Loud.alloc zero28 rfl) ?_
  rintro _ _ ⟨b4, rfl, rfl⟩
  refine Ops.nil ?_
  refine Run.seq ?_
  refine Run.region ?_
  refine Ops.pure rfl (Pure.move rfl) ?_
  refine Ops.pure rfl (Pure.move rfl) ?_
  refine Ops.pure rfl (Pure.move rfl) ?_
  refine Ops.pure rfl (Pure.move rfl) ?_
  refine Ops.q rfl (QOp.call fn130 rfl (fun w hw => f_s_l02Inner w _ _ (by assumption))) ?_
  refine Ops.go rfl (Loud.make sl22 rfl rfl (by omega) (by omega)) ?_
  rintro v10 _ rfl
  refine Ops.have_ (fun w hw => row_one 0 hw rfl) (fun h10 => ?_)
  refine Ops.pure rfl (Pure.build rfl (bld28_3 _ _ _ (by first | rfl | assumption) (by first | rfl | assumption) (by first | rfl | assumption))) ?_
  refine Ops.store (Stores.box 1 rfl rfl rfl size28 (one3 h10) rfl rfl) ?_
  refine Ops.nil ?_
  refine Run.retCx 1 rfl rfl rfl cell28 rfl (Ext.take 0 rfl (Ext.nil _)) ?_
  exact ⟨v10, h10, rfl, by rw [made_one _ rfl]; simp [ints]⟩

def pwE (a b c : Int) : Int := if pcE a b = 0 then (if 0 ≤ c ∧ c ≤ pcN a b - 1 then 0 else 3) else pcE a b
theorem pwE_many {a b c : Int} (h : ¬ pcE a b = 0) : pwE a b c = pcE a b := by unfold pwE; rw [if_neg h]
theorem pwE_out {a b c : Int} (h : pcE a b = 0) (hc : ¬ (0 ≤ c ∧ c ≤ pcN a b - 1)) : pwE a b c = 3 := by unfold pwE; rw [if_pos h, if_neg hc]
theorem pwE_ok {a b c : Int} (h : pcE a b = 0) (hc : 0 ≤ c ∧ c ≤ pcN a b - 1) : pwE a b c = 0 := by unfold pwE; rw [if_pos h, if_pos hc]
def pwL (a b c : Int) : List Int := if pwE a b c = 0 then pdig c.toNat (inn a b) else []
def pwZ (a b c x : Int) : Int := if pwE a b c = 0 then x else 0
/-- What a call gives that returns a panel of its own and an error. -/
def retP (a b : Int) (l : List Int) (e : Int) : Value → List Ent → Prop := fun u L => ∃ x, x.oneCell' = true ∧ u = .tuple #[.agg #[.int .i64 a, .int .i64 b, x], .int .i64 e] ∧ L = [.row 2 1 x l.length (ints l)]
theorem retP_bad {a b c e : Int} (h : pwE a b c = e) (he : ¬ e = 0) : retP (pwZ a b c a) (pwZ a b c b) (pwL a b c) (pwE a b c) (.tuple #[.agg #[.int .i64 0, .int .i64 0, .slice none 0 0], .int .i64 e]) [.row 2 1 (.slice none 0 0) 0 []] := by
  have h0 : ¬ pwE a b c = 0 := by rw [h]; exact he
  unfold pwZ pwL
  rw [if_neg h0, if_neg h0, if_neg h0, h]
  exact ⟨_, rfl, rfl, rfl⟩
theorem retP_ok {a b : Int} {m : Nat} {x : Value} (h : pwE a b m = 0) (hx : x.oneCell' = true) : retP (pwZ a b m a) (pwZ a b m b) (pwL a b m) (pwE a b m) (.tuple #[.agg #[.int .i64 a, .int .i64 b, x], .int .i64 0]) [.row 2 1 x (inn a b) (ints (pdig m (inn a b)))] := by
  unfold pwZ pwL
  rw [if_pos h, if_pos h, if_pos h, h]
  exact ⟨_, hx, rfl, by rw [Int.toNat_natCast, length_pdig]⟩

end Go.Proofs.Ytkplanpcmkbfiaa
