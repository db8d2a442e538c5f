/- Contracts of functions, printed by program from annotations. -/
import Derived.Test.YtmfinopdokkjcaaAwv
import Derived.Test.YtmfinopdokkjcaaSize
import Derived.Shelf.SlSortCmp.Whole1
namespace Go.Proofs.Ytmfinopdokkjcaa
open Go Go.AW Go.RowKit
set_option linter.unusedVariables false
set_option linter.unusedSimpArgs false

/-! ### Walks in one world that stays as it is -/
def postX (P : Program) (N : Nat) (W : World) (R : Exit → Act → World → Prop) : List It → Exit → Act → World → Prop
  | [] => R
  | .code c :: k => Exit.then (fun a w => c.wp P (postX P N W R k) a w) (postX P N W R k)
  | .blk id :: k => Exit.inBlock id (postX P N W R k)
  | .asrt Q :: k => Exit.then (fun a w => w = W ∧ ∃ s, FrOK N s a ∧ Q s []) (postX P N W R k)
def RunX (P : Program) (N : Nat) (W : World) (R : Exit → Act → World → Prop) (k : List It) (s : Fr) : Prop := ∀ a, FrOK N s a → postX P N W R k .normal a W
def OpsX (P : Program) (N : Nat) (W : World) (R : Exit → Act → World → Prop) (all : Array Oper) (ops : List Oper) (k : List It) (s : Fr) : Prop := ∀ a, FrOK N s a → wpList P all (postX P N W R k) ops a W
/-- the call returns a value and turns nothing at all -/
def ExV (P : Program) (f : FuncId) (vs : List Value) (W : World) (v : Value) : Prop := Calls P f vs.toArray W fun e w' => e = .returned v ∧ w' = W
section
variable {P : Program} {N : Nat} {W : World} {R : Exit → Act → World → Prop} {k : List It} {s : Fr} {fn : Func} {f : FuncId} {vs : List Value} {v : Value}
variable {ty : TypeId} {pos : String} {aft : Array Edge}
theorem RunX.seq {x y : Code} (h : RunX P N W R (.code x :: .code y :: k) s) : RunX P N W R (.code (.seq x y) :: k) s := fun a ha => wp_seq (h a ha)
theorem RunX.skip (h : RunX P N W R k s) : RunX P N W R (.code .skip :: k) s := fun a ha => wp_skip (h a ha)
theorem RunX.block {id : Nat} {c : Code} (h : RunX P N W R (.code c :: .blk id :: k) s) : RunX P N W R (.code (.block id c) :: k) s := fun a ha => wp_block (h a ha)
theorem RunX.blk {id : Nat} (h : RunX P N W R k s) : RunX P N W R (.blk id :: k) s := fun a ha => h a ha
theorem RunX.asrt {Q : Fr → List Ent → Prop} (h : Q s []) : RunX P N W R (.asrt Q :: k) s := fun _ ha => ⟨rfl, s, ha, h⟩
theorem RunX.cond {c : Operand} {x y : Code} {b : Bool} (hc : ev s c = some (.bool b)) (ht : b = true → RunX P N W R (.code x :: k) s) (hf : b = false → RunX P N W R (.code y :: k) s) : RunX P N W R (.code (.cond c x y) :: k) s :=
  fun a ha => wp_cond_split (ha.ev hc) (fun h => ht h a ha) (fun h => hf h a ha)
theorem postX_exit (id : Nat) : ∀ (k k' : List It), pop id k = some k' → ∀ a w, postX P N W R k' .normal a w → postX P N W R k (.exit id) a w
  | [], k', h, _, _, _ => by cases h
  | .blk j :: k, k', h, a, w, hq => by
    simp only [pop] at h
    by_cases e : id = j
    · subst e
      rw [Nat.beq_refl] at h
      have h' : k = k' := Option.some.inj h
      subst h'
      simpa [postX, Exit.inBlock] using hq
    · have hb : Nat.beq id j = false := by
        cases hh : Nat.beq id j with
        | false => rfl
        | true => exact absurd (Nat.eq_of_beq_eq_true hh) e
      rw [hb] at h
      simp only [postX, Exit.inBlock, e, if_false]
      exact postX_exit id k k' h a w hq
  | .code c :: k, k', h, a, w, hq => postX_exit id k k' h a w hq
  | .asrt Q :: k, k', h, a, w, hq => postX_exit id k k' h a w hq
theorem RunX.exit {id : Nat} {k' : List It} (hp : pop id k = some k') (h : RunX P N W R k' s) : RunX P N W R (.code (.exit id) :: k) s := fun a ha => wp_exit (postX_exit id k k' hp a W (h a ha))
theorem postX_ret : ∀ (k : List It) a w, R .ret a w → postX P N W R k .ret a w
  | [], _, _, h => h
  | .blk _ :: k, a, w, h => postX_ret k a w h
  | .code _ :: k, a, w, h => postX_ret k a w h
  | .asrt _ :: k, a, w, h => postX_ret k a w h
theorem RunX.loop {X : Type} {c : Code} (fr : X → Fr) (inv : X → Prop) (μ : X → Nat) (x0 : X) (h0 : inv x0) (hs : Sub (fr x0) s)
    (round : ∀ x, inv x → RunX P N W R (.code c :: .asrt (fun s' _ => ∃ x', (inv x' ∧ μ x' < μ x) ∧ Sub (fr x') s') :: k) (fr x)) : RunX P N W R (.code (.loop c) :: k) s := by
  intro a ha
  refine wp_loop_ghost (fun n a w => ∃ x, μ x = n ∧ inv x ∧ FrOK N (fr x) a ∧ w = W) (μ x0) ⟨x0, rfl, h0, ha.sub hs, rfl⟩ ?_
  rintro n a w ⟨x, rfl, hx, ha, rfl⟩
  refine wp_mono (round x hx a ha) fun e a' w' hq => ?_
  cases e with
  | normal =>
    obtain ⟨rfl, s', ha', x', ⟨hx', hlt⟩, hs'⟩ := hq
    exact ⟨μ x', hlt, x', rfl, hx', ha'.sub hs', rfl⟩
  | exit id => exact hq
  | goto l => exact hq
  | ret => exact hq
  | panic ch => exact hq
  | outgrown => exact hq
theorem RunX.condE {c : Operand} {x y : Code} {b : Bool} (hc : ev s c = some (.bool b)) (hb : b = true) (ht : RunX P N W R (.code x :: k) s) : RunX P N W R (.code (.cond c x y) :: k) s :=
  RunX.cond hc (fun _ => ht) (fun h => by rw [hb] at h; cases h)
theorem RunX.condEF {c : Operand} {x y : Code} {b : Bool} (hc : ev s c = some (.bool b)) (hb : b = false) (ht : RunX P N W R (.code y :: k) s) : RunX P N W R (.code (.cond c x y) :: k) s :=
  RunX.cond hc (fun h => by rw [hb] at h; cases h) (fun _ => ht)
theorem RunX.region {id : Nat} {l : List Oper} (h : OpsX P N W R l.toArray l k s) : RunX P N W R (.code (.region id l.toArray false) :: k) s := fun a ha => wp_region_lit (h a ha)
theorem OpsX.nil {all : Array Oper} (h : RunX P N W R k s) : OpsX P N W R all [] k s := fun a ha => wpList_nil (h a ha)
theorem OpsX.pure {all : Array Oper} {rest : List Oper} {dd : Nat} {op : Op} {v : Value} (hN : Nat.blt dd N = true) (hp : Pure P N W s [] ⟨some dd, op, ty, pos, aft, none⟩ v)
    (h : OpsX P N W R all rest k ((dd, v) :: s)) : OpsX P N W R all (⟨some dd, op, ty, pos, aft, none⟩ :: rest) k s := by
  intro a ha
  refine wpList_plain rfl fun K hK => ?_
  unfold Oper.wp
  rw [hp a W ha (Sat.refl W), Oper.upon_value]
  exact hK _ _ (h _ (ha.put hN v))
theorem OpsX.call {all : Array Oper} {rest : List Oper} {dd g : Nat} {l : List Operand} {us : List Value} {T : Array TypeId} {v : Value} (hN : Nat.blt dd N = true) (hf : FnOk P g) (hl : evs s l = some us) (hc : ExV P g us W v)
    (h : OpsX P N W R all rest k ((dd, v) :: s)) : OpsX P N W R all (⟨some dd, .call { callee := .value (.func g), args := l.toArray, argTypes := T }, ty, pos, aft, none⟩ :: rest) k s := by
  intro a ha
  refine wpList_plain rfl fun K hK => ?_
  unfold Oper.wp
  rw [run_call hf hl ha]
  refine Calls.mono hc ?_
  rintro e w' ⟨rfl, rfl⟩
  exact hK _ _ (h _ (ha.put hN v))
theorem RunX.ret1 {t : Nat} {u : Value} (hr : fn.results = #[.tmp t]) (hv : lk s t = some u) (h : u = v) : RunX P N W (bodyPost P fn fun e w' => e = .returned v ∧ w' = W) (.code .ret :: k) s :=
  fun a ha => wp_ret (postX_ret k a W (bodyPost_ret (results_tmp hr a.tmps P W) ha.defers ⟨by rw [ha.slot t u hv, h], rfl⟩))
theorem ExV.enter {c : Code} (hf : P.funcs[f]? = some fn) (hb : fn.body = some c) (hN : fn.ntmps = N) (hl : Nat.ble vs.length N = true)
    (h : RunX P N W (bodyPost P fn fun e w' => e = .returned v ∧ w' = W) [.code c] (fr0 0 vs)) : ExV P f vs W v := by
  refine calls_of_wp hf hb ?_
  refine h _ ⟨?_, rfl, fun n v hv => ?_⟩
  · have := Nat.le_of_ble_eq_true hl
    simp [hN]
    omega
  · obtain ⟨_, h2⟩ := lk_fr0 vs 0 n v hv
    simp only [Nat.sub_zero] at h2
    have hlt := (List.getElem?_eq_some_iff.1 h2).1
    rw [Array.getD_eq_getD_getElem?, Array.getElem?_append_left (by simpa using hlt)]
    simpa using congrArg (fun o => o.getD undef) h2
end

theorem fn241 : FnOk Try.prog 241 := ⟨_, Try.func241, by kernel_rfl, rfl⟩
theorem fn224 : FnOk Try.prog 224 := ⟨_, Try.func224, by kernel_rfl, rfl⟩

def cpI (x y : Int) : Int := if x < y then -1 else if y < x then 1 else 0
theorem cpI_zero {x y : Int} : cpI x y = 0 ↔ x = y := by
  unfold cpI
  split
  · omega
  · split <;> omega
def cpL : List Int → List Int → Int
  | [], [] => 0
  | [], _ :: _ => -1
  | _ :: _, [] => 1
  | x :: l, y :: m => if cpI x y = 0 then cpL l m else cpI x y
theorem cpL_at : ∀ {l m : List Int} {k : Nat}, k < l.length → k < m.length → (∀ j, j < k → l.getD j 0 = m.getD j 0) → ¬ cpI (l.getD k 0) (m.getD k 0) = 0 → cpL l m = cpI (l.getD k 0) (m.getD k 0)
  | [], _, _, h, _, _, _ => absurd h (Nat.not_lt_zero _)
  | _ :: _, [], _, _, h, _, _ => absurd h (Nat.not_lt_zero _)
  | x :: l, y :: m, 0, _, _, _, h => by
    exact if_neg h
  | x :: l, y :: m, k + 1, h1, h2, he, h => by
    have h0 : x = y := he 0 (Nat.succ_pos _)
    show (if cpI x y = 0 then cpL l m else cpI x y) = _
    rw [if_pos (cpI_zero.2 h0)]
    exact cpL_at (Nat.lt_of_succ_lt_succ h1) (Nat.lt_of_succ_lt_succ h2) (fun j hj => he (j + 1) (by omega)) h
theorem cpL_eq : ∀ {l m : List Int}, l.length = m.length → (∀ j, j < l.length → l.getD j 0 = m.getD j 0) → cpL l m = 0
  | [], [], _, _ => rfl
  | [], _ :: _, h, _ => by simp at h
  | _ :: _, [], h, _ => by simp at h
  | x :: l, y :: m, h, he => by
    have h0 : x = y := he 0 (by simp)
    show (if cpI x y = 0 then cpL l m else cpI x y) = _
    rw [if_pos (cpI_zero.2 h0)]
    exact cpL_eq (by simpa using h) (fun j hj => he (j + 1) (by simp only [List.length_cons]; omega))
theorem cpL_neg : ∀ {l m : List Int}, cpL l m < 0 → cpL m l > 0
  | [], [], h => by exact absurd h (by decide)
  | [], _ :: _, _ => by show (1 : Int) > 0; decide
  | _ :: _, [], h => absurd h (by show ¬ (1 : Int) < 0; decide)
  | x :: l, y :: m, h => by
    show (if cpI y x = 0 then cpL m l else cpI y x) > 0
    have h' : (if cpI x y = 0 then cpL l m else cpI x y) < 0 := h
    by_cases e : x = y
    · subst e
      rw [if_pos (cpI_zero.2 rfl)] at h' ⊢
      exact cpL_neg h'
    · rw [if_neg (fun hh => e (cpI_zero.1 hh))] at h'
      rw [if_neg (fun hh => e (cpI_zero.1 hh).symm)]
      unfold cpI at *
      split at h' <;> split <;> omega
theorem cpL_trans : ∀ {l m n : List Int}, cpL l m ≤ 0 → cpL m n < 0 → cpL l n < 0
  | [], [], [], _, h => absurd h (by decide)
  | [], _ :: _, [], _, h => absurd h (by show ¬ (1 : Int) < 0; decide)
  | [], [], _ :: _, _, _ => by show (-1 : Int) < 0; decide
  | [], _ :: _, _ :: _, _, _ => by show (-1 : Int) < 0; decide
  | _ :: _, [], _, h, _ => absurd h (by show ¬ (1 : Int) ≤ 0; decide)
  | _ :: _, _ :: _, [], _, h => absurd h (by show ¬ (1 : Int) < 0; decide)
  | x :: l, y :: m, z :: n, h1, h2 => by
    have h1' : (if cpI x y = 0 then cpL l m else cpI x y) ≤ 0 := h1
    have h2' : (if cpI y z = 0 then cpL m n else cpI y z) < 0 := h2
    show (if cpI x z = 0 then cpL l n else cpI x z) < 0
    by_cases e1 : x = y
    · subst e1
      rw [if_pos (cpI_zero.2 rfl)] at h1'
      by_cases e2 : x = z
      · subst e2
        rw [if_pos (cpI_zero.2 rfl)] at h2' ⊢
        exact cpL_trans h1' h2'
      · rw [if_neg (fun hh => e2 (cpI_zero.1 hh))] at h2' ⊢
        exact h2'
    · rw [if_neg (fun hh => e1 (cpI_zero.1 hh))] at h1'
      have hxy : x < y := by unfold cpI at h1'; split at h1' <;> first | assumption | (split at h1' <;> omega)
      by_cases e2 : y = z
      · subst e2
        rw [if_neg (fun hh => e1 (cpI_zero.1 hh))]
        unfold cpI
        rw [if_pos hxy]
        decide
      · rw [if_neg (fun hh => e2 (cpI_zero.1 hh))] at h2'
        have hyz : y < z := by unfold cpI at h2'; split at h2' <;> first | assumption | (split at h2' <;> omega)
        rw [if_neg (fun hh => absurd (cpI_zero.1 hh) (by omega))]
        unfold cpI
        rw [if_pos (by omega)]
        decide
theorem ex_isNaN (W : World) (x : Int) : ExV Try.prog 241 [.int .i64 x] W (.bool false) := by
  refine ExV.enter Try.func241 rfl Try.ntmps241 rfl ?_
  refine RunX.seq ?_
  refine RunX.region ?_
  refine OpsX.pure rfl (Pure.assign rfl) ?_
  refine OpsX.nil ?_
  refine RunX.seq ?_
  refine RunX.region ?_
  refine OpsX.pure rfl (Pure.move rfl) ?_
  refine OpsX.pure rfl (Pure.move rfl) ?_
  refine OpsX.pure rfl (Pure.neq rfl rfl) ?_
  refine OpsX.pure rfl (Pure.assign rfl) ?_
  refine OpsX.nil ?_
  refine RunX.ret1 rfl rfl ?_
  first
    | rfl
    | simp
theorem ex_cmp (W : World) (x y : Int) : ExV Try.prog 224 [.int .i64 x, .int .i64 y] W (.int .i64 (cpI x y)) := by
  refine ExV.enter Try.func224 rfl Try.ntmps224 rfl ?_
  refine RunX.seq ?_
  refine RunX.region ?_
  refine OpsX.pure rfl (Pure.assign rfl) ?_
  refine OpsX.nil ?_
  refine RunX.seq ?_
  refine RunX.region ?_
  refine OpsX.pure rfl (Pure.move rfl) ?_
  refine OpsX.call rfl fn241 rfl (ex_isNaN W _) ?_
  refine OpsX.pure rfl (Pure.assign rfl) ?_
  refine OpsX.nil ?_
  refine RunX.seq ?_
  refine RunX.region ?_
  refine OpsX.pure rfl (Pure.move rfl) ?_
  refine OpsX.call rfl fn241 rfl (ex_isNaN W _) ?_
  refine OpsX.pure rfl (Pure.assign rfl) ?_
  refine OpsX.nil ?_
  refine RunX.seq ?_
  refine RunX.seq ?_
  refine RunX.region ?_
  refine OpsX.pure rfl (Pure.move rfl) ?_
  refine OpsX.nil ?_
  refine RunX.condEF rfl (rfl) ?_
  refine RunX.skip ?_
  refine RunX.seq ?_
  refine RunX.seq ?_
  refine RunX.region ?_
  refine OpsX.pure rfl (Pure.move rfl) ?_
  refine OpsX.nil ?_
  refine RunX.condEF rfl (rfl) ?_
  refine RunX.skip ?_
  refine RunX.seq ?_
  refine RunX.seq ?_
  refine RunX.region ?_
  refine OpsX.pure rfl (Pure.move rfl) ?_
  refine OpsX.pure rfl (Pure.move rfl) ?_
  refine OpsX.pure rfl (Pure.lss rfl rfl) ?_
  refine OpsX.nil ?_
  refine RunX.cond rfl (fun c16 => ?_) (fun c16 => ?_)
  · skip
    replace c16 := dT c16
    refine RunX.seq ?_
    refine RunX.region ?_
    refine OpsX.pure rfl (Pure.assign rfl) ?_
    refine OpsX.nil ?_
    refine RunX.ret1 rfl rfl ?_
    unfold cpI
    first
      | (rw [if_pos (by omega)])
      | (rw [if_neg (by omega), if_pos (by omega)])
      | (rw [if_neg (by omega), if_neg (by omega)])
  · skip
    replace c16 := dF c16
    refine RunX.skip ?_
    refine RunX.seq ?_
    refine RunX.seq ?_
    refine RunX.region ?_
    refine OpsX.pure rfl (Pure.move rfl) ?_
    refine OpsX.pure rfl (Pure.move rfl) ?_
    refine OpsX.pure rfl (Pure.gtr rfl rfl) ?_
    refine OpsX.nil ?_
    refine RunX.cond rfl (fun c19 => ?_) (fun c19 => ?_)
    · skip
      replace c19 := dT c19
      refine RunX.seq ?_
      refine RunX.region ?_
      refine OpsX.pure rfl (Pure.assign rfl) ?_
      refine OpsX.nil ?_
      refine RunX.ret1 rfl rfl ?_
      unfold cpI
      first
        | (rw [if_pos (by omega)])
        | (rw [if_neg (by omega), if_pos (by omega)])
        | (rw [if_neg (by omega), if_neg (by omega)])
    · skip
      replace c19 := dF c19
      refine RunX.skip ?_
      refine RunX.seq ?_
      refine RunX.region ?_
      refine OpsX.pure rfl (Pure.assign rfl) ?_
      refine OpsX.nil ?_
      refine RunX.ret1 rfl rfl ?_
      unfold cpI
      first
        | (rw [if_pos (by omega)])
        | (rw [if_neg (by omega), if_pos (by omega)])
        | (rw [if_neg (by omega), if_neg (by omega)])
theorem ex_cmpL (W : World) (v u : Value) (l m : List Int) (hv : Rd W v 1 l.length (ints l)) (hu : Rd W u 1 m.length (ints m)) (hlm : l.length = m.length) (hl : l.length ≤ 1073741824) : ExV Try.prog 205 [v, u] W (.int .i64 (cpL l m)) := by
  refine ExV.enter Try.func205 rfl Try.ntmps205 rfl ?_
  refine RunX.seq ?_
  refine RunX.region ?_
  refine OpsX.pure rfl (Pure.assign rfl) ?_
  refine OpsX.nil ?_
  refine RunX.seq ?_
  refine RunX.seq ?_
  refine RunX.region ?_
  refine OpsX.pure rfl (Pure.move rfl) ?_
  refine OpsX.pure rfl (Pure.len sl32 (RdL.old hv) rfl) ?_
  refine OpsX.pure rfl (Pure.move rfl) ?_
  refine OpsX.nil ?_
  refine RunX.block ?_
  refine RunX.loop (X := Nat) (fun k => [(0, v), (1, u), (9, v), (10, .int .i64 l.length), (11, .int .i64 k)]) (fun k => k ≤ l.length ∧ ∀ j, j < k → l.getD j 0 = m.getD j 0) (fun k => l.length - k) 0 ?_ ?_ ?_
  · exact ⟨by omega, by omega⟩
  · exact ⟨rfl, rfl, rfl, rfl, rfl, trivial⟩
  · intro k hinv0
    refine RunX.seq ?_
    refine RunX.region ?_
    refine OpsX.pure rfl (Pure.lss rfl rfl) ?_
    refine OpsX.nil ?_
    refine RunX.seq ?_
    refine RunX.cond rfl (fun c12 => ?_) (fun c12 => ?_)
    · skip
      replace c12 := dT c12
      refine RunX.skip ?_
      refine RunX.seq ?_
      refine RunX.block ?_
      refine RunX.seq ?_
      refine RunX.region ?_
      refine OpsX.pure rfl (Pure.move rfl) ?_
      refine OpsX.pure rfl (Pure.idx1N sl32 (RdL.old hv) rfl rfl (by first | assumption | omega | (simp; omega))) ?_
      refine OpsX.pure rfl (Pure.ld cell2 rfl (RdL.old hv) (by first | exact ints_get (by omega) | exact bools_get (by omega) | exact strs_get (by omega) | exact vals_get (by first | omega | (simp; omega)))) ?_
      refine OpsX.pure rfl (Pure.assign rfl) ?_
      refine OpsX.pure rfl (Pure.assign rfl) ?_
      refine OpsX.nil ?_
      refine RunX.seq ?_
      refine RunX.seq ?_
      refine RunX.region ?_
      refine OpsX.pure rfl (Pure.move rfl) ?_
      refine OpsX.pure rfl (Pure.move rfl) ?_
      refine OpsX.pure rfl (Pure.len sl32 (RdL.old hu) rfl) ?_
      refine OpsX.pure rfl (Pure.geq rfl rfl) ?_
      refine OpsX.nil ?_
      refine RunX.condEF rfl (decide_eq_false (by omega)) ?_
      refine RunX.skip ?_
      refine RunX.seq ?_
      refine RunX.region ?_
      refine OpsX.pure rfl (Pure.move rfl) ?_
      refine OpsX.pure rfl (Pure.move rfl) ?_
      refine OpsX.pure rfl (Pure.idx1N sl32 (RdL.old hu) rfl rfl (by first | assumption | omega | (simp; omega))) ?_
      refine OpsX.pure rfl (Pure.ld cell2 rfl (RdL.old hu) (by first | exact ints_get (by omega) | exact bools_get (by omega) | exact strs_get (by omega) | exact vals_get (by first | omega | (simp; omega)))) ?_
      refine OpsX.pure rfl (Pure.assign rfl) ?_
      refine OpsX.nil ?_
      refine RunX.seq ?_
      refine RunX.region ?_
      refine OpsX.pure rfl (Pure.move rfl) ?_
      refine OpsX.pure rfl (Pure.move rfl) ?_
      refine OpsX.call rfl fn224 rfl (ex_cmp W (l.getD k 0) (m.getD k 0)) ?_
      refine OpsX.pure rfl (Pure.assign rfl) ?_
      refine OpsX.nil ?_
      refine RunX.seq ?_
      refine RunX.region ?_
      refine OpsX.pure rfl (Pure.move rfl) ?_
      refine OpsX.pure rfl (Pure.neq rfl rfl) ?_
      refine OpsX.nil ?_
      refine RunX.cond rfl (fun c28 => ?_) (fun c28 => ?_)
      · skip
        replace c28 := nT c28
        refine RunX.seq ?_
        refine RunX.region ?_
        refine OpsX.pure rfl (Pure.move rfl) ?_
        refine OpsX.pure rfl (Pure.assign rfl) ?_
        refine OpsX.nil ?_
        refine RunX.ret1 rfl rfl ?_
        rw [cpL_at (k := k) (by omega) (by omega) hinv0.2 (by omega)]
      · skip
        replace c28 := nF c28
        refine RunX.skip ?_
        refine RunX.blk ?_
        refine RunX.region ?_
        refine OpsX.pure rfl (Pure.add rfl rfl (by omega) (by omega)) ?_
        refine OpsX.pure rfl (Pure.move rfl) ?_
        refine OpsX.nil ?_
        refine RunX.asrt ?_
        exact ⟨k + 1, ⟨⟨by omega, fun j hj => step_lt (p := fun j => l.getD j 0 = m.getD j 0) hj hinv0.2 (cpI_zero.1 (by omega))⟩, by omega⟩, ⟨rfl, rfl, rfl, rfl, rfl, trivial⟩⟩
    · skip
      replace c12 := dF c12
      refine RunX.exit rfl ?_
      refine RunX.seq ?_
      refine RunX.seq ?_
      refine RunX.region ?_
      refine OpsX.pure rfl (Pure.move rfl) ?_
      refine OpsX.pure rfl (Pure.len sl32 (RdL.old hv) rfl) ?_
      refine OpsX.pure rfl (Pure.move rfl) ?_
      refine OpsX.pure rfl (Pure.len sl32 (RdL.old hu) rfl) ?_
      refine OpsX.pure rfl (Pure.lss rfl rfl) ?_
      refine OpsX.nil ?_
      refine RunX.condEF rfl (decide_eq_false (by omega)) ?_
      refine RunX.skip ?_
      refine RunX.seq ?_
      refine RunX.region ?_
      refine OpsX.pure rfl (Pure.assign rfl) ?_
      refine OpsX.nil ?_
      refine RunX.ret1 rfl rfl ?_
      rw [cpL_eq hlm (fun j hj => hinv0.2 j (by omega))]
      skip

open Go.Shelf Go.Proofs
/-- where the functions and types of the sort lie here -/
def sortR : Go.Shelf.Ren := ⟨fun | 6 => 204 | 15 => 223 | 14 => 222 | 28 => 239 | 29 => 240 | 20 => 231 | 21 => 232 | 22 => 233 | 23 => 234 | 24 => 235 | 25 => 236 | 26 => 237 | 27 => 238 | 46 => 247 | 47 => 248 | 48 => 249 | 49 => 250 | 50 => 251 | 57 => 253 | n => n, fun | 22 => 24 | 24 => 32 | 25 => 204 | 3 => 3 | 39 => 214 | 0 => 0 | 53 => 236 | 55 => 172 | 4 => 4 | 46 => 229 | 45 => 228 | 50 => 233 | 5 => 5 | 9 => 9 | 66 => 239 | 70 => 243 | 76 => 245 | 77 => 246 | n => n, fun n => n⟩
theorem sortL : SlLaysF.n6 Try.prog sortR where
  mixed := by kernel_rfl
  f6 := ⟨Try.f204.name, by decide, Try.func204.trans (congrArg some (by kernel_rfl))⟩
  f14 := ⟨Try.f222.name, by decide, Try.func222.trans (congrArg some (by kernel_rfl))⟩
  f15 := Try.func223.trans (congrArg some (by kernel_rfl))
  f20 := ⟨Try.f231.name, by decide, Try.func231.trans (congrArg some (by kernel_rfl))⟩
  f21 := ⟨Try.f232.name, by decide, Try.func232.trans (congrArg some (by kernel_rfl))⟩
  f22 := ⟨Try.f233.name, by decide, Try.func233.trans (congrArg some (by kernel_rfl))⟩
  f23 := ⟨Try.f234.name, by decide, Try.func234.trans (congrArg some (by kernel_rfl))⟩
  f24 := ⟨Try.f235.name, by decide, Try.func235.trans (congrArg some (by kernel_rfl))⟩
  f25 := ⟨Try.f236.name, by decide, Try.func236.trans (congrArg some (by kernel_rfl))⟩
  f26 := ⟨Try.f237.name, by decide, Try.func237.trans (congrArg some (by kernel_rfl))⟩
  f27 := ⟨Try.f238.name, by decide, Try.func238.trans (congrArg some (by kernel_rfl))⟩
  f28 := Try.func239.trans (congrArg some (by kernel_rfl))
  f29 := Try.func240.trans (congrArg some (by kernel_rfl))
  f46 := ⟨Try.f247.name, by decide, Try.func247.trans (congrArg some (by kernel_rfl))⟩
  f47 := Try.func248.trans (congrArg some (by kernel_rfl))
  f48 := Try.func249.trans (congrArg some (by kernel_rfl))
  f49 := ⟨Try.f250.name, by decide, Try.func250.trans (congrArg some (by kernel_rfl))⟩
  f50 := ⟨Try.f251.name, by decide, Try.func251.trans (congrArg some (by kernel_rfl))⟩
  f57 := ⟨Try.f253.name, by decide, Try.func253.trans (congrArg some (by kernel_rfl))⟩
  t0 := Try.underlying0
  a0 := Try.isAgg0
  z0 := Try.sizeOf0
  v0 := Try.zeroValue0
  t3 := Try.underlying3
  a3 := Try.isAgg3
  z3 := Try.sizeOf3
  v3 := Try.zeroValue3
  t4 := Try.underlying4
  a4 := Try.isAgg4
  z4 := Try.sizeOf4
  v4 := Try.zeroValue4
  t5 := Try.underlying5
  a5 := Try.isAgg5
  z5 := Try.sizeOf5
  v5 := Try.zeroValue5
  t9 := Try.underlying9
  a9 := Try.isAgg9
  z9 := Try.sizeOf9
  v9 := Try.zeroValue9
  t22 := Try.underlying24
  a22 := Try.isAgg24
  z22 := Try.sizeOf24
  v22 := Try.zeroValue24
  a24 := Try.isAgg32
  z24 := Try.sizeOf32
  t25 := Try.underlying204
  a25 := Try.isAgg204
  z25 := Try.sizeOf204
  v25 := Try.zeroValue204
  t39 := Try.underlying214
  a39 := Try.isAgg214
  z39 := Try.sizeOf214
  v39 := Try.zeroValue214
  t45 := Try.underlying228
  a45 := Try.isAgg228
  z45 := Try.sizeOf228
  v45 := Try.zeroValue228
  t46 := Try.underlying229
  a46 := Try.isAgg229
  z46 := Try.sizeOf229
  v46 := Try.zeroValue229
  t50 := Try.underlying233
  a50 := Try.isAgg233
  z50 := Try.sizeOf233
  v50 := Try.zeroValue233
  t53 := Try.underlying236
  a53 := Try.isAgg236
  z53 := Try.sizeOf236
  v53 := Try.zeroValue236
  t55 := Try.underlying172
  a55 := Try.isAgg172
  z55 := Try.sizeOf172
  v55 := Try.zeroValue172
  t66 := Try.underlying239
  a66 := Try.isAgg239
  z66 := Try.sizeOf239
  v66 := Try.zeroValue239
  t70 := Try.underlying243
  a70 := Try.isAgg243
  z70 := Try.sizeOf243
  v70 := Try.zeroValue243
  t76 := Try.underlying245
  a76 := Try.isAgg245
  z76 := Try.sizeOf245
  v76 := Try.zeroValue245
  t77 := Try.underlying246
  a77 := Try.isAgg246
  z77 := Try.sizeOf246
  v77 := Try.zeroValue246
theorem cpL_pos : ∀ {l m : List Int}, cpL l m > 0 → cpL m l < 0
  | [], [], h => absurd h (by decide)
  | [], _ :: _, h => absurd h (by show ¬ (-1 : Int) > 0; decide)
  | _ :: _, [], _ => by show (-1 : Int) < 0; decide
  | x :: l, y :: m, h => by
    show (if cpI y x = 0 then cpL m l else cpI y x) < 0
    have h' : (if cpI x y = 0 then cpL l m else cpI x y) > 0 := h
    by_cases e : x = y
    · subst e
      rw [if_pos (cpI_zero.2 rfl)] at h' ⊢
      exact cpL_pos h'
    · rw [if_neg (fun hh => e (cpI_zero.1 hh))] at h'
      rw [if_neg (fun hh => e (cpI_zero.1 hh).symm)]
      unfold cpI at *
      split at h' <;> split <;> omega
theorem cpL_swo {n : Nat} (f : Fin n → List Int) : Go.Sort.SWO (ltOf fun x y => cpL (f x) (f y)) := by
  refine ⟨fun x => ?_, fun x y z h1 h2 => ?_, fun x y z h1 h2 => ?_⟩
  · exact decide_eq_false (by show ¬ cpL (f x) (f x) < 0; rw [cpL_eq rfl (fun _ _ => rfl)]; decide)
  · have h3 : cpL (f x) (f y) < 0 := of_decide_eq_true h1
    exact decide_eq_true (cpL_trans (by omega) (of_decide_eq_true h2))
  · refine decide_eq_false fun h3 => ?_
    have h4 := of_decide_eq_false h1
    have h5 := of_decide_eq_false h2
    refine h5 (cpL_trans ?_ h3)
    have h6 : ¬ cpL (f y) (f x) > 0 := fun h7 => h4 (cpL_pos h7)
    omega
section
variable {α : Type} [Inhabited α]
theorem sortW_block (enc : α → Value) (w : World) (g m : Nat) (dk : Array α) (os : Array Obj) {b : Nat} (hb : b < w.heap.size) (hne : b ≠ g) : (sortWorld enc w g 0 m dk os).heap[b]? = w.heap[b]? := by
  unfold sortWorld
  rw [Go.Sort.heap_grow_old _ _ (by rw [Go.Sort.size_putRow]; exact hb)]
  show ((w.heap.modify g _)[b]? : Option Obj) = _
  rw [Array.getElem?_modify, if_neg (fun e => hne e.symm)]
theorem sortW_row (enc : α → Value) (w : World) (g m : Nat) (dk : Array α) (os : Array Obj) {cur : Array Value} {t : Nat} {z : Nat × Nat} (h : w.heap[g]? = some (.cells cur t z)) : (sortWorld enc w g 0 m dk os).heap[g]? = some (.cells (Go.Sort.putCells enc 0 dk cur) t z) := by
  unfold sortWorld
  rw [Go.Sort.heap_grow_old _ _ (by rw [Go.Sort.size_putRow]; exact (Array.getElem?_eq_some_iff.1 h).1)]
  show ((w.heap.modify g _)[g]? : Option Obj) = _
  rw [Array.getElem?_modify, if_pos rfl, h]
  rfl
theorem putCells_take (enc : α → Value) (dk : Array α) (cur : Array Value) (h : dk.size ≤ cur.size) : (Go.Sort.putCells enc 0 dk cur).toList.take dk.size = dk.toList.map enc := by
  apply List.ext_getElem?
  intro j
  rw [List.getElem?_take, List.getElem?_map]
  by_cases hj : j < dk.size
  · rw [if_pos hj]
    unfold Go.Sort.putCells
    rw [Array.getElem?_toList, Array.getElem?_mapIdx, Array.getElem?_eq_getElem (show j < cur.size by omega), Option.map_some, if_pos ⟨Nat.zero_le _, by omega⟩, Nat.sub_zero, Array.getElem?_toList, Array.getElem?_eq_getElem hj, Option.map_some, getElem!_pos dk j hj]
  · rw [if_neg hj, List.getElem?_eq_none (by simpa using hj)]
    rfl
end
theorem zip_map {n : Nat} {us : List Value} {ls : List (List Int)} (h1 : us.length = n) (h2 : ls.length = n) : us.zip ls = (Array.ofFn (n := n) id).toList.map fun (i : Fin n) => (us.getD i.val undef, ls.getD i.val []) := by
  subst h1
  apply List.ext_getElem?
  intro j
  by_cases hj : j < us.length
  · have h3 : j < ls.length := by omega
    simp [hj, h3, List.getElem?_zip_eq_some]
  · rw [List.getElem?_eq_none (by simp; omega), List.getElem?_eq_none (by simpa using hj)]
/-- the sort of slices of two numbers: the row's elements in another order -/
theorem RetO_sort {w0 w : World} {L : List Ent} (i : Nat) {t t' n : Nat} {v : Value} {us : List Value} {ls : List (List Int)} (hw : Sat w0 w L) (hL : L[i]? = some (.row t 1 v (n + 1) us)) (hls : ls.length = n + 1)
    (hin : ∀ j, j < n + 1 → (ls.getD j []).length = 2 ∧ ∃ q, q ≠ i ∧ L[q]? = some (.row t' 1 (us.getD j undef) 2 (ints (ls.getD j [])))) (hsz : n + 1 < 4611686018427387904) :
    RetO Try.prog 204 [v, .func (.func 205) #[] #[]] w0 w fun u L' => u = .tuple #[] ∧ ∃ us' ls', us'.length = n + 1 ∧ ls'.length = n + 1 ∧ (us'.zip ls').Perm (us.zip ls) ∧ L' = L.set i (.row t 1 v (n + 1) us') := by
  have hown := hw.own _ (List.mem_of_getElem? hL)
  obtain ⟨hul, hor⟩ := id hown
  rw [Nat.mul_one] at hul
  rcases hor with ⟨_, h0⟩ | ⟨g, cap, cur, rfl, hg, hh, hnc, hcap, hcs, htk⟩
  · omega
  rw [Nat.mul_one] at hcs htk
  let enc : Fin (n + 1) → Value := fun x => us.getD x undef
  let fl : Fin (n + 1) → List Int := fun x => ls.getD x []
  let d : Array (Fin (n + 1)) := Array.ofFn (n := n + 1) id
  have hds : d.size = n + 1 := by simp [d]
  have hgs : g < w.heap.size := (Array.getElem?_eq_some_iff.1 hh).1
  have hone : OneCell enc := fun x => by
    obtain ⟨_, q, _, hq⟩ := hin x x.2
    exact row_one q hw hq
  have hcell : ∀ j, j < n + 1 → cur[j]? = us[j]? := fun j hj => by
    rw [← htk, List.getElem?_take, if_pos hj, Array.getElem?_toList]
  have hH : Go.Sort.Holds enc w g 0 d := fun j hj => by
    rw [hds] at hj
    have e1 : d[j]! = ⟨j, hj⟩ := by rw [getElem!_pos d j (by omega)]; simp [d]
    constructor
    · rw [e1]
      show (match w.heap[g]? with | some (.cells c _ _) => if (none : Option _).isSome then none else c[0 + j]? | _ => none) = _
      rw [hh]
      show cur[0 + j]? = some (us.getD j undef)
      rw [Nat.zero_add, hcell j hj, List.getElem?_eq_getElem (by omega)]
      simp [List.getD, show j < us.length by omega]
    · show (match w.heap[g]? with | some (.cells _ _ (lo, hi)) => _ | _ => false) = false
      rw [hh]
      simp
  have hRd : ∀ (m : Nat) (os : Array Obj) (dk : Array (Fin (n + 1))) (x : Fin (n + 1)), Rd (sortWorld enc w g 0 m dk os) (enc x) 1 (fl x).length (ints (fl x)) := fun m os dk x => by
    obtain ⟨h2, q, hqi, hq⟩ := hin x x.2
    have hk := (hw.own _ (List.mem_of_getElem? hq)).keep (w' := sortWorld enc w g 0 m dk os) (fun b hb => by
      refine sortW_block enc w g m dk os (Ent.blk_lt (hw.own _ (List.mem_of_getElem? hq)) b hb).2 ?_
      rintro rfl
      obtain ⟨hqL, hqe⟩ := List.getElem?_eq_some_iff.1 hq
      obtain ⟨hiL, hie⟩ := List.getElem?_eq_some_iff.1 hL
      have hap := List.pairwise_iff_getElem.1 hw.apart
      have hbi : (L[i]).blk = some b := by rw [hie]; rfl
      have hbq : (L[q]).blk = some b := by rw [hqe]; exact hb
      rcases Nat.lt_or_ge q i with hlt | hge
      · rcases hap q i hqL hiL hlt with hx | hx
        · rw [hbq] at hx; cases hx
        · exact hx (hbq.trans hbi.symm)
      · rcases hap i q hiL hqL (by omega) with hx | hx
        · rw [hbi] at hx; cases hx
        · exact hx (hbi.trans hbq.symm))
    have hr := Rd.of_own hk
    rw [show (fl x).length = 2 from h2]
    exact hr
  have hlen2 : ∀ x, (fl x).length = 2 := fun x => (hin x x.2).1
  have hcmp : CmpLays1 Try.prog 205 #[] enc (fun x y => cpL (fl x) (fl y)) g 0 d.size w := fun m os dk _ x y => by
    have hc := ex_cmpL (sortWorld enc w g 0 m dk os) (enc x) (enc y) (fl x) (fl y) (hRd m os dk x) (hRd m os dk y) (by rw [hlen2, hlen2]) (by rw [hlen2]; decide)
    refine Calls.mono hc ?_
    rintro e w' ⟨rfl, rfl⟩
    exact ⟨rfl, 0, #[], by rw [Go.Sort.grow_empty]; rfl⟩
  have hcon := Any.slices_SortFunc sortL enc hone (fun x y => cpL (fl x) (fl y)) (cpL_swo fl) 205 #[] g 0 cap d w (enters_of Try.func205 (by kernel_rfl) rfl) hcmp hH hgs (by omega)
  rw [hds] at hcon
  refine Calls.mono hcon ?_
  rintro e w' ⟨rfl, d', m, os, hp, _, rfl⟩
  have hds' : d'.size = n + 1 := hp.1.trans hds
  have hper : d'.toList.Perm d.toList := by
    have h3 := hp.2.2
    rwa [Array.extract_eq_self_of_le (by omega), Array.extract_eq_self_of_le (by omega)] at h3
  have hl' : d'.toList.length = n + 1 := by simpa using hds'
  refine ⟨.tuple #[], L.set i (.row t 1 (.slice (some ⟨g, 0, none⟩) (n + 1) cap) (n + 1) (d'.toList.map enc)), rfl, ?_, rfl, d'.toList.map enc, d'.toList.map fl, by simpa using hds', by simpa using hds', ?_, rfl⟩
  · refine hw.set hL ⟨rfl, rfl, rfl, ?_, fun k hk hne => ?_⟩ ⟨by simpa using hds', .inr ⟨g, cap, Go.Sort.putCells enc 0 d' cur, rfl, hg, sortW_row enc w g m d' os hh, hnc, hcap, ?_, ?_⟩⟩ (.inl rfl)
    · unfold sortWorld
      rw [Go.Sort.size_grow, Go.Sort.size_putRow]
      exact Nat.le_add_right _ _
    · exact sortW_block enc w g m d' os hk (fun e => hne (by rw [e]; rfl))
    · unfold Go.Sort.putCells
      rw [Array.size_mapIdx, hcs, Nat.mul_one]
    · rw [Nat.mul_one]
      have h3 := putCells_take enc d' cur (by omega)
      rw [hds'] at h3
      exact h3
  · rw [zip_map hul hls, show (d'.toList.map enc).zip (d'.toList.map fl) = d'.toList.map fun x => (enc x, fl x) from by rw [List.zip_map']]
    exact hper.map _

end Go.Proofs.Ytmfinopdokkjcaa
