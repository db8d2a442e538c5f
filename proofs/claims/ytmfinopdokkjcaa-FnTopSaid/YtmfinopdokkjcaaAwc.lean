/- Calls, the way into a function and out of it; slices that the call makes. No statement of the seat is proved here. -/
import Derived.Test.YtmfinopdokkjcaaAwl
namespace Go.AW
open Go Go.RowKit
set_option linter.unusedVariables false
set_option linter.unusedSimpArgs false

/-! ### Contracts -/

/-- The call returns a value 'v' and leaves, beside what was there in 'w0', just 'L'', as 'Q' says. -/
def RetO (P : Program) (f : FuncId) (vs : List Value) (w0 w : World) (Q : Value → List Ent → Prop) : Prop :=
  Calls P f vs.toArray w fun e w' => ∃ v L', e = .returned v ∧ Sat w0 w' L' ∧ Q v L'
/-- .. its own results on top of a memory that is as it was. -/
def Ret (P : Program) (f : FuncId) (vs : List Value) (w : World) (Q : Value → List Ent → Prop) : Prop := RetO P f vs w w Q
/-- .. a plain value. -/
def RetV (P : Program) (f : FuncId) (vs : List Value) (w : World) (v : Value) : Prop := Ret P f vs w fun v' _ => v' = v

theorem Ret.mono {P : Program} {f : FuncId} {vs : List Value} {w : World} {Q Q' : Value → List Ent → Prop} (h : Ret P f vs w Q) (hq : ∀ v L, Q v L → Q' v L) : Ret P f vs w Q' :=
  Calls.mono h fun _ _ ⟨v, L', h1, h2, h3⟩ => ⟨v, L', h1, h2, hq v L' h3⟩
theorem RetO.mono {P : Program} {f : FuncId} {vs : List Value} {w0 w : World} {Q Q' : Value → List Ent → Prop} (h : RetO P f vs w0 w Q) (hq : ∀ v L, Q v L → Q' v L) : RetO P f vs w0 w Q' :=
  Calls.mono h fun _ _ ⟨v, L', h1, h2, h3⟩ => ⟨v, L', h1, h2, hq v L' h3⟩
theorem RetV.cong {P : Program} {f : FuncId} {vs : List Value} {w : World} {v v' : Value} (h : RetV P f vs w v) (e : v = v') : RetV P f vs w v' := e ▸ h
theorem Ret.toV {P : Program} {f : FuncId} {vs : List Value} {w : World} {v : Value} {Q : Value → List Ent → Prop} (h : Ret P f vs w Q) (hq : ∀ v' L, Q v' L → v' = v) : RetV P f vs w v := h.mono hq

/-- Function f has a text of its own. -/
def FnOk (P : Program) (f : Nat) : Prop := ∃ fn, P.funcs[f]? = some fn ∧ (fn.name == "runtime.NumGoroutine") = false ∧ fn.body.isNone = false

/-- What the way out of the function 'fn' must hand over. -/
def rp (P : Program) (fn : Func) (w0 : World) (Q : Value → List Ent → Prop) : Exit → Act → World → Prop :=
  bodyPost P fn fun e w' => ∃ v L', e = .returned v ∧ Sat w0 w' L' ∧ Q v L'

def fr0 : Nat → List Value → Fr
  | _, [] => []
  | i, v :: r => (i, v) :: fr0 (i + 1) r

theorem lk_fr0 : ∀ (vs : List Value) (i n : Nat) (v : Value), lk (fr0 i vs) n = some v → i ≤ n ∧ vs[n - i]? = some v
  | [], i, n, v, h => by cases h
  | u :: r, i, n, v, h => by
    simp only [fr0, lk] at h
    cases hb : Nat.beq i n with
    | true =>
      rw [hb] at h
      have e : i = n := Nat.eq_of_beq_eq_true hb
      subst e
      have e2 : u = v := Option.some.inj h
      subst e2
      simp
    | false =>
      rw [hb] at h
      have ⟨h1, h2⟩ := lk_fr0 r (i + 1) n v h
      refine ⟨by omega, ?_⟩
      have e : n - i = (n - (i + 1)) + 1 := by omega
      rw [e]
      simpa using h2

section
variable {P : Program} {f : FuncId} {fn : Func} {c : Code} {vs : List Value} {w0 w : World} {Q : Value → List Ent → Prop} {N : Nat}

theorem RetO.enter {L : List Ent} (hf : P.funcs[f]? = some fn) (hb : fn.body = some c) (hN : fn.ntmps = N) (hl : Nat.ble vs.length N = true) (hw : Sat w0 w L)
    (h : Run P N w0 (rp P fn w0 Q) [.code c] (fr0 0 vs) L) : RetO P f vs w0 w Q := by
  refine calls_of_wp hf hb ?_
  refine h _ w ⟨?_, rfl, fun n v hv => ?_⟩ hw
  · have := Nat.le_of_ble_eq_true hl
    simp [hN]
    omega
  · obtain ⟨_, h2⟩ := lk_fr0 vs 0 n v hv
    simp only [Nat.sub_zero] at h2
    have hlt := (List.getElem?_eq_some_iff.1 h2).1
    rw [Array.getD_eq_getD_getElem?, Array.getElem?_append_left (by simpa using hlt)]
    simpa using congrArg (fun o => o.getD undef) h2

theorem Ret.enter (hf : P.funcs[f]? = some fn) (hb : fn.body = some c) (hN : fn.ntmps = N) (hl : Nat.ble vs.length N = true)
    (h : Run P N w (rp P fn w Q) [.code c] (fr0 0 vs) []) : Ret P f vs w Q := RetO.enter hf hb hN hl (Sat.refl w) h

variable {k : List It} {s : Fr} {L : List Ent}
theorem Run.ret1 {t : Nat} {v : Value} (hr : fn.results = #[.tmp t]) (hv : lk s t = some v) (h : Q v L) : Run P N w0 (rp P fn w0 Q) (.code .ret :: k) s L :=
  Run.ret fun a w ha hw => bodyPost_ret (results_tmp hr a.tmps P w) ha.defers ⟨v, L, by rw [ha.slot t v hv], hw, h⟩
theorem Run.ret2 {t u : Nat} {v v' : Value} (hr : fn.results = #[.tmp t, .tmp u]) (hv : lk s t = some v) (hu : lk s u = some v') (h : Q (.tuple #[v, v']) L) : Run P N w0 (rp P fn w0 Q) (.code .ret :: k) s L :=
  Run.ret fun a w ha hw => bodyPost_ret (results_tmp2 hr a.tmps P w) ha.defers ⟨_, L, by rw [ha.slot t v hv, ha.slot u v' hu], hw, h⟩
theorem results_tmp3' {t u x : Tmp} (h : fn.results = #[.tmp t, .tmp u, .tmp x]) (tmps : Array Value) (P : Program) (w : World) :
    (results fn tmps).run P w = .ok (.tuple #[tmps.getD t undef, tmps.getD u undef, tmps.getD x undef]) w := by
  simp [results, h]
theorem Run.ret3 {t u x : Nat} {v v' v'' : Value} (hr : fn.results = #[.tmp t, .tmp u, .tmp x]) (hv : lk s t = some v) (hu : lk s u = some v') (hx : lk s x = some v'') (h : Q (.tuple #[v, v', v'']) L) :
    Run P N w0 (rp P fn w0 Q) (.code .ret :: k) s L :=
  Run.ret fun a w ha hw => bodyPost_ret (results_tmp3' hr a.tmps P w) ha.defers ⟨_, L, by rw [ha.slot t v hv, ha.slot u v' hu, ha.slot x v'' hx], hw, h⟩
theorem run_loadVar_box {b t m T : Nat} {cs : List Value} (hw : Sat w0 w L) (i : Nat) (hL : L[i]? = some (.box b t cs)) (hT : cellT P T = some (some m)) (hm : cs.length = m) : (loadVar T ⟨b, 0, none⟩).run P w = .ok (.agg cs.toArray) w := by
  have h1 := cellT_agg hT w
  have h2 := run_loadCells_list (P := P) w ⟨b, 0, none⟩ cs (fun k u hi => by rw [add_lit, cell_of_row w b _ _ t (0, 0) (hw.box hL)]; simpa using hi)
  rw [hm] at h2
  simp [loadVar, h1.1, h1.2, h2]
/-- A struct is returned. -/
theorem Run.retC {c T b t m : Nat} {cs : List Value} (i : Nat) (hr : fn.results = #[.cell c T]) (hv : lk s c = some (.pointer (some ⟨b, 0, none⟩))) (hL : L[i]? = some (.box b t cs)) (hT : cellT P T = some (some m)) (hm : cs.length = m) (h : Q (.agg cs.toArray) L) :
    Run P N w0 (rp P fn w0 Q) (.code .ret :: k) s L :=
  Run.ret fun a w ha hw => bodyPost_ret (v := .agg cs.toArray) (by simp [results, hr, ha.slotG c _ hv, asAddr, run_loadVar_box hw i hL hT hm]) ha.defers ⟨_, L, rfl, hw, h⟩
theorem Run.retC1 {c T b t m u : Nat} {cs : List Value} {v : Value} (i : Nat) (hr : fn.results = #[.cell c T, .tmp u]) (hv : lk s c = some (.pointer (some ⟨b, 0, none⟩))) (hu : lk s u = some v) (hL : L[i]? = some (.box b t cs)) (hT : cellT P T = some (some m)) (hm : cs.length = m) (h : Q (.tuple #[.agg cs.toArray, v]) L) :
    Run P N w0 (rp P fn w0 Q) (.code .ret :: k) s L :=
  Run.ret fun a w ha hw => bodyPost_ret (v := .tuple #[.agg cs.toArray, v]) (by simp [results, hr, ha.slotG c _ hv, ha.slotG u _ hu, asAddr, run_loadVar_box hw i hL hT hm]) ha.defers ⟨_, L, rfl, hw, h⟩
theorem Run.ret0 (hr : fn.results = #[]) (h : Q (.tuple #[]) L) : Run P N w0 (rp P fn w0 Q) (.code .ret :: k) s L :=
  Run.ret fun a w ha hw => bodyPost_ret (results_none hr a.tmps P w) ha.defers ⟨_, L, rfl, hw, h⟩
theorem Run.end0 (hr : fn.results = #[]) (h : Q (.tuple #[]) L) : Run P N w0 (rp P fn w0 Q) [] s L :=
  fun a w ha hw => by
    exact bodyPost_end (R := fun e w' => ∃ v L', e = .returned v ∧ Sat w0 w' L' ∧ Q v L') (results_none hr a.tmps P w) ha.defers ⟨_, L, rfl, hw, h⟩
end

/-! ### Calls -/

def evs (s : Fr) : List Operand → Option (List Value)
  | [] => some []
  | x :: r => match ev s x with
    | some v => match evs s r with
      | some l => some (v :: l)
      | none => none
    | none => none

theorem FrOK.evs {N : Nat} {s : Fr} {a : Act} (h : FrOK N s a) : ∀ {l : List Operand} {vs : List Value}, AW.evs s l = some vs → l.map a.eval = vs
  | [], vs, hv => by simpa [AW.evs] using hv
  | x :: r, vs, hv => by
    simp only [AW.evs] at hv
    cases hx : AW.ev s x with
    | none => rw [hx] at hv; cases hv
    | some v =>
      rw [hx] at hv
      cases hr : AW.evs s r with
      | none => simp only [hr] at hv; cases hv
      | some l =>
        simp only [hr] at hv
        have e : v :: l = vs := Option.some.inj hv
        subst e
        simp [h.ev hx, FrOK.evs h hr]

section
variable {P : Program} {N : Nat} {w0 : World} {R : Exit → Act → World → Prop} {k : List It} {s : Fr} {L : List Ent}
variable {d : Option Nat} {ty : TypeId} {pos : String} {aft : Array Edge} {g : Option (Nat × Bool)}

theorem run_call {f : Nat} (hf : FnOk P f) {l : List Operand} {vs : List Value} (hl : evs s l = some vs) {T : Array TypeId} {a : Act} {w : World} (ha : FrOK N s a) :
    (execOp a.eval ⟨d, .call { callee := .value (.func f), args := l.toArray, argTypes := T }, ty, pos, aft, g⟩).run P w = .ok (.enter f vs.toArray) w := by
  obtain ⟨fn, h1, h2, h3⟩ := hf
  have h2' : ¬ fn.name = "runtime.NumGoroutine" := by simpa using h2
  have h3' : ¬ fn.body = none := by intro hh; rw [hh] at h3; cases h3
  have e := ha.evs hl
  simp [execOp, resolve, Deferred.ofValue, Act.eval, invoke, callFunc, h1, h2', h3', e]

theorem Loud.callO {f : Nat} {l : List Operand} {vs : List Value} {T : Array TypeId} {Q : Value → List Ent → Prop} (hf : FnOk P f) (hl : evs s l = some vs)
    (hc : ∀ w, Sat w0 w L → RetO P f vs w0 w Q) : Loud P N w0 s L ⟨d, .call { callee := .value (.func f), args := l.toArray, argTypes := T }, ty, pos, aft, g⟩ Q := by
  intro a w ha hw
  rw [run_call hf hl ha]
  exact hc w hw

theorem Loud.callR {f : Nat} {l : List Operand} {vs : List Value} {T : Array TypeId} {Q : Value → List Ent → Prop} (hf : FnOk P f) (hl : evs s l = some vs)
    (hc : ∀ w, Sat w0 w L → Ret P f vs w Q) : Loud P N w0 s L ⟨d, .call { callee := .value (.func f), args := l.toArray, argTypes := T }, ty, pos, aft, g⟩ fun v L'' => ∃ L', Q v L' ∧ L'' = L' ++ L :=
  Loud.callO hf hl fun w hw => Calls.mono (hc w hw) fun _ _ ⟨v, L', h1, h2, h3⟩ => ⟨v, L' ++ L, h1, hw.trans h2, L', h3, rfl⟩

theorem QOp.call {f : Nat} {l : List Operand} {vs : List Value} {T : Array TypeId} {v : Value} (hf : FnOk P f) (hl : evs s l = some vs)
    (hc : ∀ w, Sat w0 w L → RetV P f vs w v) : QOp P N w0 s L ⟨d, .call { callee := .value (.func f), args := l.toArray, argTypes := T }, ty, pos, aft, g⟩ v := by
  intro a w ha hw
  rw [run_call hf hl ha]
  refine ⟨rfl, Calls.mono (hc w hw) ?_⟩
  rintro e w' ⟨v', L', rfl, h2, rfl⟩
  exact ⟨rfl, h2.ext (Ext.nil _)⟩

/-- A call of a function value that the text has made. -/
theorem run_callF {f : Nat} (hf : FnOk P f) {x : Operand} {caps : Array Value} (hx : ev s x = some (.func (.func f) #[] caps)) {l : List Operand} {vs : List Value} (hl : evs s l = some vs) {T : Array TypeId} {a : Act} {w : World} (ha : FrOK N s a) :
    (execOp a.eval ⟨d, .call { callee := .value x, args := l.toArray, argTypes := T }, ty, pos, aft, g⟩).run P w = .ok (.enter f (vs.toArray ++ caps)) w := by
  obtain ⟨fn, h1, h2, h3⟩ := hf
  have h2' : ¬ fn.name = "runtime.NumGoroutine" := by simpa using h2
  have h3' : ¬ fn.body = none := by intro hh; rw [hh] at h3; cases h3
  have e := ha.evs hl
  simp [execOp, resolve, Deferred.ofValue, ha.ev hx, invoke, callFunc, h1, h2', h3', e]

theorem QOp.callF {f : Nat} {x : Operand} {l : List Operand} {vs caps vs' : List Value} {T : Array TypeId} {v : Value} (hf : FnOk P f) (hx : ev s x = some (.func (.func f) #[] caps.toArray)) (hl : evs s l = some vs)
    (hvs : vs ++ caps = vs') (hc : ∀ w, Sat w0 w L → RetV P f vs' w v) : QOp P N w0 s L ⟨d, .call { callee := .value x, args := l.toArray, argTypes := T }, ty, pos, aft, g⟩ v := by
  intro a w ha hw
  subst hvs
  rw [run_callF hf hx hl ha]
  have hc' := hc w hw
  unfold RetV Ret RetO at hc'
  rw [← List.append_toArray] at hc'
  refine ⟨rfl, Calls.mono hc' ?_⟩
  rintro e w' ⟨v', L', rfl, h2, rfl⟩
  exact ⟨rfl, h2.ext (Ext.nil _)⟩

/-! ### Slices of the call's own -/

theorem one_int (n : Int) (kk : IntKind) : (Value.int kk n).oneCell' = true := rfl

/-- 'make([]T, n)'. -/
theorem Loud.make {T e size bytes : Nat} {z : Value} {x y : Operand} {kk kk' : IntKind} {n : Nat} (hT : SlT P T e size bytes z)
    (hx : ev s x = some (.int kk (n : Int))) (hy : ev s y = some (.int kk' (n : Int))) (hb : bytes * n ≤ 281474976710656) (h63 : n ≤ 9223372036854775807) :
    Loud P N w0 s L ⟨d, .makeSlice T x y, ty, pos, aft, g⟩ fun v L' => L' = .row e size v n (madeCells z.cells (n * size)).toList :: L := by
  intro a w ha hw
  obtain ⟨i, hi, hz, hs, hby⟩ := hT.parts
  obtain ⟨w', hr, hown, hg⟩ := run_make_full (P := P) w w.heap.size T e i z size hT.under hi hz hs kk kk' n (by rw [hby]; exact hb) (by simp only [maxLen]; omega) (Nat.le_refl _)
  have hr' : (execOp a.eval ⟨d, .makeSlice T x y, ty, pos, aft, g⟩).run P w = .ok (.value (.slice (some ⟨w.heap.size, 0, none⟩) n n)) w' := by simp [execOp, ha.ev hx, ha.ev hy, hr]
  rw [hr']
  exact ⟨_, hw.trans (Sat.one (e := .row e size _ n _) hg hown), rfl⟩

theorem Loud.makeI {T e size bytes : Nat} {z : Value} {x y : Operand} {kk kk' : IntKind} {n : Int} (hT : SlT P T e size bytes z)
    (hx : ev s x = some (.int kk n)) (hy : ev s y = some (.int kk' n)) (h0 : 0 ≤ n) (hb : bytes * n ≤ 281474976710656) (h63 : n ≤ 9223372036854775807) :
    Loud P N w0 s L ⟨d, .makeSlice T x y, ty, pos, aft, g⟩ fun v L' => L' = .row e size v n.toNat (madeCells z.cells (n.toNat * size)).toList :: L := by
  obtain ⟨m, rfl⟩ := Int.eq_ofNat_of_zero_le h0
  simp only [Int.toNat_natCast]
  exact Loud.make hT hx hy (by have : ((bytes * m : Nat) : Int) ≤ 281474976710656 := by rw [Int.natCast_mul]; exact hb
                               omega) (by omega)

theorem made_one (z : Value) (hz : z.oneCell' = true) (n : Nat) : (madeCells z.cells (n * 1)).toList = List.replicate n z := by
  have : z.cells = #[z] := by cases z <;> first | rfl | simp [Value.oneCell'] at hz
  rw [this, Nat.mul_one]
  exact toList_madeCells_one z n

/-- A slice literal of one-cell elements, all of them given. -/
def lit1 : Nat → List Value → List (Nat × Value)
  | _, [] => []
  | i, v :: r => (i, v) :: lit1 (i + 1) r

theorem fill_lit1 : ∀ (vs : List Value) (i : Nat) (cur : Array Value), (∀ u ∈ vs, u.oneCell' = true) → i + vs.length = cur.size →
    Instr.fill (fun i => some (i * 1, 1)) cur (lit1 i vs) = some (cur.toList.take i ++ vs).toArray
  | [], i, cur, _, hl => by
    simp only [lit1, Instr.fill]
    simp at hl
    subst hl
    congr 1
    apply Array.ext'
    simp [← Array.length_toList]
  | u :: r, i, cur, h1, hl => by
    have hu := cells_one (h1 u (by simp))
    have hi : i < cur.size := by simp at hl; omega
    simp only [lit1, Instr.fill, hu]
    rw [show i * 1 = i from Nat.mul_one i]
    have hc : ¬ ((#[u] : Array Value).size ≠ 1 || decide (i + (#[u] : Array Value).size > cur.size)) = true := by simp; omega
    rw [if_neg hc]
    have e : (Array.foldl (fun (cs : Array Value) (x : Value × Nat) => cs.setIfInBounds (i + x.2) x.1) cur (#[u] : Array Value).zipIdx) = cur.setIfInBounds i u := by
      simp [Array.zipIdx]
    rw [e, fill_lit1 r (i + 1) (cur.setIfInBounds i u) (fun x hx => h1 x (by simp [hx])) (by simp at hl ⊢; omega)]
    congr 1
    rw [Array.toList_setIfInBounds, List.take_set, List.set_eq_take_append_cons_drop]
    simp only [List.length_take, Array.length_toList]
    rw [if_pos (by omega)]
    simp [List.take_take, Nat.min_eq_left (Nat.le_succ i), List.drop_take]

def evp (s : Fr) : Nat → List (Nat × Operand) → Option (List Value)
  | _, [] => some []
  | i, (j, x) :: r => bif Nat.beq i j then (match ev s x with
    | some v => match evp s (i + 1) r with
      | some l => some (v :: l)
      | none => none
    | none => none) else none

theorem FrOK.evp {N : Nat} {s : Fr} {a : Act} (h : FrOK N s a) : ∀ {l : List (Nat × Operand)} {i : Nat} {vs : List Value}, AW.evp s i l = some vs → l.map (fun (j, x) => (j, a.eval x)) = lit1 i vs ∧ vs.length = l.length
  | [], i, vs, hv => by
    have e : [] = vs := Option.some.inj hv
    subst e
    exact ⟨rfl, rfl⟩
  | (j, x) :: r, i, vs, hv => by
    simp only [AW.evp] at hv
    cases hb : Nat.beq i j with
    | false => rw [hb] at hv; cases hv
    | true =>
      rw [hb] at hv
      have e0 : i = j := Nat.eq_of_beq_eq_true hb
      subst e0
      cases hx : AW.ev s x with
      | none => simp only [hx] at hv; cases hv
      | some v =>
        cases hr : AW.evp s (i + 1) r with
        | none => simp only [hx, hr] at hv; cases hv
        | some l =>
          simp only [hx, hr] at hv
          have e : v :: l = vs := Option.some.inj hv
          subst e
          have ih := FrOK.evp h hr
          simp [h.ev hx, lit1, ih.1, ih.2]

/-- '[]T{x, y, ..}', T's elements of one cell. -/
theorem Loud.lit {T e bytes n : Nat} {z : Value} {l : List (Nat × Operand)} {vs : List Value} (hT : SlT P T e 1 bytes z) (hl : evp s 0 l = some vs) (hn : l.length = n) (hsm : Nat.ble n 16777216 = true)
    (h1 : ∀ u ∈ vs, u.oneCell' = true) : Loud P N w0 s L ⟨d, .buildSlice T n l.toArray, ty, pos, aft, g⟩ fun v L' => L' = .row e 1 v n vs :: L := by
  intro a w ha hw
  obtain ⟨i, hi, hz, hs, hby⟩ := hT.parts
  obtain ⟨hm, hlen⟩ := ha.evp hl
  have hsm' : n ≤ 16777216 := Nat.le_of_ble_eq_true hsm
  have hbig : ¬ (n * 1 > 2 ^ 24) := by omega
  have hfill : ∀ cur : Array Value, cur.size = n → Instr.fill (fun i => some (i * 1, 1)) cur (lit1 0 vs) = some vs.toArray := fun cur hc => by
    rw [fill_lit1 vs 0 cur h1 (by omega)]
    simp
  have hr : (execOp a.eval ⟨d, .buildSlice T n l.toArray, ty, pos, aft, g⟩).run P w = .ok (.value (.slice (some ⟨w.heap.size, 0, none⟩) n n)) (w.alloc (.cells vs.toArray e)) := by
    have hmap : (l.toArray.map fun (x : Nat × Operand) => (x.1, a.eval x.2)) = (lit1 0 vs).toArray := by rw [List.map_toArray, ← hm]
    simp only [execOp, Sem.run_bind, Instr.buildSlice, run_underlying hT.under, Result.andThen_ok, hT.size_run, if_neg hbig, Sem.run_pure]
    rw [hmap]
    by_cases h0 : n * 1 = 0
    · simp only [h0, if_true, Sem.run_bind, Sem.run_pure, Result.andThen_ok]
      rw [hfill _ (by simp; omega)]
      simp [newRow]
    · simp only [if_neg h0, zeroValue, typeInfo, Sem.run_bind, run_program, hi, Result.andThen_ok, Sem.run_pure, hz]
      rw [hfill _ (by simp)]
      simp [newRow]
  rw [hr]
  refine ⟨_, hw.trans (Sat.one (e := .row e 1 (.slice (some ⟨w.heap.size, 0, none⟩) n n) n vs) (World.grownBy_alloc w _ none) ?_), rfl⟩
  have hvn : vs.length = n := by omega
  have h9 := World.ownsRow_lit (base := w.heap.size) (e := e) (size := 1) w vs.toArray n (Nat.le_refl _) (by simp only [maxLen]; omega) (by simp [hvn])
  simpa [Ent.holds] using h9

theorem getElem?_append_all {A : Option Addr} {m c size : Nat} {news : List Value} {w : World} (h : Rd w (.slice A m c) size m news) : (∃ a, A = some a ∧ ∀ j u, news[j]? = some u → w.cell? (a.add j) = some u) ∨ (A = none ∧ news = []) := by
  obtain ⟨hl, A', c', he, hc, hh⟩ := h
  cases he
  cases A with
  | none =>
    right
    refine ⟨rfl, ?_⟩
    rcases Nat.eq_zero_or_pos news.length with h0 | h0
    · exact List.eq_nil_of_length_eq_zero h0
    · obtain ⟨a, ha, _⟩ := hh h0
      cases ha
  | some a =>
    left
    refine ⟨a, rfl, fun j u hu => ?_⟩
    obtain ⟨a', ha, hcell⟩ := hh (by have := (List.getElem?_eq_some_iff.1 hu).1; omega)
    cases ha
    exact hcell j u hu

theorem run_append_none (w : World) (base : Nat) (t ty e : TypeId) (i : TypeInfo) (size : Nat) (ht : P.underlying t = some (.slice e)) (hi : P.info? e = some i)
    (v : Value) (n : Nat) (xs : List Value) (hown : w.ownsRow base e size v n xs) (c : Nat) : (Builtin.append_ #[t, t] ty #[v, .slice none 0 c]).run P w = .ok v w := by
  rcases hown.2 with ⟨rfl, rfl⟩ | ⟨g, cap, cur, rfl, _, _, hnc, _⟩
  · simp [Builtin.append_, run_underlying ht, sizeOf, typeInfo, hi, Builtin.lenOf, Builtin.firstCells]
  · simp [Builtin.append_, run_underlying ht, sizeOf, typeInfo, hi, Builtin.lenOf, Builtin.firstCells, hnc, storeCells]

/-- 'append(own, src...)': entry i grows; the source may lie anywhere. -/
theorem Loud.append {T e size bytes n m : Nat} {z v u : Value} {x y : Operand} {xs news : List Value} (i : Nat) (hL : L[i]? = some (.row e size v n xs)) (hT : SlT P T e size bytes z)
    (hx : ev s x = some v) (hy : ev s y = some u) (hr : RdL w0 L u size m news) (h1 : ∀ u ∈ news, u.oneCell' = true) (h63 : n + m ≤ 9223372036854775807) (hb : (n + m) * bytes ≤ 140737488355328) :
    Loud P N w0 s L ⟨d, .call { callee := .builtin .append, args := #[x, y], argTypes := #[T, T] }, ty, pos, aft, g⟩ fun v' L' => L' = L.set i (.row e size v' (n + m) (xs ++ news)) := by
  intro a w ha hw
  obtain ⟨inf, hi, hz, hs, hby⟩ := hT.parts
  have hown : w.ownsRow w0.heap.size e size v n xs := hw.own _ (List.mem_of_getElem? hL)
  have hrd := hr w hw
  obtain ⟨hl, A, c, hu, hc, hh⟩ := hrd
  subst hu
  have hrd : Rd w (.slice A m c) size m news := ⟨hl, A, c, rfl, hc, hh⟩
  have key : ∃ v' w', (Builtin.append_ #[T, T] ty #[v, .slice A m c]).run P w = .ok v' w' ∧ w'.ownsRow w0.heap.size e size v' (n + m) (xs ++ news) ∧ w.grownBy w' v.ownBlock ∧
      (v'.ownBlock = v.ownBlock ∨ v'.ownBlock = some w.heap.size) := by
    rcases getElem?_append_all hrd with ⟨ad, rfl, hcell⟩ | ⟨rfl, rfl⟩
    · obtain ⟨v', w', h2, h3, h4, _, h6⟩ := run_append_own_at (P := P) w w0.heap.size T ty e inf z size bytes hT.under hi hz hs hby hT.cells hT.pos v n xs hown ad m c news hl hcell h1 (by simp only [maxLen]; omega) hb hw.size
      exact ⟨v', w', h2, h3, h4, h6⟩
    · have hm : m = 0 := by
        have hp := hT.pos
        have h0 : m * size = 0 := hl.symm
        rcases Nat.mul_eq_zero.1 h0 with h | h
        · exact h
        · omega
      subst hm
      exact ⟨v, w, run_append_none w w0.heap.size T ty e inf size hT.under hi v n xs hown c, by simpa using hown, ⟨rfl, rfl, rfl, Nat.le_refl _, fun _ _ _ => rfl⟩, .inl rfl⟩
  obtain ⟨v', w', h2, h3, h4, h5⟩ := key
  have hr' : (execOp a.eval ⟨d, .call { callee := .builtin .append, args := #[x, y], argTypes := #[T, T] }, ty, pos, aft, g⟩).run P w = .ok (.value v') w' := by
    simp [execOp, resolve, invoke, builtin, ha.ev hx, ha.ev hy, h2]
  rw [hr']
  refine ⟨_, hw.set hL (e' := .row e size v' (n + m) (xs ++ news)) (by simpa [Ent.blk] using h4) h3 ?_, rfl⟩
  rcases h5 with h5 | h5
  · exact .inl h5
  · right
    intro b hb
    simp only [Ent.blk, h5] at hb
    cases hb
    exact Nat.le_refl _
end
end Go.AW
