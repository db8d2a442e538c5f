/- The operations of the calculus that make or write memory, calls, the way into a function and out of it. No statement of the seat is proved here. -/
import Derived.Test.YtmfinopdokkjcaaAwp
namespace Go.AW
open Go Go.RowKit
set_option linter.unusedVariables false
set_option linter.unusedSimpArgs false

section
variable {P : Program} {N : Nat} {w0 : World} {R : Exit → Act → World → Prop} {k : List It} {s : Fr} {L : List Ent}
variable {d : Option Nat} {ty : TypeId} {pos : String} {aft : Array Edge} {g : Option (Nat × Bool)}

/-! ### Entries that turn -/

theorem Sat.one {w w' : World} {e : Ent} (hg : w.grownBy w' none) (h : e.holds w.heap.size w') : Sat w w' [e] :=
  ⟨(Below.refl _ _).grown hg (Nat.le_refl _) (fun k hk => by cases hk), by simpa using h, by simp⟩

theorem Sat.head {w w' : World} {e e' : Ent} {r : List Ent} (hw : Sat w0 w (e :: r)) (hg : w.grownBy w' e.blk) (he : e'.holds w0.heap.size w')
    (hb : e'.blk = e.blk ∨ ∀ b, e'.blk = some b → w.heap.size ≤ b) : Sat w0 w' (e' :: r) := by
  have hap := List.pairwise_cons.1 hw.apart
  refine ⟨hw.below.grown hg hw.size (fun b hb' => (Ent.blk_lt (hw.own e (by simp)) b hb').1), fun f hf => ?_, List.pairwise_cons.2 ⟨fun f hf => ?_, hap.2⟩⟩
  · rcases List.mem_cons.1 hf with rfl | hf
    · exact he
    · refine (hw.own f (by simp [hf])).keep fun b hbf => hg.block b (Ent.blk_lt (hw.own f (by simp [hf])) b hbf).2 ?_
      rcases hap.1 f hf with h | h
      · rw [h]; simp
      · rw [← hbf]; exact fun e => h e.symm
  · rcases hb with hb | hb
    · rw [hb]; exact hap.1 f hf
    · cases hbe : e'.blk with
      | none => exact .inl rfl
      | some b =>
        refine .inr fun hc => ?_
        have h1 := hb b hbe
        have h2 := (Ent.blk_lt (hw.own f (by simp [hf])) b hc.symm).2
        omega

theorem perm_set {α : Type} : ∀ (l : List α) (i : Nat) (e e' : α), l[i]? = some e → (e' :: l.eraseIdx i).Perm (l.set i e')
  | [], i, e, e', h => by simp at h
  | x :: l, 0, e, e', h => by simp
  | x :: l, i + 1, e, e', h => by
    simp only [List.getElem?_cons_succ] at h
    rw [List.eraseIdx_cons_succ, List.set_cons_succ]
    exact (List.Perm.swap x e' _).trans ((perm_set l i e e' h).cons x)

theorem Sat.set {w w' : World} {e e' : Ent} {i : Nat} (hw : Sat w0 w L) (hL : L[i]? = some e) (hg : w.grownBy w' e.blk) (he : e'.holds w0.heap.size w')
    (hb : e'.blk = e.blk ∨ ∀ b, e'.blk = some b → w.heap.size ≤ b) : Sat w0 w' (L.set i e') :=
  ((hw.perm (perm_eraseIdx L i e hL).symm).head hg he hb).perm (perm_set L i e e' hL)

/-! ### Loud operations -/

/-- What an operation, carried out, must come to: a value, or a call that returns one; a memory that fits; as 'Q' says. -/
def uponQ (P : Program) (w0 : World) (Q : Value → List Ent → Prop) : Result Next → Prop
  | .ok (.value v) w' => ∃ L', Sat w0 w' L' ∧ Q v L'
  | .ok (.enter f args) w' => Calls P f args w' fun e w'' => ∃ v L', e = .returned v ∧ Sat w0 w'' L' ∧ Q v L'
  | _ => False

/-- In every memory that fits, the operation yields a value and leaves a memory that fits, as 'Q' says. -/
def Loud (P : Program) (N : Nat) (w0 : World) (s : Fr) (L : List Ent) (o : Oper) (Q : Value → List Ent → Prop) : Prop :=
  ∀ a w, FrOK N s a → Sat w0 w L → uponQ P w0 Q ((execOp a.eval o).run P w)

theorem Oper.wp_of_uponQ {o : Oper} {a : Act} {w : World} {Q : Value → List Ent → Prop} {K : Act → World → Prop} {Qx : Exit → Act → World → Prop} (h : uponQ P w0 Q ((execOp a.eval o).run P w))
    (hK : ∀ v L' w', Sat w0 w' L' → Q v L' → K (a.put o.dst v) w') : o.wp P a w K Qx := by
  unfold Oper.wp
  generalize (execOp a.eval o).run P w = r at h
  cases r with
  | ok n w' =>
    cases n <;> simp only [uponQ] at h
    case value v => obtain ⟨L', h1, h2⟩ := h; exact hK v L' w' h1 h2
    case enter f args =>
      refine Calls.mono h ?_
      rintro e w'' ⟨v, L', rfl, h1, h2⟩
      exact hK v L' w'' h1 h2
  | halt x w' => simp only [uponQ] at h

theorem Ops.go {all : Array Oper} {rest : List Oper} {dd : Nat} {op : Op} {Q : Value → List Ent → Prop} (hN : Nat.blt dd N = true) (hp : Loud P N w0 s L ⟨some dd, op, ty, pos, aft, none⟩ Q)
    (h : ∀ v L', Q v L' → Ops P N w0 R all rest k ((dd, v) :: s) L') : Ops P N w0 R all (⟨some dd, op, ty, pos, aft, none⟩ :: rest) k s L := by
  intro a w ha hw
  refine wpList_plain rfl fun K hK => ?_
  exact Oper.wp_of_uponQ (hp a w ha hw) fun v L' w' hw' hq => hK _ _ (h v L' hq _ _ (ha.put hN v) hw')
/-- .. whose value goes nowhere. -/
theorem Ops.go_ {all : Array Oper} {rest : List Oper} {op : Op} {Q : Value → List Ent → Prop} (hp : Loud P N w0 s L ⟨none, op, ty, pos, aft, none⟩ Q)
    (h : ∀ v L', Q v L' → Ops P N w0 R all rest k s L') : Ops P N w0 R all (⟨none, op, ty, pos, aft, none⟩ :: rest) k s L := by
  intro a w ha hw
  refine wpList_plain rfl fun K hK => ?_
  exact Oper.wp_of_uponQ (hp a w ha hw) fun v L' w' hw' hq => hK _ _ (h v L' hq _ _ ha hw')

theorem Loud.mono {o : Oper} {Q Q' : Value → List Ent → Prop} (h : Loud P N w0 s L o Q) (hq : ∀ v L', Q v L' → Q' v L') : Loud P N w0 s L o Q' := by
  intro a w ha hw
  have h1 := h a w ha hw
  generalize (execOp a.eval o).run P w = r at h1
  cases r with
  | ok n w' =>
    cases n <;> simp only [uponQ] at h1 ⊢
    case value v => obtain ⟨L', h2, h3⟩ := h1; exact ⟨L', h2, hq _ _ h3⟩
    case enter f args => exact Calls.mono h1 fun e w'' ⟨v, L', h2, h3, h4⟩ => ⟨v, L', h2, h3, hq _ _ h4⟩
  | halt x w' => simp only [uponQ] at h1

/-- An operation that may draw, or call what makes memory of its own and drops it; its value hangs on nothing of that. -/
def Yld (P : Program) (w : World) (v : Value) : Result Next → Prop
  | .ok (.value u) w' => w' = w ∧ u = v
  | .ok (.enter f args) w' => w' = w ∧ Calls P f args w fun e w'' => e = .returned v ∧ Sat w w'' []
  | _ => False
def QOp (P : Program) (N : Nat) (w0 : World) (s : Fr) (L : List Ent) (o : Oper) (v : Value) : Prop :=
  ∀ a w, FrOK N s a → Sat w0 w L → Yld P w v ((execOp a.eval o).run P w)
theorem QOp.pure {o : Oper} {v : Value} (h : Pure P N w0 s L o v) : QOp P N w0 s L o v := fun a w ha hw => by rw [h a w ha hw]; exact ⟨rfl, rfl⟩
theorem QOp.loud {o : Oper} {v : Value} (h : QOp P N w0 s L o v) : Loud P N w0 s L o fun v' L' => v' = v ∧ L' = L := by
  intro a w ha hw
  have h1 := h a w ha hw
  generalize (execOp a.eval o).run P w = r at h1
  cases r with
  | ok n w' =>
    cases n <;> simp only [Yld] at h1
    case value u => obtain ⟨rfl, rfl⟩ := h1; exact ⟨L, hw, rfl, rfl⟩
    case enter f args =>
      obtain ⟨rfl, h2⟩ := h1
      refine Calls.mono h2 ?_
      rintro e w'' ⟨rfl, h3⟩
      exact ⟨v, L, rfl, by simpa using hw.trans h3, rfl, rfl⟩
  | halt x w' => simp only [Yld] at h1
theorem Ops.q {all : Array Oper} {rest : List Oper} {dd : Nat} {op : Op} {v : Value} (hN : Nat.blt dd N = true) (hp : QOp P N w0 s L ⟨some dd, op, ty, pos, aft, none⟩ v)
    (h : Ops P N w0 R all rest k ((dd, v) :: s) L) : Ops P N w0 R all (⟨some dd, op, ty, pos, aft, none⟩ :: rest) k s L :=
  Ops.go hN hp.loud (by rintro _ _ ⟨rfl, rfl⟩; exact h)

/-- A store. -/
def Stores (P : Program) (N : Nat) (w0 : World) (s : Fr) (L : List Ent) (o : Oper) (L' : List Ent) : Prop :=
  ∀ a w, FrOK N s a → Sat w0 w L → ∃ w', (execOp a.eval o).run P w = .ok .skip w' ∧ Sat w0 w' L'

theorem Ops.store {all : Array Oper} {rest : List Oper} {op : Op} {L' : List Ent} (hp : Stores P N w0 s L ⟨none, op, ty, pos, aft, none⟩ L')
    (h : Ops P N w0 R all rest k s L') : Ops P N w0 R all (⟨none, op, ty, pos, aft, none⟩ :: rest) k s L := by
  intro a w ha hw
  obtain ⟨w', hr, hw'⟩ := hp a w ha hw
  refine wpList_plain rfl fun K hK => ?_
  unfold Oper.wp
  rw [hr, Oper.upon_skip]
  exact hK _ _ (h _ _ ha hw')

theorem Sat.alloc {w : World} (hw : Sat w0 w L) (cs : Array Value) (t : Nat) : Sat w0 (w.alloc (.cells cs t)) (.box w.heap.size t cs.toList :: L) :=
  hw.trans (Sat.one (e := .box w.heap.size t cs.toList) (World.grownBy_alloc w _ none) ⟨Nat.le_refl _, by simpa using heap_alloc_new w (.cells cs t)⟩)

/-- 'var x T': a box with T's zero. -/
theorem Loud.alloc {T : Nat} {z : Value} {cs : List Value} (hz : (P.info? T).map (·.zero) = some (some z)) (hc : z.cells.toList = cs) :
    Loud P N w0 s L ⟨d, .alloc T, ty, pos, aft, g⟩ fun v L' => ∃ b, v = .pointer (some ⟨b, 0, none⟩) ∧ L' = .box b T cs :: L := by
  intro a w _ hw
  subst hc
  obtain ⟨i, hi, hzi⟩ := Option.map_eq_some_iff.1 hz
  have hr : (execOp a.eval ⟨d, .alloc T, ty, pos, aft, g⟩).run P w = .ok (.value (.pointer (some ⟨w.heap.size, 0, none⟩))) (w.alloc (.cells z.cells T)) := by
    simp [execOp, Instr.alloc, zeroValue, typeInfo, hi, hzi, newVar, newRow]
  rw [hr]
  exact ⟨_, hw.alloc z.cells T, w.heap.size, rfl, rfl⟩

/-- A parameter or a local whose address is taken: a box with its value. -/
theorem Loud.box {T : Nat} {x : Operand} {v : Value} {cs : List Value} (hx : ev s x = some v) (hc : v.cells.toList = cs) :
    Loud P N w0 s L ⟨d, .box T x, ty, pos, aft, g⟩ fun v L' => ∃ b, v = .pointer (some ⟨b, 0, none⟩) ∧ L' = .box b T cs :: L := by
  intro a w ha hw
  subst hc
  have hr : (execOp a.eval ⟨d, .box T x, ty, pos, aft, g⟩).run P w = .ok (.value (.pointer (some ⟨w.heap.size, 0, none⟩))) (w.alloc (.cells v.cells T)) := by
    simp [execOp, Instr.box, newVar, newRow, ha.ev hx]
  rw [hr]
  exact ⟨_, hw.alloc v.cells T, w.heap.size, rfl, rfl⟩

/-! stores -/

/-- 'xs' with 'ys' written over it from place j on. -/
def over (xs : List Value) (j : Nat) (ys : List Value) : List Value := xs.take j ++ ys ++ xs.drop (j + ys.length)
theorem over_one (xs : List Value) (j : Nat) (u : Value) (h : j < xs.length) : over xs j [u] = xs.set j u := by
  rw [List.set_eq_take_append_cons_drop, if_pos h]
  simp [over]
theorem length_over {xs ys : List Value} {j : Nat} (h : j + ys.length ≤ xs.length) : (over xs j ys).length = xs.length := by
  simp [over]; omega

theorem over_take (xs : List Value) (m j : Nat) (ys : List Value) (h : j + ys.length ≤ m) (hm : m ≤ xs.length) : over (xs.take m) j ys = (over xs j ys).take m := by
  simp only [over, List.take_take, List.append_assoc]
  rw [Nat.min_eq_left (by omega), List.take_append, List.length_take, Nat.min_eq_left (by omega), List.take_append, List.take_take, Nat.min_eq_right (by omega), List.take_of_length_le (l := ys) (by omega), List.drop_take]
  congr 3
  omega

theorem run_store_cells {w : World} {b t j : Nat} {cur : Array Value} (hg : w.heap[b]? = some (.cells cur t (0, 0))) (ys : List Value) (hj : j + ys.length ≤ cur.size) (h1 : ∀ u ∈ ys, u.oneCell' = true) :
    (storeCells ⟨b, j, none⟩ ys).run P w = .ok () (w.setRow b (over cur.toList j ys).toArray) := by
  have h := run_storeCells_at P b j t ys 0 cur w hg (by omega) h1
  simpa [over] using h

theorem run_storeVar {w : World} {T b t j : Nat} {cur : Array Value} {u : Value} (hsz : (sizeOf T).run P w = .ok u.cells.size w) (hg : w.heap[b]? = some (.cells cur t (0, 0))) (hj : j + u.cells.size ≤ cur.size) (h1 : ∀ x ∈ u.cells.toList, x.oneCell' = true) :
    (storeVar T ⟨b, j, none⟩ u).run P w = .ok () (w.setRow b (over cur.toList j u.cells.toList).toArray) := by
  simp [storeVar, hsz, run_store_cells hg u.cells.toList (by simpa using hj) h1]

theorem grown_setRow {w : World} (b : Nat) (cs : Array Value) : w.grownBy (w.setRow b cs) (some b) :=
  ⟨rfl, rfl, rfl, by simp [World.setRow], fun _ _ hk => setRow_other w b _ cs (fun e => hk (by rw [e]))⟩

/-- A store into a box. -/
theorem Stores.box {T b t j : Nat} {x y : Operand} {cs cs' : List Value} {u : Value} (i : Nat) (hL : L[i]? = some (.box b t cs))
    (hx : ev s x = some (.pointer (some ⟨b, j, none⟩))) (hy : ev s y = some u) (hT : (P.info? T).map (·.size) = some u.cells.size) (h1 : ∀ z ∈ u.cells.toList, z.oneCell' = true) (hj0 : Nat.ble (j + u.cells.size) cs.length = true) (hcs : over cs j u.cells.toList = cs') :
    Stores P N w0 s L ⟨d, .store T x y, ty, pos, aft, g⟩ (L.set i (.box b t cs')) := by
  intro a w ha hw
  have hj := Nat.le_of_ble_eq_true hj0
  subst hcs
  obtain ⟨inf, hi, hs⟩ := Option.map_eq_some_iff.1 hT
  have hsz : (sizeOf T).run P w = .ok u.cells.size w := by simp [sizeOf, typeInfo, hi, hs]
  have hg := hw.box hL
  have hr := run_storeVar (P := P) (j := j) (u := u) hsz hg (by simpa using hj) h1
  refine ⟨_, ?_, hw.set hL (e' := .box b t _) (by simpa [Ent.blk] using grown_setRow b _) ⟨(hw.own _ (List.mem_of_getElem? hL)).1, setRow_heap w b _ _ t (0, 0) hg⟩ (.inl rfl)⟩
  simp [execOp, ha.ev hx, ha.ev hy, Instr.storeAt, Instr.sureAddr, hr]

/-- A store into a row of the call's own. -/
theorem Stores.row {T t size n j : Nat} {v : Value} {x y : Operand} {xs xs' : List Value} {u : Value} (i : Nat) (hL : L[i]? = some (.row t size v n xs)) (hT : (P.info? T).map (·.size) = some u.cells.size)
    (hx : ev s x = some (ptrAt v j)) (hy : ev s y = some u) (h1 : ∀ z ∈ u.cells.toList, z.oneCell' = true) (hj : j + u.cells.size ≤ xs.length) (hpos : 0 < u.cells.size) (hxs : over xs j u.cells.toList = xs') :
    Stores P N w0 s L ⟨d, .store T x y, ty, pos, aft, g⟩ (L.set i (.row t size v n xs')) := by
  intro a w ha hw
  subst hxs
  obtain ⟨inf, hi, hs⟩ := Option.map_eq_some_iff.1 hT
  have hsz : (sizeOf T).run P w = .ok u.cells.size w := by simp [sizeOf, typeInfo, hi, hs]
  have hown := hw.own _ (List.mem_of_getElem? hL)
  obtain ⟨hl, hown2⟩ := hown
  rcases hown2 with ⟨_, h0⟩ | ⟨b, cap, cur, rfl, hb, hg, hn, hc, hcs, htk⟩
  · exfalso
    rw [hl, h0] at hj
    omega
  · have hlen : xs.length ≤ cur.size := by rw [← htk]; simp; omega
    have hr := run_storeVar (P := P) (j := j) (u := u) hsz hg (by omega) h1
    have hlo : (over cur.toList j u.cells.toList).length = cur.size := by rw [length_over] <;> simp; omega
    have hin : w.ownsRow w0.heap.size t size (.slice (some ⟨b, 0, none⟩) n cap) n xs := ⟨hl, .inr ⟨b, cap, cur, rfl, hb, hg, hn, hc, hcs, htk⟩⟩
    have hout : (w.setRow b (over cur.toList j u.cells.toList).toArray).ownsRow w0.heap.size t size (.slice (some ⟨b, 0, none⟩) n cap) n (over xs j u.cells.toList) := by
      refine ⟨by rw [length_over (by simpa using hj)]; exact hl, .inr ⟨b, cap, _, rfl, hb, setRow_heap w b _ _ t (0, 0) hg, hn, hc, by simpa [hlo] using hcs, ?_⟩⟩
      have e1 : n * size = xs.length := hl.symm
      have hj2 : j + u.cells.toList.length ≤ xs.length := by simpa using hj
      rw [e1]
      simp only [List.size_toArray] at *
      have e2 : xs = cur.toList.take xs.length := by rw [← e1]; exact htk.symm
      rw [← over_take cur.toList xs.length j u.cells.toList hj2 (by simpa using hlen), ← e2]
    refine ⟨w.setRow b (over cur.toList j u.cells.toList).toArray, ?_, hw.set hL (e' := .row t size (.slice (some ⟨b, 0, none⟩) n cap) n (over xs j u.cells.toList)) ?_ hout (.inl rfl)⟩
    · have hp : ptrAt (.slice (some ⟨b, 0, none⟩) n cap) j = .pointer (some ⟨b, j, none⟩) := by simp [ptrAt, add_lit]
      rw [hp] at hx
      simp [execOp, ha.ev hx, ha.ev hy, Instr.storeAt, Instr.sureAddr, hr]
    · exact grown_setRow b _

theorem cells_one {z : Value} (hz : z.oneCell' = true) : z.cells = #[z] := by cases z <;> first | rfl | simp [Value.oneCell'] at hz
theorem Stores.row1 {T t size n j : Nat} {v : Value} {x y : Operand} {xs : List Value} {u : Value} (i : Nat) (hL : L[i]? = some (.row t size v n xs)) (hT : (P.info? T).map (·.size) = some 1)
    (hx : ev s x = some (ptrAt v j)) (hy : ev s y = some u) (h1 : u.oneCell' = true) (hj : j < xs.length) :
    Stores P N w0 s L ⟨d, .store T x y, ty, pos, aft, g⟩ (L.set i (.row t size v n (xs.set j u))) := by
  have hc := cells_one h1
  exact Stores.row i hL (by rw [hc]; exact hT) hx hy (by rw [hc]; simpa using h1) (by rw [hc]; exact hj) (by rw [hc]; simp) (by rw [hc]; exact over_one xs j u hj)
theorem Stores.rowA {T t size n j m : Nat} {v : Value} {x y : Operand} {xs seg : List Value} (i : Nat) (hL : L[i]? = some (.row t size v n xs)) (hT : (P.info? T).map (·.size) = some m)
    (hx : ev s x = some (ptrAt v j)) (hy : ev s y = some (.agg seg.toArray)) (hm : seg.length = m) (h1 : ∀ z ∈ seg, z.oneCell' = true) (hj : j + m ≤ xs.length) (hpos : Nat.blt 0 m = true) :
    Stores P N w0 s L ⟨d, .store T x y, ty, pos, aft, g⟩ (L.set i (.row t size v n (over xs j seg))) := by
  rw [Nat.blt_eq] at hpos
  subst hm
  exact Stores.row i hL (by simpa [Value.cells] using hT) hx hy (by simpa [Value.cells] using h1) (by simpa [Value.cells] using hj) (by simpa [Value.cells] using hpos) (by simp [Value.cells])
end
end Go.AW
