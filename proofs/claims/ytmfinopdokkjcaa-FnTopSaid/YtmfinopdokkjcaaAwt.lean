/- Pointers to what lies in the memory; results of which only a part is kept. No statement of the seat is proved here. -/
import Derived.Test.YtmfinopdokkjcaaAws
import Derived.Laws.BitsAllLaws
import Derived.Laws.Shifts
namespace Go.AW
open Go Go.RowKit
set_option linter.unusedVariables false
set_option linter.unusedSimpArgs false
section
variable {E : List Nat} {P : Program} {N : Nat} {w0 : World} {s : Fr} {L : List Ent} {d : Option Nat} {ty : TypeId} {pos : String} {aft : Array Edge} {g : Option (Nat × Bool)} {k : List It} {fn : Func} {Q : Value → List Ent → Prop}
/-- The block p, read as one element of m cells. -/
abbrev boxS (p : Nat) : Value := .slice (some ⟨p, 0, none⟩) 1 1
theorem RdP {w : World} {p m : Nat} {xs : List Value} (h : Rd w (boxS p) m 1 xs) {j : Nat} {u : Value} (hu : xs[j]? = some u) : w.cell? ⟨p, j, none⟩ = some u := by
  obtain ⟨_, A, c, e, _, hh⟩ := h
  cases e
  obtain ⟨a, ha, hcell⟩ := hh (by have := (List.getElem?_eq_some_iff.1 hu).1; omega)
  cases ha
  have := hcell j u hu
  rwa [add_lit, Nat.zero_add] at this
theorem Pure.ldP {T p j m : Nat} {x : Operand} {xs : List Value} {u : Value} (hT : cellT P T = some none) (hx : ev s x = some (.pointer (some ⟨p, j, none⟩))) (hr : RdL w0 L (boxS p) m 1 xs) (hu : xs[j]? = some u) : Pure P N w0 s L ⟨d, .load T x, ty, pos, aft, g⟩ u := by
  intro A w ha hw
  have h1 := (cellT_one hT w).1
  have h2 := RdP (hr w hw) hu
  simp [execOp, ha.ev hx, Instr.loadAt, Instr.sureAddr, loadVar, h1, run_load, h2]
theorem Pure.ldPA {T p j m n : Nat} {x : Operand} {xs seg : List Value} (hT : cellT P T = some (some n)) (hx : ev s x = some (.pointer (some ⟨p, j, none⟩))) (hr : RdL w0 L (boxS p) m 1 xs) (hu : (xs.drop j).take n = seg) (hl : seg.length = n) :
    Pure P N w0 s L ⟨d, .load T x, ty, pos, aft, g⟩ (.agg seg.toArray) := by
  intro A w ha hw
  have h1 := cellT_agg hT w
  have h2 := run_loadCells_list (P := P) w ⟨p, j, none⟩ seg (fun k u hi => by rw [add_lit]; exact RdP (hr w hw) (get_of_seg hu hi))
  rw [hl] at h2
  simp [execOp, ha.ev hx, Instr.loadAt, Instr.sureAddr, loadVar, h1.1, h1.2, h2]
theorem Stores.box1 {T b t j : Nat} {x y : Operand} {cs : List Value} {u : Value} (i : Nat) (hL : L[i]? = some (.box b t cs)) (hx : ev s x = some (.pointer (some ⟨b, j, none⟩))) (hy : ev s y = some u) (hT : (P.info? T).map (·.size) = some 1) (h1 : u.oneCell' = true) (hj0 : Nat.ble (j + 1) cs.length = true) :
    Stores P N w0 s L ⟨d, .store T x y, ty, pos, aft, g⟩ (L.set i (.box b t (cs.set j u))) := by
  have hc := cells_one h1
  have hj := Nat.le_of_ble_eq_true hj0
  exact Stores.box i hL hx hy (by rw [hc]; exact hT) (by rw [hc]; simpa using h1) (by rw [hc]; exact hj0) (by rw [hc]; exact over_one cs j u hj)
theorem Stores.boxJ {T b t j : Nat} {x y : Operand} {cs : List Value} {u : Value} (i : Nat) (hL : L[i]? = some (.box b t cs)) (hx : ev s x = some (.pointer (some ⟨b, j, none⟩))) (hy : ev s y = some u) (hT : (P.info? T).map (·.size) = some 1) (h1 : u.oneCell' = true) (hj : j < cs.length) :
    Stores P N w0 s L ⟨d, .store T x y, ty, pos, aft, g⟩ (L.set i (.box b t (cs.set j u))) := by
  have hc := cells_one h1
  exact Stores.box i hL hx hy (by rw [hc]; exact hT) (by rw [hc]; simpa using h1) (by rw [hc]; exact Nat.ble_eq_true_of_le hj) (by rw [hc]; exact over_one cs j u hj)
theorem RdL.boxTail {b t m n : Nat} {zs : List Value} {o : List Int} (i : Nat) (h : L[i]? = some (.box b t (zs ++ bytes o))) (hm : zs.length = m) (hn : m + o.length = n) : RdL w0 L (subS (.slice (some ⟨b, 0, none⟩) n n) 1 m n) 1 (n - m) (bytes o) := by
  intro w hw
  have h1 := (RdL.boxN (n := n) i h (by rw [List.length_append, length_bytes]; omega) w hw).sub (lo := m) (hi := n) (by omega) (Nat.le_refl _)
  rw [Nat.mul_one, Nat.mul_one, ← hm, List.drop_left, List.take_of_length_le (by rw [length_bytes]; omega)] at h1
  rw [← hm]
  exact h1
theorem Any.splitG {R : Exit → Act → World → Prop} {ops : Array Oper} {fuel : Nat} {listed : Array Bool} {b : Bool} (n : Nat) (_h : lk s n = some (.bool b)) (ht : b = true → Any E P N w0 R ops fuel listed k s L) (hf : b = false → Any E P N w0 R ops fuel listed k s L) : Any E P N w0 R ops fuel listed k s L := by
  cases b with
  | true => exact ht rfl
  | false => exact hf rfl
theorem yielded_undef {R : Exit → Act → World → Prop} {ops : Array Oper} {a : Act} {j dj : Nat} {oj : Oper} (ha : FrOK N s a) (hj : ops[j]? = some oj) (hdj : oj.dst = some dj) (hb : lk s dj = some undef) : yielded ops a.tmps j = none := by
  have h0 := ha.slot dj _ hb
  simp only [yielded, hj, Option.bind_some, hdj]
  rw [Array.getD_eq_getD_getElem?] at h0
  cases hh : a.tmps[dj]? with
  | none => rfl
  | some u => rw [hh] at h0; simp only [Option.getD_some] at h0; rw [h0]; rfl
/-- A guarded operation whose test was itself passed over. -/
theorem Any.takeU {R : Exit → Act → World → Prop} {ops : Array Oper} {fuel : Nat} {listed : Array Bool} {ty : TypeId} {pos : String} {aft : Array Edge} {dd j dj : Nat} {want : Bool} {op : Op} {oj : Oper} (i : Nat) (hi : ops[i]? = some ⟨some dd, op, ty, pos, aft, some (j, want)⟩) (ht : take0 ops listed i = true) (hN : Nat.blt dd N = true)
    (hj : ops[j]? = some oj) (hdj : oj.dst = some dj) (hb : lk s dj = some undef)
    (h : Any E P N w0 R ops fuel (listed.setIfInBounds i true) k ((dd, undef) :: s) L) : Any E P N w0 R ops (fuel + 1) listed k s L := by
  intro a ha
  obtain ⟨h1, h2, h3⟩ := take0_spec hi ht
  exact anyL_firstA hi h1 fuel listed a L h3 h2.2 (.inr ⟨by simp [Region.wanted, yielded_undef (R := R) ha hj hdj hb], rfl⟩) (h _ (ha.put hN undef))
theorem Ops.guardU {R : Exit → Act → World → Prop} {all : Array Oper} {rest : List Oper} {ty : TypeId} {pos : String} {aft : Array Edge} {dd j dj : Nat} {want : Bool} {op : Op} {oj : Oper} (hN : Nat.blt dd N = true) (hj : all[j]? = some oj) (hdj : oj.dst = some dj) (hb : lk s dj = some undef)
    (hf : Ops P N w0 R all rest k ((dd, undef) :: s) L) : Ops P N w0 R all (⟨some dd, op, ty, pos, aft, some (j, want)⟩ :: rest) k s L := by
  intro a w ha hw'
  unfold wpList
  rw [if_neg (by simp [Region.wanted, yielded_undef (R := R) ha hj hdj hb])]
  exact hf _ _ (ha.put hN undef) hw'
/-- An empty slice literal. -/
theorem Loud.lit0 {T e size bytes : Nat} {z : Value} (hT : SlT P T e size bytes z) : Loud P N w0 s L ⟨d, .buildSlice T 0 #[], ty, pos, aft, g⟩ fun v L' => L' = .row e size v 0 [] :: L := by
  intro a w ha hw
  obtain ⟨i, hi, hz, hs, hby⟩ := hT.parts
  have hr : (execOp a.eval ⟨d, .buildSlice T 0 #[], ty, pos, aft, g⟩).run P w = .ok (.value (.slice (some ⟨w.heap.size, 0, none⟩) 0 0)) (w.alloc (.cells #[] e)) := by
    simp [execOp, Instr.buildSlice, run_underlying hT.under, hT.size_run, newRow, Instr.fill]
    congr 2
    apply Array.ext'
    simp
  rw [hr]
  refine ⟨_, hw.trans (Sat.one (e := .row e size (.slice (some ⟨w.heap.size, 0, none⟩) 0 0) 0 []) (World.grownBy_alloc w _ none) ?_), rfl⟩
  have h9 := World.ownsRow_lit (base := w.heap.size) (e := e) (size := size) w #[] 0 (Nat.le_refl _) (by simp only [maxLen]; omega) (by simp)
  simpa [Ent.holds] using h9
theorem Pure.have_ {φ : Prop} {o : Oper} {v : Value} (h : ∀ w, Sat w0 w L → φ) (hk : φ → Pure P N w0 s L o v) : Pure P N w0 s L o v := fun a w ha hw => hk (h w hw) a w ha hw
theorem Stores.have_ {φ : Prop} {o : Oper} {L' : List Ent} (h : ∀ w, Sat w0 w L → φ) (hk : φ → Stores P N w0 s L o L') : Stores P N w0 s L o L' := fun a w ha hw => hk (h w hw) a w ha hw
abbrev byteV (l : List Int) : List Value := AW.bytes l
theorem Sat.front {w : World} {e : Ent} (i : Nat) (h : L[i]? = some e) (hw : Sat w0 w L) : Sat w0 w (e :: L.eraseIdx i) := hw.perm (perm_eraseIdx L i e h).symm
theorem Run.retCx {L' : List Ent} {c T b t m : Nat} {cs : List Value} (i : Nat) (hr : fn.results = #[.cell c T]) (hv : lk s c = some (.pointer (some ⟨b, 0, none⟩))) (hL : L[i]? = some (.box b t cs)) (hT : cellT P T = some (some m)) (hm : cs.length = m) (he : Ext L' L) (h : Q (.agg cs.toArray) L') :
    Run P N w0 (rp P fn w0 Q) (.code .ret :: k) s L :=
  Run.ret fun a w ha hw => bodyPost_ret (v := .agg cs.toArray) (by simp [results, hr, ha.slotG c _ hv, asAddr, run_loadVar_box hw i hL hT hm]) ha.defers ⟨_, L', rfl, hw.ext he, h⟩
theorem Run.retC1x {L' : List Ent} {c T b t m u : Nat} {cs : List Value} {v : Value} (i : Nat) (hr : fn.results = #[.cell c T, .tmp u]) (hv : lk s c = some (.pointer (some ⟨b, 0, none⟩))) (hu : lk s u = some v) (hL : L[i]? = some (.box b t cs)) (hT : cellT P T = some (some m)) (hm : cs.length = m) (he : Ext L' L) (h : Q (.tuple #[.agg cs.toArray, v]) L') :
    Run P N w0 (rp P fn w0 Q) (.code .ret :: k) s L :=
  Run.ret fun a w ha hw => bodyPost_ret (v := .tuple #[.agg cs.toArray, v]) (by simp [results, hr, ha.slotG c _ hv, ha.slotG u _ hu, asAddr, run_loadVar_box hw i hL hT hm]) ha.defers ⟨_, L', rfl, hw.ext he, h⟩
theorem Run.retC2x {L' : List Ent} {c T b t m u u' : Nat} {cs : List Value} {v v' : Value} (i : Nat) (hr : fn.results = #[.cell c T, .tmp u, .tmp u']) (hv : lk s c = some (.pointer (some ⟨b, 0, none⟩))) (hu : lk s u = some v) (hu' : lk s u' = some v') (hL : L[i]? = some (.box b t cs)) (hT : cellT P T = some (some m)) (hm : cs.length = m) (he : Ext L' L) (h : Q (.tuple #[.agg cs.toArray, v, v']) L') :
    Run P N w0 (rp P fn w0 Q) (.code .ret :: k) s L :=
  Run.ret fun a w ha hw => bodyPost_ret (v := .tuple #[.agg cs.toArray, v, v']) (by simp [results, hr, ha.slotG c _ hv, ha.slotG u _ hu, ha.slotG u' _ hu', asAddr, run_loadVar_box hw i hL hT hm]) ha.defers ⟨_, L', rfl, hw.ext he, h⟩
theorem Loud.callOF {f : Nat} {x : Operand} {l : List Operand} {vs caps vs' : List Value} {T : Array TypeId} {Q : Value → List Ent → Prop} (hf : FnOk P f) (hx : ev s x = some (.func (.func f) #[] caps.toArray)) (hl : evs s l = some vs)
    (hvs : vs ++ caps = vs') (hc : ∀ w, Sat w0 w L → RetO P f vs' w0 w Q) : Loud P N w0 s L ⟨d, .call { callee := .value x, args := l.toArray, argTypes := T }, ty, pos, aft, g⟩ Q := by
  intro a w ha hw
  subst hvs
  rw [run_callF hf hx hl ha]
  have hc' := hc w hw
  unfold RetO at hc'
  rw [← List.append_toArray] at hc'
  exact hc'
theorem Pure.makeFuncN {fn : Fn} {l : List Operand} {vs : List Value} (hl : evs s l = some vs) : Pure P N w0 s L ⟨d, .makeFunc fn #[] l.toArray, ty, pos, aft, g⟩ (.func fn #[] vs.toArray) := by
  intro a w ha _
  have e : l.toArray.map a.eval = vs.toArray := by rw [List.map_toArray, ha.evs hl]
  simp [execOp, Instr.makeFunc, ← e]
theorem Pure.shr {T T' : TypeId} {x y : Operand} {kk yk : IntKind} {m n : Int} (hx : ev s x = some (.int kk m)) (hy : ev s y = some (.int yk n)) (h0 : 0 ≤ n) : Pure P N w0 s L ⟨d, .binOp .shr T x y T', ty, pos, aft, g⟩ (.int kk (m / 2 ^ min n.toNat kk.bits)) := by
  intro a w ha _
  have hr : (binOp .shr T (.int kk m) (.int yk n)).run P w = .ok (.int kk (m / 2 ^ min n.toNat kk.bits)) w := by
    show (Op.shift .shr kk m yk n).run P w = _
    rw [shift_shr_any kk yk m n h0]
    rfl
  simp [execOp, ha.ev hx, ha.ev hy, hr, eqGuard_at_int]
theorem and_255 {m : Int} (h0 : 0 ≤ m) (h1 : m < 18446744073709551616) : bits .and .u64 m 255 = m % 256 := by
  rw [u64_and m 255 h0 h1 (by omega) (by omega)]
  show ((m.toNat &&& 255 : Nat) : Int) = m % 256
  rw [show (255 : Nat) = 2 ^ 8 - 1 from rfl, Nat.and_two_pow_sub_one_eq_mod]
  omega
theorem Pure.and255 {T T' : TypeId} {x y : Operand} {m : Int} (hx : ev s x = some (.int .u64 m)) (hy : ev s y = some (.int .u64 255)) (h0 : 0 ≤ m) (h1 : m < 18446744073709551616) : Pure P N w0 s L ⟨d, .binOp .and T x y T', ty, pos, aft, g⟩ (.int .u64 (m % 256)) :=
  .int2 hx hy fun w => by rw [binOp_and, intBits_and, and_255 h0 h1]; rfl
end
end Go.AW
