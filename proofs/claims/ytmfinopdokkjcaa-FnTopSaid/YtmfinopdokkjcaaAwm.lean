/- Rules for maps that a call makes itself and uses as sets: each key's value is true. No statement of the seat is proved here. -/
import Derived.Test.YtmfinopdokkjcaaAwt
namespace Go.AW
open Go Go.RowKit Go.MapKept
set_option linter.unusedVariables false
set_option linter.unusedSimpArgs false
section
variable {P : Program} {N : Nat} {w0 : World} {R : Exit → Act → World → Prop} {k : List It} {s : Fr} {L : List Ent}
variable {d : Option Nat} {ty : TypeId} {pos : String} {aft : Array Edge} {g : Option (Nat × Bool)}

/-- A key put into a list of keys. -/
def addK {α : Type} [DecidableEq α] (l : List α) (x : α) : List α := if x ∈ l then l else l ++ [x]
theorem mem_addK {α : Type} [DecidableEq α] {l : List α} {x y : α} : y ∈ addK l x ↔ y ∈ l ∨ y = x := by
  unfold addK
  split
  · rename_i h
    exact ⟨.inl, fun hh => hh.elim id (fun e => e ▸ h)⟩
  · simp
theorem grown_setObj {w : World} {b : Nat} (o : Obj) : w.grownBy { w with heap := w.heap.setIfInBounds b o } (some b) :=
  ⟨rfl, rfl, rfl, by simp, fun c _ hk => by simp [show b ≠ c from fun e => hk (by rw [e])]⟩

/-- A new map, to be used as a set. -/
theorem Loud.makeMap {T : TypeId} (dd : TypeDesc) : Loud P N w0 s L ⟨d, .makeMap T none, ty, pos, aft, g⟩ fun v L' => ∃ b, v = .map (some b) ∧ L' = .mp b dd [] :: L := by
  intro a w _ hw
  have hr : (execOp a.eval ⟨d, .makeMap T none, ty, pos, aft, g⟩).run P w = .ok (.value (.map (some w.heap.size))) (w.alloc (.map #[] 0)) := by
    have hmk : (Instr.makeMap T none).run P w = .ok (.map (some w.heap.size)) (w.alloc (.map #[] 0)) := rfl
    simp [execOp, hmk]
  rw [hr]
  exact ⟨_, hw.trans (Sat.one (e := .mp w.heap.size dd []) (World.grownBy_alloc w _ none) ⟨Nat.le_refl _, #[], 0, (heap_alloc w _).1, by simp, rfl⟩), w.heap.size, rfl, rfl⟩

variable {α : Type} [DecidableEq α] {T kt et : TypeId} {dd : TypeDesc} {enc : α → Value} {l : List α} {b : Nat} {u : α} {x y z : Operand}
omit [DecidableEq α] in
theorem mem_keys (hi : ∀ a c, enc a = enc c → a = c) {es : Array MapEntry} (hl : es.toList.map (fun x => x.key) = l.map enc) : (∃ e ∈ es.toList, e.key = enc u) ↔ u ∈ l := by
  have h1 : enc u ∈ l.map enc ↔ u ∈ l := by
    rw [List.mem_map]
    exact ⟨fun ⟨a, ha, e⟩ => hi _ _ e ▸ ha, fun h => ⟨u, h, rfl⟩⟩
  rw [← h1, ← hl, List.mem_map]
/-- A key is put into a set. -/
theorem Stores.mapU (i : Nat) (hm : P.underlying T = some (.map kt et)) (hd : P.underlying kt = some dd) (hk : ∀ a, IsKey dd (enc a)) (hi : ∀ a c, enc a = enc c → a = c) (hL : L[i]? = some (.mp b dd (l.map enc)))
    (hx : ev s x = some (.map (some b))) (hy : ev s y = some (enc u)) (hz : ev s z = some (.bool true)) : Stores P N w0 s L ⟨d, .mapUpdate T x y z, ty, pos, aft, g⟩ (L.set i (.mp b dd ((addK l u).map enc))) := by
  intro a w ha hw
  obtain ⟨hb, es, clock, hh, hks, hl⟩ := hw.own _ (List.mem_of_getElem? hL)
  rcases findNow_spec (hk u) es.toList 0 (fun x hx => (hks x hx).1) with ⟨h1, h2⟩ | ⟨j, e, h1, h2, h3⟩
  · have hno : u ∉ l := fun h => by
      obtain ⟨e, he, h4⟩ := (mem_keys hi hl).2 h
      exact h2 e he h4
    refine ⟨{ w with heap := w.heap.setIfInBounds b (.map (es.push { key := enc u, val := .bool true, born := clock }) (clock + 1)) }, ?_, hw.set hL (e' := .mp b dd _) (grown_setObj _) ⟨hb, _, _, (heap_set hh).1, ?_, ?_⟩ (.inl rfl)⟩
    · simp [execOp, ha.ev hx, ha.ev hy, ha.ev hz, Instr.mapUpdate, run_underlying hm, MapKept.run_getObj_map hh, run_checkKey hd (hk u), run_findKey hd h1, MapKept.run_setObj_map _ hh, Result.andThen]
    · intro x hx
      simp only [Array.toList_push, List.mem_append, List.mem_singleton] at hx
      rcases hx with hx | rfl
      · exact hks x hx
      · exact ⟨hk u, rfl⟩
    · unfold addK
      rw [if_neg hno, Array.toList_push, List.map_append, List.map_append, hl]
      rfl
  · have hj : es[j]? = some e := by simpa using h2
    have hyes : u ∈ l := (mem_keys hi hl).1 ⟨e, List.mem_of_getElem? h2, h3⟩
    have hsame : (es.modify j fun e => { e with key := enc u, val := .bool true }) = es := by
      apply Array.ext_getElem?
      intro m
      rw [Array.getElem?_modify]
      by_cases em : j = m
      · subst em
        rw [if_pos rfl, hj]
        have h5 := (hks e (List.mem_of_getElem? h2)).2
        rw [← h3, ← h5]
        rfl
      · rw [if_neg em]
    refine ⟨{ w with heap := w.heap.setIfInBounds b (.map es clock) }, ?_, hw.set hL (e' := .mp b dd _) (grown_setObj _) ⟨hb, es, clock, (heap_set hh).1, hks, ?_⟩ (.inl rfl)⟩
    · simp [execOp, ha.ev hx, ha.ev hy, ha.ev hz, Instr.mapUpdate, run_underlying hm, MapKept.run_getObj_map hh, run_checkKey hd (hk u), run_findKey hd h1, hj, h3, run_keyThatStays (hk u), MapKept.run_setObj_map _ hh, Result.andThen, hsame]
    · unfold addK
      rw [if_pos hyes]
      exact hl
/-- Whether a key is in a set. -/
theorem Pure.mapL (i : Nat) (hm : P.underlying T = some (.map kt et)) (hd : P.underlying kt = some dd) (hk : ∀ a, IsKey dd (enc a)) (hi : ∀ a c, enc a = enc c → a = c) (hL : L[i]? = some (.mp b dd (l.map enc)))
    (hx : ev s x = some (.map (some b))) (hy : ev s y = some (enc u)) (hz : (P.info? et).map (·.zero) = some (some (.bool false))) : Pure P N w0 s L ⟨d, .lookup T x y false, ty, pos, aft, g⟩ (.bool (decide (u ∈ l))) := by
  intro a w ha hw
  obtain ⟨hb, es, clock, hh, hks, hl⟩ := hw.own _ (List.mem_of_getElem? hL)
  obtain ⟨inf, hie, hiz⟩ := Option.map_eq_some_iff.1 hz
  rcases findNow_spec (hk u) es.toList 0 (fun x hx => (hks x hx).1) with ⟨h1, h2⟩ | ⟨j, e, h1, h2, h3⟩
  · have hno : u ∉ l := fun h => by
      obtain ⟨e, he, h4⟩ := (mem_keys hi hl).2 h
      exact h2 e he h4
    rw [decide_eq_false hno]
    simp [execOp, ha.ev hx, ha.ev hy, Instr.lookup, run_underlying hm, MapKept.run_getObj_map hh, run_checkKey hd (hk u), run_findKey hd h1, Result.andThen, zeroValue, typeInfo, hie, hiz]
  · have hyes : u ∈ l := (mem_keys hi hl).1 ⟨e, List.mem_of_getElem? h2, h3⟩
    have h5 := (hks e (List.mem_of_getElem? h2)).2
    rw [decide_eq_true hyes]
    simp [execOp, ha.ev hx, ha.ev hy, Instr.lookup, run_underlying hm, MapKept.run_getObj_map hh, run_checkKey hd (hk u), run_findKey hd h1, Result.andThen, h5]
/-- An element of an array that is a value. -/
theorem Pure.idxV {T n e : Nat} {i : Int} {kk : IntKind} {cs : Array Value} {v : Value} {x y : Operand} (hT : P.underlying T = some (.array n e)) (he : cellT P e = some none) (hx : ev s x = some (.agg cs)) (hy : ev s y = some (.int kk i)) (h0 : 0 ≤ i) (h1 : i < n) (hv : cs[i.toNat]? = some v) :
    Pure P N w0 s L ⟨d, .index T x y, ty, pos, aft, g⟩ v := by
  intro A w ha hw
  obtain ⟨c1, c2⟩ := cellT_one he w
  simp [execOp, ha.ev hx, ha.ev hy, Instr.index, asIntOf, run_underlying hT, h0, h1, c1, c2, part, hv]
theorem Pure.idxVA {T n e m : Nat} {i : Int} {kk : IntKind} {cs : Array Value} {v : Value} {x y : Operand} (hT : P.underlying T = some (.array n e)) (he : cellT P e = some (some m)) (hx : ev s x = some (.agg cs)) (hy : ev s y = some (.int kk i)) (h0 : 0 ≤ i) (h1 : i < n) (hv : .agg (cs.extract (i.toNat * m) (i.toNat * m + m)) = v) :
    Pure P N w0 s L ⟨d, .index T x y, ty, pos, aft, g⟩ v := by
  intro A w ha hw
  obtain ⟨c1, c2⟩ := cellT_agg he w
  simp [execOp, ha.ev hx, ha.ev hy, Instr.index, asIntOf, run_underlying hT, h0, h1, c1, c2, part, hv]
theorem bits_and8 : ∀ k, k < 8 → bits .and .i64 ((k : Nat) : Int) 1 = ((k % 2 : Nat) : Int) ∧ bits .and .i64 ((k : Nat) : Int) 2 = ((2 * (k / 2 % 2) : Nat) : Int) ∧ bits .and .i64 ((k : Nat) : Int) 4 = ((4 * (k / 4) : Nat) : Int) := by decide
/-- One bit of a number below eight. -/
theorem Pure.bit1 {T T' : TypeId} {x y : Operand} {k : Nat} (hx : ev s x = some (.int .i64 (k : Int))) (hy : ev s y = some (.int .i64 1)) (h : k < 8) : Pure P N w0 s L ⟨d, .binOp .and T x y T', ty, pos, aft, g⟩ (.int .i64 ((k % 2 : Nat) : Int)) :=
  .int2 hx hy fun w => by rw [binOp_and, intBits_and, (bits_and8 k h).1]; rfl
theorem Pure.bit2 {T T' : TypeId} {x y : Operand} {k : Nat} (hx : ev s x = some (.int .i64 (k : Int))) (hy : ev s y = some (.int .i64 2)) (h : k < 8) : Pure P N w0 s L ⟨d, .binOp .and T x y T', ty, pos, aft, g⟩ (.int .i64 ((2 * (k / 2 % 2) : Nat) : Int)) :=
  .int2 hx hy fun w => by rw [binOp_and, intBits_and, (bits_and8 k h).2.1]; rfl
theorem Pure.bit4 {T T' : TypeId} {x y : Operand} {k : Nat} (hx : ev s x = some (.int .i64 (k : Int))) (hy : ev s y = some (.int .i64 4)) (h : k < 8) : Pure P N w0 s L ⟨d, .binOp .and T x y T', ty, pos, aft, g⟩ (.int .i64 ((4 * (k / 4) : Nat) : Int)) :=
  .int2 hx hy fun w => by rw [binOp_and, intBits_and, (bits_and8 k h).2.2]; rfl
theorem Pure.shr1 {T T' : TypeId} {x y : Operand} {k : Nat} {yk : IntKind} (hx : ev s x = some (.int .i64 (k : Int))) (hy : ev s y = some (.int yk 1)) : Pure P N w0 s L ⟨d, .binOp .shr T x y T', ty, pos, aft, g⟩ (.int .i64 ((k / 2 : Nat) : Int)) :=
  (Pure.shr hx hy (by decide)).cong (by rw [show (2 : Int) ^ min (1 : Int).toNat IntKind.i64.bits = 2 from rfl, Int.natCast_ediv]; rfl)
/-- How many keys a set has. -/
theorem Pure.lenM {T kt et : TypeId} {dd : TypeDesc} {ks : List Value} {b : Nat} {x : Operand} (i : Nat) (hm : P.underlying T = some (.map kt et)) (hL : L[i]? = some (.mp b dd ks)) (hx : ev s x = some (.map (some b))) :
    Pure P N w0 s L ⟨d, .call { callee := .builtin .len, args := #[x], argTypes := #[T] }, ty, pos, aft, g⟩ (.int .i64 ks.length) := by
  intro A w ha hw
  obtain ⟨hb, es, clock, hh, hks, hl⟩ := hw.own _ (List.mem_of_getElem? hL)
  have hsz : ks.length = es.size := by rw [← hl, List.length_map]; exact Array.length_toList
  rw [hsz]
  simp [execOp, ha.ev hx, resolve, invoke, builtin, Builtin.len_, run_underlying hm, MapKept.run_getObj_map hh, goInt, Result.andThen]
end
end Go.AW
