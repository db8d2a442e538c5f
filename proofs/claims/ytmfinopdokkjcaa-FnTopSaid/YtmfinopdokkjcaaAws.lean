/- Parts of slices, slices that grow by zeros, texts of bytes, arrays. No statement of the seat is proved here. -/
import Derived.Test.YtmfinopdokkjcaaAwr
import Derived.Laws.BytesString
import Derived.Lib.AppendZerosOnto
import Derived.Great.BuildSlice
namespace Go.AW
open Go Go.RowKit
set_option linter.unusedVariables false
set_option linter.unusedSimpArgs false
section
variable {P : Program} {N : Nat} {w0 : World} {s : Fr} {L : List Ent} {d : Option Nat} {ty : TypeId} {pos : String} {aft : Array Edge} {g : Option (Nat × Bool)}

/-- A part of a slice. -/
def subS (v : Value) (size lo hi : Nat) : Value :=
  match v with
  | .slice a _ c => sliced a lo hi c size
  | x => x

theorem Rd.sub {w : World} {v : Value} {size n lo hi : Nat} {xs : List Value} (h : Rd w v size n xs) (h1 : lo ≤ hi) (h2 : hi ≤ n) : Rd w (subS v size lo hi) size (hi - lo) ((xs.drop (lo * size)).take ((hi - lo) * size)) := by
  obtain ⟨hl, A, c, rfl, hc, hh⟩ := h
  have hln : lo * size + (hi - lo) * size ≤ n * size := by rw [← Nat.add_mul]; exact Nat.mul_le_mul_right _ (by omega)
  have hlen : ((xs.drop (lo * size)).take ((hi - lo) * size)).length = (hi - lo) * size := by simp [hl]; omega
  refine ⟨hlen, _, _, rfl, by omega, fun hn => ?_⟩
  rw [hlen] at hn
  have hlt : lo < hi := by
    rcases Nat.lt_or_ge lo hi with h | h
    · exact h
    · rw [show hi - lo = 0 by omega, Nat.zero_mul] at hn; omega
  obtain ⟨a, rfl, hcell⟩ := hh (by rw [hl]; omega)
  refine ⟨a.add (lo * size), by rw [if_neg (by omega)]; rfl, fun j u hu => ?_⟩
  rw [add_add]
  exact hcell _ _ (get_of_seg rfl hu)
theorem Rd.sub1 {w : World} {v : Value} {n lo hi : Nat} {l : List Int} (h : Rd w v 1 n (ints l)) (h1 : lo ≤ hi) (h2 : hi ≤ n) : Rd w (subS v 1 lo hi) 1 (hi - lo) (ints ((l.drop lo).take (hi - lo))) := by
  have := h.sub h1 h2
  rw [Nat.mul_one, Nat.mul_one] at this
  simpa [ints, List.map_take, List.map_drop] using this

section
variable {T e size bytes : Nat} {z : Value} {x lo hi : Operand} {v : Value} {n : Nat} {xs : List Value}
theorem Pure.sliceLH {kl kh : IntKind} {l h : Int} (hT : SlT P T e size bytes z) (hr : RdL w0 L v size n xs) (hx : ev s x = some v) (hlo : ev s lo = some (.int kl l)) (hhi : ev s hi = some (.int kh h)) (h0 : 0 ≤ l) (h1 : l ≤ h) (h2 : h ≤ n) :
    Pure P N w0 s L ⟨d, .slice T x (some lo) (some hi) none, ty, pos, aft, g⟩ (subS v size l.toNat h.toNat) := by
  intro A w ha hw
  obtain ⟨hl, A', c, rfl, hc, hh⟩ := hr w hw
  have hT2 : P.underlying T = some (.slice (P.elem T)) := by rw [hT.elem]; exact hT.under
  have k := run_slice_lh (P := P) (w := w) T A' n c hT2 kl kh l h h0 h1 (by omega)
  rw [hT.elem, hT.size_run] at k
  simp only [Result.andThen_ok] at k
  simp [execOp, ha.ev hx, ha.ev hlo, ha.ev hhi, run_sliceAt_slice (h := hT2), k, subS]
theorem Pure.sliceL {kl : IntKind} {l : Int} (hT : SlT P T e size bytes z) (hr : RdL w0 L v size n xs) (hx : ev s x = some v) (hlo : ev s lo = some (.int kl l)) (h0 : 0 ≤ l) (h1 : l ≤ n) :
    Pure P N w0 s L ⟨d, .slice T x (some lo) none none, ty, pos, aft, g⟩ (subS v size l.toNat n) := by
  intro A w ha hw
  obtain ⟨hl, A', c, rfl, hc, hh⟩ := hr w hw
  have hT2 : P.underlying T = some (.slice (P.elem T)) := by rw [hT.elem]; exact hT.under
  have k := run_slice_l (P := P) (w := w) T A' n c hT2 kl l h0 h1
  rw [hT.elem, hT.size_run] at k
  simp only [Result.andThen_ok] at k
  simp [execOp, ha.ev hx, ha.ev hlo, run_sliceAt_slice (h := hT2), k, subS]
theorem Pure.sliceH {kh : IntKind} {h : Int} (hT : SlT P T e size bytes z) (hr : RdL w0 L v size n xs) (hx : ev s x = some v) (hhi : ev s hi = some (.int kh h)) (h0 : 0 ≤ h) (h2 : h ≤ n) :
    Pure P N w0 s L ⟨d, .slice T x none (some hi) none, ty, pos, aft, g⟩ (subS v size 0 h.toNat) := by
  intro A w ha hw
  obtain ⟨hl, A', c, rfl, hc, hh⟩ := hr w hw
  have hT2 : P.underlying T = some (.slice (P.elem T)) := by rw [hT.elem]; exact hT.under
  have k := run_slice_h (P := P) (w := w) T A' n c hT2 kh h h0 (by omega)
  rw [hT.elem, hT.size_run] at k
  simp only [Result.andThen_ok] at k
  simp [execOp, ha.ev hx, ha.ev hhi, run_sliceAt_slice (h := hT2), k, subS]
theorem Pure.sliceNil {kh : IntKind} (hT : SlT P T e size bytes z) (hx : ev s x = some (.slice none 0 0)) (hhi : ev s hi = some (.int kh 0)) :
    Pure P N w0 s L ⟨d, .slice T x none (some hi) none, ty, pos, aft, g⟩ (.slice none 0 0) := by
  intro A w ha hw
  have hT2 : P.underlying T = some (.slice (P.elem T)) := by rw [hT.elem]; exact hT.under
  have k := run_slice_h (P := P) (w := w) T none 0 0 hT2 kh 0 (by omega) (by omega)
  rw [hT.elem, hT.size_run] at k
  simp only [Result.andThen_ok] at k
  simp [execOp, ha.ev hx, ha.ev hhi, run_sliceAt_slice (h := hT2), k, sliced]
theorem Pure.capNil (hT : SlT P T e size bytes z) (hx : ev s x = some (.slice none 0 0)) : Pure P N w0 s L ⟨d, .call { callee := .builtin .cap, args := #[x], argTypes := #[T] }, ty, pos, aft, g⟩ (.int .i64 0) := by
  intro A w ha hw
  have hT2 : P.underlying T = some (.slice (P.elem T)) := by rw [hT.elem]; exact hT.under
  have k := run_cap_slice (P := P) (w := w) T ty none 0 0 hT2
  simp [execOp, ha.ev hx, resolve, invoke, builtin, k, goInt]

theorem Pure.lenNil (hT : SlT P T e size bytes z) (hx : ev s x = some (.slice none 0 0)) : Pure P N w0 s L ⟨d, .call { callee := .builtin .len, args := #[x], argTypes := #[T] }, ty, pos, aft, g⟩ (.int .i64 0) := by
  intro A w ha hw
  simp [execOp, ha.ev hx, resolve, invoke, builtin, Builtin.len_, run_underlying hT.under, goInt]

theorem ownsRow_sub {w : World} {base t h : Nat} (ho : w.ownsRow base t size v n xs) (h2 : h ≤ n) : w.ownsRow base t size (subS v size 0 h) h (xs.take (h * size)) := by
  obtain ⟨hl, hh⟩ := ho
  have hle : h * size ≤ n * size := Nat.mul_le_mul_right _ h2
  refine ⟨by rw [List.length_take, hl, Nat.min_eq_left hle], ?_⟩
  rcases hh with ⟨rfl, rfl⟩ | ⟨gg, cap, cur, rfl, hg, hb, hn, hm, hcs, hcur⟩
  · left
    have : h = 0 := by omega
    subst this
    exact ⟨by simp [subS, sliced], rfl⟩
  · right
    refine ⟨gg, cap, cur, ?_, hg, hb, by omega, hm, hcs, by rw [← hcur, List.take_take, Nat.min_eq_left hle]⟩
    by_cases e : cap = 0 <;> simp [subS, sliced, e, add_lit]

/-- 'own[:h]'. -/
theorem Loud.sliceH {kh : IntKind} {h : Nat} (i : Nat) (hL : L[i]? = some (.row e size v n xs)) (hT : SlT P T e size bytes z) (hx : ev s x = some v) (hhi : ev s hi = some (.int kh (h : Int))) (h2 : h ≤ n) :
    Loud P N w0 s L ⟨d, .slice T x none (some hi) none, ty, pos, aft, g⟩ fun v' L' => L' = L.set i (.row e size v' h (xs.take (h * size))) := by
  intro A w ha hw
  have hp := Pure.sliceH (P := P) (N := N) (w0 := w0) (d := d) (ty := ty) (pos := pos) (aft := aft) (g := g) hT (RdL.own i hL) hx hhi (by omega) (by omega) A w ha hw
  rw [Int.toNat_natCast] at hp
  rw [hp]
  have hown : w.ownsRow w0.heap.size e size v n xs := hw.own _ (List.mem_of_getElem? hL)
  refine ⟨_, hw.set hL (e' := .row e size (subS v size 0 h) h (xs.take (h * size))) ⟨rfl, rfl, rfl, Nat.le_refl _, fun _ _ _ => rfl⟩ (ownsRow_sub hown h2) ?_, rfl⟩
  left
  obtain ⟨_, hh⟩ := hown
  rcases hh with ⟨rfl, rfl⟩ | ⟨gg, cap, cur, rfl, _⟩
  · simp [Ent.blk, subS, sliced, Value.ownBlock]
  · by_cases e : cap = 0 <;> simp [Ent.blk, subS, sliced, Value.ownBlock, e, add_lit]

/-- 'append([]T(nil), make([]T, k)...)'. -/
theorem Loud.zeros {Tn k : Nat} {kq kn : IntKind} {x y : Operand} (hT : SlT P T e size bytes z) (htn : P.underlying Tn = some (.int kn)) (hx : ev s x = some (.slice none 0 0)) (hy : ev s y = some (.int kq (k : Int))) (h0 : 0 < k) (hb : k * bytes ≤ 140737488355328) (h63 : k ≤ 9223372036854775807) :
    Loud P N w0 s L ⟨d, .call { callee := .builtin .append, args := #[x, y], argTypes := #[T, Tn] }, ty, pos, aft, g⟩ fun v' L' => ∃ xs, xs.length = k * size ∧ L' = .row e size v' k xs :: L := by
  intro a w ha hw
  obtain ⟨i, hi, hz, hs, hby⟩ := hT.parts
  have hcap : Builtin.nextslicecap (0 + k) 0 * i.bytes ≤ 281474976710656 := by
    have h1 : Builtin.nextslicecap (0 + k) 0 = 0 + k := by unfold Builtin.nextslicecap; simp; omega
    rw [h1, hby, Nat.zero_add]
    omega
  have hr := Go.Lib.run_append_grow_zeros (P := P) w T Tn ty e i z kq kn hT.under htn hi hz none 0 0 [] (by simp [Builtin.firstCells]) k h0 (by rw [hs]; exact hT.pos) (by omega) (by omega) (by rw [hby]; omega) hcap
  have hr' : (execOp a.eval ⟨d, .call { callee := .builtin .append, args := #[x, y], argTypes := #[T, Tn] }, ty, pos, aft, g⟩).run P w =
      ((Builtin.append_ #[T, Tn] ty #[.slice none 0 0, .int kq k]).run P w).andThen fun v w' => .ok (.value v) w' := by
    simp [execOp, resolve, invoke, builtin, ha.ev hx, ha.ev hy]
  rw [hr', hr]
  simp only [Result.andThen_ok, Nat.zero_add]
  have hge := grownCap_ge w k 0 e
  have hle := grownCap_le_maxLen w k 0 e (by simp only [maxLen]; omega)
  have hzl := hT.cells
  generalize hC : grownCap w k 0 e = C at hge hle
  have hlen : ∀ m, (Builtin.zeroCells z.cells m).size = m * size := fun m => by
    rw [size_zeroCells, hzl]
  have hs1 := (hw.drew).alloc (([] : List Value).toArray ++ Builtin.zeroCells z.cells k ++ Builtin.zeroCells z.cells (C - k)) e
  refine ⟨_, hs1.head (e' := .row e size (.slice (some ⟨w.heap.size, 0, none⟩) k C) k ((([] : List Value).toArray ++ Builtin.zeroCells z.cells k ++ Builtin.zeroCells z.cells (C - k)).toList.take (k * size))) ⟨rfl, rfl, rfl, Nat.le_refl _, fun _ _ _ => rfl⟩ ?_ ?_, _, ?_, rfl⟩
  · have hsz : (([] : List Value).toArray ++ Builtin.zeroCells z.cells k ++ Builtin.zeroCells z.cells (C - k)).size = C * size := by
      simp only [Array.size_append, hlen]
      simp only [List.size_toArray, List.length_nil, Nat.zero_add]
      rw [← Nat.add_mul]
      congr 1
      omega
    refine ⟨?_, .inr ⟨w.heap.size, C, _, rfl, hw.size, (hs1.own _ (List.mem_cons_self ..)).2, hge, hle, hsz, rfl⟩⟩
    rw [List.length_take, Array.length_toList, hsz, Nat.min_eq_left]
    exact Nat.mul_le_mul_right _ hge
  · exact .inl rfl
  · rw [List.length_take, Array.length_toList]
    simp only [Array.size_append, hlen]
    simp only [List.size_toArray, List.length_nil, Nat.zero_add]
    omega
end
theorem Run.ext_ {R : Exit → Act → World → Prop} {k : List It} {L' : List Ent} (he : Ext L' L) (h : Run P N w0 R k s L') : Run P N w0 R k s L := fun a w ha hw => h a w ha (hw.ext he)
/-! texts of bytes -/
def bytes (l : List Int) : List Value := l.map (Value.int .u8)
theorem length_bytes (l : List Int) : (bytes l).length = l.length := by simp [bytes]
theorem bytes_get {l : List Int} {i : Nat} (h : i < l.length) : (bytes l)[i]? = some (.int .u8 (l.getD i 0)) := by
  simp [bytes, List.getD, List.getElem?_eq_getElem h]
def strOf (l : List Int) : ByteArray := ⟨(l.map fun n => UInt8.ofNat n.toNat).toArray⟩
theorem strOf_fold (l : List Int) : l.foldl (fun r n => r.push (UInt8.ofNat n.toNat)) ByteArray.empty = strOf l := by
  have h : ∀ (l : List Int) (r : ByteArray), (l.foldl (fun r n => r.push (UInt8.ofNat n.toNat)) r).data.toList = r.data.toList ++ l.map fun n => UInt8.ofNat n.toNat := by
    intro l
    induction l with
    | nil => intro r; simp
    | cons n l ih => intro r; rw [List.foldl_cons, ih]; simp [ByteArray.push]
  have h2 := h l ByteArray.empty
  have h3 : (l.foldl (fun r n => r.push (UInt8.ofNat n.toNat)) ByteArray.empty).data = (strOf l).data := by
    apply Array.ext'
    rw [h2]
    simp [strOf, ByteArray.empty, ByteArray.emptyWithCapacity]
    rfl
  cases hh : l.foldl (fun r n => r.push (UInt8.ofNat n.toNat)) ByteArray.empty
  rw [hh] at h3
  simp only at h3
  rw [h3]
theorem size_strOf (l : List Int) : (strOf l).size = l.length := by simp [strOf, ByteArray.size]
theorem strOf_append (a b : List Int) : strOf (a ++ b) = strOf a ++ strOf b := by
  have : (strOf (a ++ b)).data = (strOf a ++ strOf b).data := by
    rw [ByteArray.data_append]
    simp [strOf]
  cases h : strOf a ++ strOf b
  rw [h] at this
  simp only at this
  rw [← this]
section
variable {T T' e e' bytes' : Nat} {z : Value} {x : Operand} {v : Value} {n : Nat} {l : List Int}
/-- 'string(bytes)'. -/
theorem Pure.toStr (hT : SlT P T e 1 bytes' z) (he : P.underlying e = some (.int .u8)) (hd : P.underlying T' = some .string) (hx : ev s x = some v) (hr : RdL w0 L v 1 n (bytes l)) :
    Pure P N w0 s L ⟨d, .convert T T' x, ty, pos, aft, g⟩ (.string (strOf l)) := by
  intro A w ha hw
  obtain ⟨hl, A', c, rfl, hc, hh⟩ := hr w hw
  have h1 := run_convert_bytes_string (P := P) w T T' e A' n c hT.under he hd
  have h2 : (Conv.bytesToString (.slice A' n c)).run P w = .ok (.string (strOf l)) w := by
    have hln : l.length = n := by rw [length_bytes, Nat.mul_one] at hl; exact hl
    cases hA : A' with
    | none =>
      subst hA
      have h0 : l = [] := by
        cases hl2 : l with
        | nil => rfl
        | cons a r =>
          obtain ⟨a', ha', _⟩ := hh (by rw [length_bytes, hl2]; simp)
          cases ha'
      subst h0
      simp [Conv.bytesToString, strOf]
      rfl
    | some a =>
      subst hA
      have hk : (loadCells a n).run P w = .ok (l.map (Value.int .u8)).toArray w := by
        have h3 := run_loadCells_list (P := P) w a (bytes l) (fun j u hu => by
          obtain ⟨a', ha', hcell⟩ := hh (by have := (List.getElem?_eq_some_iff.1 hu).1; omega)
          cases ha'
          exact hcell j u hu)
        rw [length_bytes, hln] at h3
        exact h3
      rw [run_bytesToString w a n c l hk, strOf_fold]
  simp only [execOp, ha.ev hx, Sem.run_bind, h1, h2, Result.andThen_ok, Sem.run_pure]
end
section
variable {T : Nat} {x lo hi : Operand} {a : ByteArray}
theorem Pure.strL {kl : IntKind} {l : Int} (hT : P.underlying T = some .string) (hx : ev s x = some (.string a)) (hlo : ev s lo = some (.int kl l)) (h0 : 0 ≤ l) (h1 : l ≤ a.size) :
    Pure P N w0 s L ⟨d, .slice T x (some lo) none none, ty, pos, aft, g⟩ (.string (a.extract l.toNat a.size)) := by
  intro A w ha hw
  simp [execOp, ha.ev hx, ha.ev hlo, run_sliceAt_string (h := hT), run_slice_string_l (s := a) (P := P) (w := w) (t := T) (kl := kl) (l := l) (h0 := h0) (h1 := h1) (ht := hT)]
theorem Pure.strH {kh : IntKind} {h : Int} (hT : P.underlying T = some .string) (hx : ev s x = some (.string a)) (hhi : ev s hi = some (.int kh h)) (h0 : 0 ≤ h) (h1 : h ≤ a.size) :
    Pure P N w0 s L ⟨d, .slice T x none (some hi) none, ty, pos, aft, g⟩ (.string (a.extract 0 h.toNat)) := by
  intro A w ha hw
  simp [execOp, ha.ev hx, ha.ev hhi, run_sliceAt_string (h := hT), run_slice_string_h (s := a) (P := P) (w := w) (t := T) (kh := kh) (h := h) (h0 := h0) (h2 := h1) (ht := hT)]
theorem Pure.strLH {kl kh : IntKind} {l h : Int} (hT : P.underlying T = some .string) (hx : ev s x = some (.string a)) (hlo : ev s lo = some (.int kl l)) (hhi : ev s hi = some (.int kh h)) (h0 : 0 ≤ l) (h1 : l ≤ h) (h2 : h ≤ a.size) :
    Pure P N w0 s L ⟨d, .slice T x (some lo) (some hi) none, ty, pos, aft, g⟩ (.string (a.extract l.toNat h.toNat)) := by
  intro A w ha hw
  have eh : (h.toNat : Int) = h := Int.toNat_of_nonneg (by omega)
  have k : (Instr.slice T (.string a) (some (.int kl l)) (some (.int kh h)) none).run P w = .ok (.string (a.extract l.toNat h.toNat)) w := by
    simp [Instr.slice, run_underlying hT, Instr.sliceBounds, run_sliceBound, sliced, *, eh, (by omega : 0 ≤ l), (by omega : 0 ≤ h)]
  simp [execOp, ha.ev hx, ha.ev hlo, ha.ev hhi, run_sliceAt_string (h := hT), k]
end

/-! pointers, boxes as rows, arrays, builds -/
theorem Pure.nilchk {x : Operand} {a : Addr} (hx : ev s x = some (.pointer (some a))) : Pure P N w0 s L ⟨d, .nilCheck x, ty, pos, aft, g⟩ (.pointer (some a)) := by
  intro A w ha hw
  simp [execOp, ha.ev hx]
theorem Rd.boxM {w : World} {b t m : Nat} {cs : List Value} (h : w.heap[b]? = some (.cells cs.toArray t (0, 0))) (hm : cs.length = m) : Rd w (.slice (some ⟨b, 0, none⟩) 1 1) m 1 cs := by
  refine ⟨by omega, _, _, rfl, Nat.le_refl _, fun _ => ⟨_, rfl, fun j u hu => ?_⟩⟩
  rw [add_lit, cell_of_row w b (0 + j) _ t (0, 0) h]
  simpa using hu
theorem RdL.boxM {b t m : Nat} {cs : List Value} (i : Nat) (h : L[i]? = some (.box b t cs)) (hm : cs.length = m) : RdL w0 L (.slice (some ⟨b, 0, none⟩) 1 1) m 1 cs := fun _ hw => Rd.boxM (hw.box h) hm
theorem RdL.boxN {b t n : Nat} {cs : List Value} (i : Nat) (h : L[i]? = some (.box b t cs)) (hn : cs.length = n) : RdL w0 L (.slice (some ⟨b, 0, none⟩) n n) 1 n cs := fun w hw => by
  refine ⟨by omega, _, _, rfl, Nat.le_refl _, fun _ => ⟨_, rfl, fun j u hu => ?_⟩⟩
  rw [add_lit, cell_of_row w b (0 + j) _ t (0, 0) (hw.box h)]
  simpa using hu
section
variable {T e n b o : Nat} {x y : Operand}
theorem arr_len (hT : P.underlying T = some (.array n e)) : P.arrayLen T = n ∧ P.elem T = e := by simp [Program.arrayLen, Program.elem, hT]
theorem Pure.idxArr {i : Int} {kk : IntKind} (hT : P.underlying T = some (.array n e)) (hs : (P.info? e).map (·.size) = some 1) (hx : ev s x = some (.pointer (some ⟨b, o, none⟩))) (hy : ev s y = some (.int kk i)) (h0 : 0 ≤ i) (h1 : i < n) :
    Pure P N w0 s L ⟨d, .indexAddr T x y, ty, pos, aft, g⟩ (.pointer (some ⟨b, o + i.toNat, none⟩)) := by
  intro A w ha hw
  obtain ⟨e1, e2⟩ := arr_len hT
  have hr := run_indexAt_array (P := P) w T ⟨b, o, none⟩ kk i (by rw [e1, e2]; exact hT)
  obtain ⟨inf, hi, hsz⟩ := Option.map_eq_some_iff.1 hs
  rw [e1, e2, if_pos ⟨h0, h1⟩] at hr
  simp only [sizeOf, typeInfo, Sem.run_bind, run_program, hi, Result.andThen_ok, Sem.run_pure, hsz, Nat.mul_one, add_lit] at hr
  simp [execOp, ha.ev hx, ha.ev hy, hr]
theorem Pure.idxArrN {i : Nat} {kk : IntKind} (hT : P.underlying T = some (.array n e)) (hs : (P.info? e).map (·.size) = some 1) (hx : ev s x = some (.pointer (some ⟨b, o, none⟩))) (hy : ev s y = some (.int kk (i : Int))) (h1 : i < n) :
    Pure P N w0 s L ⟨d, .indexAddr T x y, ty, pos, aft, g⟩ (.pointer (some ⟨b, o + i, none⟩)) :=
  (Pure.idxArr hT hs hx hy (by omega) (by omega)).cong (by rw [Int.toNat_natCast])
theorem Pure.sliceArr {l : Int} {kl : IntKind} (hT : P.underlying T = some (.array n e)) (hs : (P.info? e).map (·.size) = some 1) (hx : ev s x = some (.pointer (some ⟨b, o, none⟩))) (hy : ev s y = some (.int kl l)) (h0 : 0 ≤ l) (h1 : l ≤ n) :
    Pure P N w0 s L ⟨d, .slice T x (some y) none none, ty, pos, aft, g⟩ (subS (.slice (some ⟨b, o, none⟩) n n) 1 l.toNat n) := by
  intro A w ha hw
  obtain ⟨e1, e2⟩ := arr_len hT
  have hr := run_sliceAt_array_l (P := P) (w := w) (t := T) (a := ⟨b, o, none⟩) (ht := by rw [e1, e2]; exact hT) kl l h0 (by rw [e1]; exact h1)
  obtain ⟨inf, hi, hsz⟩ := Option.map_eq_some_iff.1 hs
  rw [e1, e2] at hr
  simp only [sizeOf, typeInfo, Sem.run_bind, run_program, hi, Result.andThen_ok, Sem.run_pure, hsz] at hr
  simp only [execOp, ha.ev hx, ha.ev hy, Option.map_some, Option.map_none, Sem.run_bind, hr, Result.andThen_ok, Sem.run_pure, subS, sliced, slicedAt]
  by_cases hln : n = l.toNat
  · rw [if_pos hln, if_pos hln]
  · rw [if_neg hln, if_neg hln]
end
def evb (s : Fr) : List (Nat × Operand) → Option (List (Nat × Value))
  | [] => some []
  | (i, x) :: r => (ev s x).bind fun v => (evb s r).map fun vs => (i, v) :: vs
theorem FrOK.evb {s : Fr} {a : Act} (h : FrOK N s a) : ∀ {l : List (Nat × Operand)} {vs : List (Nat × Value)}, AW.evb s l = some vs → l.map (fun (j, x) => (j, a.eval x)) = vs
  | [], vs, e => by cases e; rfl
  | (i, x) :: r, vs, e => by
    simp only [AW.evb] at e
    cases hx : AW.ev s x with
    | none => rw [hx] at e; cases e
    | some v =>
      rw [hx] at e
      cases hr : AW.evb s r with
      | none => rw [hr] at e; cases e
      | some us =>
        rw [hr] at e
        have e' : (i, v) :: us = vs := Option.some.inj e
        subst e'
        rw [List.map_cons, h.evb hr]
        show (i, a.eval x) :: us = (i, v) :: us
        rw [h.ev hx]
theorem Pure.build {T : Nat} {l : List (Nat × Operand)} {vs : List (Nat × Value)} {cells : Array Value} (hl : evb s l = some vs) (hb : P.built T vs = some cells) : Pure P N w0 s L ⟨d, .build T l.toArray, ty, pos, aft, g⟩ (.agg cells) := by
  intro A w ha hw
  have hm : (l.toArray.map fun (x : Nat × Operand) => (x.1, A.eval x.2)) = vs.toArray := by rw [List.map_toArray, ← ha.evb hl]
  have hr := run_build (P := P) w T vs.toArray cells (by simpa using hb)
  simp only [execOp]
  rw [hm]
  simp [hr]
/-- A slice literal of one struct. -/
theorem Loud.litA {T e m bytes : Nat} {z : Value} {x : Operand} {cs : List Value} (hT : SlT P T e m bytes z) (hx : ev s x = some (.agg cs.toArray)) (hm : cs.length = m) (hsm : Nat.ble m 16777216 = true) :
    Loud P N w0 s L ⟨d, .buildSlice T 1 #[(0, x)], ty, pos, aft, g⟩ fun v L' => L' = .row e m v 1 cs :: L := by
  intro a w ha hw
  obtain ⟨i, hi, hz, hs, hby⟩ := hT.parts
  have hp := hT.pos
  have hsm' : m ≤ 16777216 := Nat.le_of_ble_eq_true hsm
  have hr := run_buildSlice (P := P) w T e 1 #[(0, .agg cs.toArray)] cs.toArray i z hT.under hi hz (by rw [hs]; omega) (by rw [hs]; omega) (by
    rw [hs]
    have h9 := Go.Great.fill_whole hp [.agg cs.toArray] ((Array.range (1 * m)).map (z.cells[· % z.cells.size]!)) (fun v hv => by
      have : v = .agg cs.toArray := by simpa using hv
      subst this
      simpa [Value.cells] using hm) (by simp)
    simpa [Value.cells] using h9)
  have hr2 : (execOp a.eval ⟨d, .buildSlice T 1 #[(0, x)], ty, pos, aft, g⟩).run P w = .ok (.value (.slice (some ⟨w.heap.size, 0, none⟩) 1 1)) (w.alloc (.cells cs.toArray e)) := by
    simp [execOp, ha.ev hx, hr]
  rw [hr2]
  refine ⟨_, hw.trans (Sat.one (e := .row e m (.slice (some ⟨w.heap.size, 0, none⟩) 1 1) 1 cs) (World.grownBy_alloc w _ none) ?_), rfl⟩
  have h9 := World.ownsRow_lit (base := w.heap.size) (e := e) (size := m) w cs.toArray 1 (Nat.le_refl _) (by simp only [maxLen]; omega) (by simp [hm])
  simpa [Ent.holds] using h9
theorem cells_agg (cs : Array Value) : (Value.agg cs).cells = cs := rfl
theorem built_struct {T : Nat} {fields : Array Field} {z : Value} {places : List (Nat × Nat)} {parts : List (Nat × Value)} (hi : (P.info? T).map (·.zero) = some (some z)) (hu : P.underlying T = some (.struct fields))
    (hp : fields.toList.mapM (fun f => (P.info? f.type).map fun i => (f.offset, i.size)) = some places) : P.built T parts = Instr.fill (places.toArray[·]?) z.cells parts := by
  obtain ⟨i, hi1, hi2⟩ := Option.map_eq_some_iff.1 hi
  simp only [Program.built, hi1, hu, hi2, hp]
end
end Go.AW
