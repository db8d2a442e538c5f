/- The pure operations of the calculus: what each yields. No statement of the seat is proved here. -/
import Derived.Test.YtmfinopdokkjcaaAw
namespace Go.AW
open Go Go.RowKit
set_option linter.unusedVariables false
set_option linter.unusedSimpArgs false

/-- In every memory that fits, the operation yields just 'v' and turns nothing. -/
def Pure (P : Program) (N : Nat) (w0 : World) (s : Fr) (L : List Ent) (o : Oper) (v : Value) : Prop :=
  ∀ a w, FrOK N s a → Sat w0 w L → (execOp a.eval o).run P w = .ok (.value v) w

def w64 (x : Int) : Int := IntKind.i64.wrap x

theorem w64_id {x : Int} (h0 : -9223372036854775808 ≤ x) (h1 : x ≤ 9223372036854775807) : IntKind.i64.wrap x = x := IntWalk.i64_in x ⟨h0, h1⟩

section
variable {P : Program} {N : Nat} {w0 : World} {R : Exit → Act → World → Prop} {k : List It} {s : Fr} {L : List Ent}
variable {d : Option Nat} {ty : TypeId} {pos : String} {aft : Array Edge} {g : Option (Nat × Bool)}

theorem upon_pure {all : Array Oper} {rest : List Oper} {dd : Nat} {o : Oper} {v : Value} (ho : o.dst = some dd) (hg : o.guard = none) (hN : Nat.blt dd N = true) (hp : Pure P N w0 s L o v)
    (h : Ops P N w0 R all rest k ((dd, v) :: s) L) : Ops P N w0 R all (o :: rest) k s L := by
  intro a w ha hw
  refine wpList_plain hg fun K hK => ?_
  unfold Oper.wp
  rw [hp a w ha hw, Oper.upon_value, ho]
  exact hK _ _ (h _ _ (ha.put hN v) hw)

theorem Ops.pure {all : Array Oper} {rest : List Oper} {dd : Nat} {op : Op} {v : Value} (hN : Nat.blt dd N = true) (hp : Pure P N w0 s L ⟨some dd, op, ty, pos, aft, none⟩ v)
    (h : Ops P N w0 R all rest k ((dd, v) :: s) L) : Ops P N w0 R all (⟨some dd, op, ty, pos, aft, none⟩ :: rest) k s L :=
  upon_pure rfl rfl hN hp h

/-- A guarded operation: carried out where its test came out so, passed over where not. -/
theorem Ops.guard {all : Array Oper} {rest : List Oper} {dd j dj : Nat} {want b : Bool} {op : Op} {oj : Oper} (hN : Nat.blt dd N = true) (hj : all[j]? = some oj) (hdj : oj.dst = some dj) (hb : lk s dj = some (.bool b))
    (ht : b = want → Ops P N w0 R all (⟨some dd, op, ty, pos, aft, none⟩ :: rest) k s L) (hf : b ≠ want → Ops P N w0 R all rest k ((dd, undef) :: s) L) :
    Ops P N w0 R all (⟨some dd, op, ty, pos, aft, some (j, want)⟩ :: rest) k s L := by
  intro a w ha hw
  have hy : yielded all a.tmps j = some b := by
    have h0 := ha.slot dj _ hb
    simp only [yielded, hj, Option.bind_some, hdj]
    rw [Array.getD_eq_getD_getElem?] at h0
    cases hh : a.tmps[dj]? with
    | none => rw [hh] at h0; simp [undef] at h0
    | some u => rw [hh] at h0; simp only [Option.getD_some] at h0; rw [h0]
  by_cases e : b = want
  · have h1 := ht e a w ha hw
    unfold wpList at h1 ⊢
    rw [if_pos (by simp [Region.wanted])] at h1
    rw [if_pos (by simp [Region.wanted, hy, e])]
    exact h1
  · unfold wpList
    rw [if_neg (by simp [Region.wanted, hy, e])]
    exact hf e _ _ (ha.put hN undef) hw

theorem Ops.nil {all : Array Oper} (h : Run P N w0 R k s L) : Ops P N w0 R all [] k s L := fun a w ha hw => wpList_nil (h a w ha hw)

theorem Run.region {id : Nat} {l : List Oper} (h : Ops P N w0 R l.toArray l k s L) : Run P N w0 R (.code (.region id l.toArray false) :: k) s L :=
  fun a w ha hw => wp_region_lit (h a w ha hw)

/-! ### One pure operation -/

theorem Pure.move {x : Operand} {v : Value} (hx : ev s x = some v) : Pure P N w0 s L ⟨d, .move x, ty, pos, aft, g⟩ v :=
  fun a w ha _ => by simp [execOp, ha.ev hx]
theorem Pure.assign {x : Operand} {v : Value} (hx : ev s x = some v) : Pure P N w0 s L ⟨d, .assign x, ty, pos, aft, g⟩ v :=
  fun a w ha _ => by simp [execOp, ha.ev hx]
theorem Pure.pickT {c x y : Operand} {v : Value} {b : Bool} (hc : ev s c = some (.bool b)) (hb : b = true) (hx : ev s x = some v) : Pure P N w0 s L ⟨d, .pick c x y, ty, pos, aft, g⟩ v :=
  fun a w ha _ => by subst hb; simp [execOp, ha.ev hc, ha.ev hx, asBool]
theorem Pure.pickF {c x y : Operand} {v : Value} {b : Bool} (hc : ev s c = some (.bool b)) (hb : b = false) (hy : ev s y = some v) : Pure P N w0 s L ⟨d, .pick c x y, ty, pos, aft, g⟩ v :=
  fun a w ha _ => by subst hb; simp [execOp, ha.ev hc, ha.ev hy, asBool]

/-- An operation on two integers of one kind. -/
theorem Pure.int2 {op : BinOp} {T T' : TypeId} {x y : Operand} {kk : IntKind} {m n : Int} {v : Value} (hx : ev s x = some (.int kk m)) (hy : ev s y = some (.int kk n))
    (h : ∀ w, (binOp op T (.int kk m) (.int kk n)).run P w = .ok v w) : Pure P N w0 s L ⟨d, .binOp op T x y T', ty, pos, aft, g⟩ v := by
  intro a w ha _
  simp [execOp, ha.ev hx, ha.ev hy, h w, eqGuard_at_int]

section
variable {T T' : TypeId} {x y : Operand} {kk : IntKind} {m n : Int}
theorem Pure.lss (hx : ev s x = some (.int kk m)) (hy : ev s y = some (.int kk n)) : Pure P N w0 s L ⟨d, .binOp .lss T x y T', ty, pos, aft, g⟩ (.bool (decide (m < n))) :=
  .int2 hx hy fun w => by simp [binOp_lss]
theorem Pure.leq (hx : ev s x = some (.int kk m)) (hy : ev s y = some (.int kk n)) : Pure P N w0 s L ⟨d, .binOp .leq T x y T', ty, pos, aft, g⟩ (.bool (decide (m ≤ n))) :=
  .int2 hx hy fun w => by simp [binOp_leq]
theorem Pure.gtr (hx : ev s x = some (.int kk m)) (hy : ev s y = some (.int kk n)) : Pure P N w0 s L ⟨d, .binOp .gtr T x y T', ty, pos, aft, g⟩ (.bool (decide (n < m))) :=
  .int2 hx hy fun w => by simp [binOp_gtr]
theorem Pure.geq (hx : ev s x = some (.int kk m)) (hy : ev s y = some (.int kk n)) : Pure P N w0 s L ⟨d, .binOp .geq T x y T', ty, pos, aft, g⟩ (.bool (decide (n ≤ m))) :=
  .int2 hx hy fun w => by simp [binOp_geq]
theorem Pure.eql (hx : ev s x = some (.int kk m)) (hy : ev s y = some (.int kk n)) : Pure P N w0 s L ⟨d, .binOp .eql T x y T', ty, pos, aft, g⟩ (.bool (decide (m = n))) :=
  .int2 hx hy fun w => by rw [binOp_eql]; rfl
theorem Pure.neq (hx : ev s x = some (.int kk m)) (hy : ev s y = some (.int kk n)) : Pure P N w0 s L ⟨d, .binOp .neq T x y T', ty, pos, aft, g⟩ (.bool (!decide (m = n))) :=
  .int2 hx hy fun w => by rw [binOp_neq]; rfl
theorem Pure.addW (hx : ev s x = some (.int kk m)) (hy : ev s y = some (.int kk n)) : Pure P N w0 s L ⟨d, .binOp .add T x y T', ty, pos, aft, g⟩ (.int kk (kk.wrap (m + n))) :=
  .int2 hx hy fun w => by rw [binOp_add]; rfl
theorem Pure.subW (hx : ev s x = some (.int kk m)) (hy : ev s y = some (.int kk n)) : Pure P N w0 s L ⟨d, .binOp .sub T x y T', ty, pos, aft, g⟩ (.int kk (kk.wrap (m - n))) :=
  .int2 hx hy fun w => by rw [binOp_sub]; rfl
theorem Pure.mulW (hx : ev s x = some (.int kk m)) (hy : ev s y = some (.int kk n)) : Pure P N w0 s L ⟨d, .binOp .mul T x y T', ty, pos, aft, g⟩ (.int kk (kk.wrap (m * n))) :=
  .int2 hx hy fun w => by rw [binOp_mul]; rfl
theorem Pure.remW (hx : ev s x = some (.int kk m)) (hy : ev s y = some (.int kk n)) (h0 : n ≠ 0) : Pure P N w0 s L ⟨d, .binOp .rem T x y T', ty, pos, aft, g⟩ (.int kk (m.tmod n)) :=
  .int2 hx hy fun w => by rw [binOp_rem]; simp [Op.intDiv, h0]
theorem Pure.quoW (hx : ev s x = some (.int kk m)) (hy : ev s y = some (.int kk n)) (h0 : n ≠ 0) : Pure P N w0 s L ⟨d, .binOp .quo T x y T', ty, pos, aft, g⟩ (.int kk (kk.wrap (m.tdiv n))) :=
  .int2 hx hy fun w => by rw [binOp_quo]; simp [Op.intDiv, h0]
theorem Pure.cong {o : Oper} {v v' : Value} (h : Pure P N w0 s L o v) (e : v = v') : Pure P N w0 s L o v' := e ▸ h
theorem Pure.add (hx : ev s x = some (.int .i64 m)) (hy : ev s y = some (.int .i64 n)) (h0 : -9223372036854775808 ≤ m + n) (h1 : m + n ≤ 9223372036854775807) : Pure P N w0 s L ⟨d, .binOp .add T x y T', ty, pos, aft, g⟩ (.int .i64 (m + n)) :=
  (Pure.addW hx hy).cong (by rw [w64_id h0 h1])
theorem Pure.sub (hx : ev s x = some (.int .i64 m)) (hy : ev s y = some (.int .i64 n)) (h0 : -9223372036854775808 ≤ m - n) (h1 : m - n ≤ 9223372036854775807) : Pure P N w0 s L ⟨d, .binOp .sub T x y T', ty, pos, aft, g⟩ (.int .i64 (m - n)) :=
  (Pure.subW hx hy).cong (by rw [w64_id h0 h1])
theorem Pure.mul (hx : ev s x = some (.int .i64 m)) (hy : ev s y = some (.int .i64 n)) (h0 : -9223372036854775808 ≤ m * n) (h1 : m * n ≤ 9223372036854775807) : Pure P N w0 s L ⟨d, .binOp .mul T x y T', ty, pos, aft, g⟩ (.int .i64 (m * n)) :=
  (Pure.mulW hx hy).cong (by rw [w64_id h0 h1])
theorem Pure.rem (hx : ev s x = some (.int kk m)) (hy : ev s y = some (.int kk n)) (h0 : 0 ≤ m) (h1 : 0 < n) : Pure P N w0 s L ⟨d, .binOp .rem T x y T', ty, pos, aft, g⟩ (.int kk (m % n)) :=
  (Pure.remW hx hy (by omega)).cong (by rw [Int.tmod_eq_emod_of_nonneg h0])
theorem Pure.quo (hx : ev s x = some (.int .i64 m)) (hy : ev s y = some (.int .i64 n)) (h0 : 0 ≤ m) (h1 : 0 < n) (h2 : m ≤ 9223372036854775807) : Pure P N w0 s L ⟨d, .binOp .quo T x y T', ty, pos, aft, g⟩ (.int .i64 (m / n)) :=
  (Pure.quoW hx hy (by omega)).cong (by
    rw [Int.tdiv_eq_ediv_of_nonneg h0, w64_id]
    · have := Int.ediv_nonneg h0 (Int.le_of_lt h1); omega
    · have := Int.ediv_le_self n h0; omega)
theorem Pure.remN {m n : Nat} (hx : ev s x = some (.int kk (m : Int))) (hy : ev s y = some (.int kk (n : Int))) (h1 : 0 < n) : Pure P N w0 s L ⟨d, .binOp .rem T x y T', ty, pos, aft, g⟩ (.int kk ((m % n : Nat) : Int)) :=
  (Pure.rem hx hy (by omega) (by omega)).cong (by rw [Int.natCast_emod])
theorem Pure.quoN {m n : Nat} (hx : ev s x = some (.int .i64 (m : Int))) (hy : ev s y = some (.int .i64 (n : Int))) (h1 : 0 < n) (h2 : m ≤ 9223372036854775807) : Pure P N w0 s L ⟨d, .binOp .quo T x y T', ty, pos, aft, g⟩ (.int .i64 ((m / n : Nat) : Int)) :=
  (Pure.quo hx hy (by omega) (by omega) (by omega)).cong (by rw [Int.natCast_ediv])
theorem Pure.negW (hx : ev s x = some (.int kk m)) : Pure P N w0 s L ⟨d, .unOp .neg T x, ty, pos, aft, g⟩ (.int kk (kk.wrap (0 - m))) := by
  intro a w ha _
  simp [execOp, ha.ev hx, Op.unary, Op.intArith]
theorem Pure.neg (hx : ev s x = some (.int .i64 m)) (h0 : -9223372036854775808 ≤ -m) (h1 : -m ≤ 9223372036854775807) : Pure P N w0 s L ⟨d, .unOp .neg T x, ty, pos, aft, g⟩ (.int .i64 (-m)) :=
  (Pure.negW hx).cong (by rw [w64_id (by omega) (by omega)]; congr 1; omega)
theorem Pure.not {b : Bool} (hx : ev s x = some (.bool b)) : Pure P N w0 s L ⟨d, .unOp .not T x, ty, pos, aft, g⟩ (.bool (!b)) := by
  intro a w ha _
  simp [execOp, ha.ev hx, Op.unary]
theorem Pure.conv {K : IntKind} (hs : (P.underlying T).isSome = true) (hd : P.underlying T' = some (.int K)) (hx : ev s x = some (.int kk m)) : Pure P N w0 s L ⟨d, .convert T T' x, ty, pos, aft, g⟩ (.int K (K.wrap m)) := by
  intro a w ha _
  obtain ⟨d, hd'⟩ := Option.isSome_iff_exists.mp hs
  simp [execOp, ha.ev hx, convert, run_underlying hd', run_underlying hd, Conv.intToInt]
theorem Pure.conv64 (hs : (P.underlying T).isSome = true) (hd : P.underlying T' = some (.int .i64)) (hx : ev s x = some (.int kk m)) (h0 : -9223372036854775808 ≤ m) (h1 : m ≤ 9223372036854775807) :
    Pure P N w0 s L ⟨d, .convert T T' x, ty, pos, aft, g⟩ (.int .i64 m) :=
  (Pure.conv hs hd hx).cong (by rw [w64_id h0 h1])
theorem Pure.extract {i : Nat} {vs : Array Value} {v : Value} (hx : ev s x = some (.tuple vs)) (hv : vs[i]? = some v) : Pure P N w0 s L ⟨d, .extract x i, ty, pos, aft, g⟩ v := by
  intro a w ha _
  simp [execOp, ha.ev hx, Instr.extract, hv]
theorem Pure.makeFunc0 {fn : Fn} : Pure P N w0 s L ⟨d, .makeFunc fn #[] #[], ty, pos, aft, g⟩ (.func fn #[] #[]) := by
  intro a w _ _
  simp [execOp, Instr.makeFunc]
theorem Pure.makeFunc1 {fn : Fn} {v : Value} (hx : ev s x = some v) : Pure P N w0 s L ⟨d, .makeFunc fn #[] #[x], ty, pos, aft, g⟩ (.func fn #[] #[v]) := by
  intro a w ha _
  simp [execOp, Instr.makeFunc, ha.ev hx]
end

/-! bools, strings -/
section
variable {T T' : TypeId} {x y : Operand}
theorem run_equalIn_bool (hT : P.underlying T = some .bool) (dd : Nat) (a b : Bool) (w : World) : (Op.equalIn (dd + 1) T (.bool a) (.bool b)).run P w = .ok (a == b) w := by
  simp only [Op.equalIn, Sem.run_bind, run_underlying hT, Result.andThen_ok]
  rfl
theorem run_equal_bool (hT : P.underlying T = some .bool) (a b : Bool) (w : World) : (Op.equal T (.bool a) (.bool b)).run P w = .ok (a == b) w :=
  run_equalIn_bool hT 9999 a b w
theorem Pure.eqlB {a b : Bool} (hT : P.underlying T = some .bool) (hx : ev s x = some (.bool a)) (hy : ev s y = some (.bool b)) : Pure P N w0 s L ⟨d, .binOp .eql T x y T', ty, pos, aft, g⟩ (.bool (a == b)) := by
  intro A w ha _
  have h1 : binOp .eql T (.bool a) (.bool b) = (do pure (.bool (← Op.equal T (.bool a) (.bool b)))) := rfl
  simp only [execOp, ha.ev hx, ha.ev hy, h1, Sem.run_bind, run_equal_bool hT, Result.andThen_ok, Sem.run_pure]
  rfl
theorem Pure.neqB {a b : Bool} (hT : P.underlying T = some .bool) (hx : ev s x = some (.bool a)) (hy : ev s y = some (.bool b)) : Pure P N w0 s L ⟨d, .binOp .neq T x y T', ty, pos, aft, g⟩ (.bool (!(a == b))) := by
  intro A w ha _
  have h1 : binOp .neq T (.bool a) (.bool b) = (do pure (.bool !(← Op.equal T (.bool a) (.bool b)))) := rfl
  simp only [execOp, ha.ev hx, ha.ev hy, h1, Sem.run_bind, run_equal_bool hT, Result.andThen_ok, Sem.run_pure]
  rfl
theorem Pure.eqlS {a b : ByteArray} (hx : ev s x = some (.string a)) (hy : ev s y = some (.string b)) : Pure P N w0 s L ⟨d, .binOp .eql T x y T', ty, pos, aft, g⟩ (.bool (a.toList == b.toList)) := by
  intro A w ha _
  simp [execOp, ha.ev hx, ha.ev hy, eqGuard, binOp, Op.stringOp]
theorem Pure.neqS {a b : ByteArray} (hx : ev s x = some (.string a)) (hy : ev s y = some (.string b)) : Pure P N w0 s L ⟨d, .binOp .neq T x y T', ty, pos, aft, g⟩ (.bool (!(a.toList == b.toList))) := by
  intro A w ha _
  simp [execOp, ha.ev hx, ha.ev hy, eqGuard, binOp, Op.stringOp]
theorem Pure.cat {a b : ByteArray} (hx : ev s x = some (.string a)) (hy : ev s y = some (.string b)) (h : a.size + b.size ≤ 9223372036854775807) : Pure P N w0 s L ⟨d, .binOp .add T x y T', ty, pos, aft, g⟩ (.string (a ++ b)) := by
  intro A w ha _
  have h' : ¬ ((a.size + b.size : Nat) : Int) > IntKind.i64.max := by
    have : IntKind.i64.max = 9223372036854775807 := by decide
    rw [this]; omega
  simp only [execOp, ha.ev hx, ha.ev hy, eqGuard, binOp, Op.stringOp, if_neg h']
  rfl
theorem Pure.lenS {a : ByteArray} (hT : P.underlying T = some .string) (hx : ev s x = some (.string a)) : Pure P N w0 s L ⟨d, .call { callee := .builtin .len, args := #[x], argTypes := #[T] }, ty, pos, aft, g⟩ (.int .i64 a.size) := by
  intro A w ha _
  simp [execOp, ha.ev hx, resolve, invoke, builtin, Builtin.len_, run_underlying hT, goInt]
theorem Pure.idxS {a : ByteArray} {i : Int} (hT : P.underlying T = some .string) (hx : ev s x = some (.string a)) (hy : ev s y = some (.int .i64 i)) (h0 : 0 ≤ i) (h1 : i < a.size) :
    Pure P N w0 s L ⟨d, .index T x y, ty, pos, aft, g⟩ (.int .u8 (a.data.toList.getD i.toNat 0).toNat) := by
  intro A w ha _
  have hlt : i.toNat < a.size := by omega
  have hlt2 : i.toNat < a.data.toList.length := by simpa using hlt
  have e : a[i.toNat]? = some (a.data.toList.getD i.toNat 0) := by
    have e1 : a[i.toNat]? = some a[i.toNat] := getElem?_pos a i.toNat hlt
    rw [e1]
    congr 1
    simp only [List.getD, List.getElem?_eq_getElem hlt2, Option.getD_some]
    rfl
  simp [execOp, ha.ev hx, ha.ev hy, Instr.index, asIntOf, run_underlying hT, h0, e]
theorem Pure.idxSN {a : ByteArray} {i : Nat} (hT : P.underlying T = some .string) (hx : ev s x = some (.string a)) (hy : ev s y = some (.int .i64 (i : Int))) (h1 : i < a.size) :
    Pure P N w0 s L ⟨d, .index T x y, ty, pos, aft, g⟩ (.int .u8 (a.data.toList.getD i 0).toNat) :=
  Pure.idxS hT hx hy (by omega) (by omega)
end

/-! structs by value -/

/-- Where field f of the struct type T lies: its first cell, and its cells where it is itself a struct or an array. -/
def fld (P : Program) (T f : Nat) : Option (Nat × Option Nat) :=
  match P.underlying T with
  | some (.struct fs) => match fs[f]? with
    | some x => match cellT P x.type with
      | some c => match P.info? x.type with
        | some i => if i.size = 0 then none else some (x.offset, c)
        | none => none
      | none => none
    | none => none
  | _ => none

theorem fld_spec {P : Program} {T f o : Nat} {c : Option Nat} (h : fld P T f = some (o, c)) :
    ∃ fs x, P.underlying T = some (.struct fs) ∧ fs[f]? = some x ∧ x.offset = o ∧ cellT P x.type = some c ∧ ∃ i, P.info? x.type = some i ∧ i.size ≠ 0 := by
  unfold fld at h
  split at h
  · rename_i fs hu
    split at h
    · rename_i x hx
      split at h
      · rename_i cc hc
        split at h
        · rename_i i hi
          split at h
          · cases h
          · rename_i hne
            simp only [Option.some.injEq, Prod.mk.injEq] at h
            obtain ⟨h1, h2⟩ := h
            exact ⟨fs, x, hu, hx, h1, by rw [hc, h2], i, hi, hne⟩
        · cases h
      · cases h
    · cases h
  · cases h

theorem Pure.field {T f o : Nat} {x : Operand} {cs : Array Value} {v : Value} (hT : fld P T f = some (o, none)) (hx : ev s x = some (.agg cs)) (hv : cs[o]? = some v) : Pure P N w0 s L ⟨d, .field T x f, ty, pos, aft, g⟩ v := by
  intro A w ha _
  obtain ⟨fs, fx, hu, hf, ho, hc, _⟩ := fld_spec hT
  obtain ⟨h1, _⟩ := cellT_one hc w
  subst ho
  simp [execOp, ha.ev hx, Instr.field, run_underlying hu, hf, asAgg, part, h1, hv]
theorem Pure.fieldA {T f o m : Nat} {x : Operand} {cs : Array Value} {v : Value} (hT : fld P T f = some (o, some m)) (hx : ev s x = some (.agg cs)) (hv : .agg (cs.extract o (o + m)) = v) : Pure P N w0 s L ⟨d, .field T x f, ty, pos, aft, g⟩ v := by
  intro A w ha _
  obtain ⟨fs, fx, hu, hf, ho, hc, _⟩ := fld_spec hT
  obtain ⟨h1, h2⟩ := cellT_agg hc w
  subst ho
  subst hv
  simp [execOp, ha.ev hx, Instr.field, run_underlying hu, hf, asAgg, part, h1, h2]

/-! memory -/

theorem RdL.form {v : Value} {size n : Nat} {xs : List Value} (h : RdL w0 L v size n xs) {w : World} (hw : Sat w0 w L) : ∃ A c, v = .slice A n c := by
  obtain ⟨_, A, c, rfl, _⟩ := h w hw
  exact ⟨A, c, rfl⟩

section
variable {T e size bytes : Nat} {z : Value} {x y : Operand} {v : Value} {n : Nat} {xs : List Value}
theorem Pure.len (hT : SlT P T e size bytes z) (hr : RdL w0 L v size n xs) (hx : ev s x = some v) : Pure P N w0 s L ⟨d, .call { callee := .builtin .len, args := #[x], argTypes := #[T] }, ty, pos, aft, g⟩ (.int .i64 n) := by
  intro A w ha hw
  obtain ⟨A', c, rfl⟩ := hr.form hw
  simp [execOp, ha.ev hx, resolve, invoke, builtin, Builtin.len_, run_underlying hT.under, goInt]
theorem Pure.idx {i : Int} (hT : SlT P T e size bytes z) (hr : RdL w0 L v size n xs) (hx : ev s x = some v) (hy : ev s y = some (.int .i64 i)) (h0 : 0 ≤ i) (h1 : i < n) :
    Pure P N w0 s L ⟨d, .indexAddr T x y, ty, pos, aft, g⟩ (ptrAt v (i.toNat * size)) := by
  intro A w ha hw
  obtain ⟨hl, A', c, rfl, hc, hh⟩ := hr w hw
  cases A' with
  | some a =>
    have hT2 : P.underlying T = some (.slice (P.elem T)) := by rw [hT.elem]; exact hT.under
    have hr2 := run_indexAt_slice (P := P) w T a n c .i64 i hT2
    rw [if_pos ⟨h0, h1⟩, hT.elem, hT.size_run] at hr2
    simp only [Result.andThen_ok] at hr2
    simp [execOp, ha.ev hx, ha.ev hy, hr2, ptrAt]
  | none =>
    exfalso
    have : 0 < xs.length := by rw [hl]; exact Nat.mul_pos (by omega) hT.pos
    obtain ⟨a, ha, _⟩ := hh this
    cases ha
theorem Pure.idxN {i : Nat} (hT : SlT P T e size bytes z) (hr : RdL w0 L v size n xs) (hx : ev s x = some v) (hy : ev s y = some (.int .i64 (i : Int))) (h1 : i < n) :
    Pure P N w0 s L ⟨d, .indexAddr T x y, ty, pos, aft, g⟩ (ptrAt v (i * size)) :=
  Pure.idx hT hr hx hy (by omega) (by omega)
theorem Pure.idx1 {i : Int} (hT : SlT P T e 1 bytes z) (hr : RdL w0 L v 1 n xs) (hx : ev s x = some v) (hy : ev s y = some (.int .i64 i)) (h0 : 0 ≤ i) (h1 : i < n) :
    Pure P N w0 s L ⟨d, .indexAddr T x y, ty, pos, aft, g⟩ (ptrAt v i.toNat) :=
  (Pure.idx hT hr hx hy h0 h1).cong (by rw [Nat.mul_one])
theorem Pure.idx1N {i : Nat} (hT : SlT P T e 1 bytes z) (hr : RdL w0 L v 1 n xs) (hx : ev s x = some v) (hy : ev s y = some (.int .i64 (i : Int))) (h1 : i < n) :
    Pure P N w0 s L ⟨d, .indexAddr T x y, ty, pos, aft, g⟩ (ptrAt v i) :=
  (Pure.idxN hT hr hx hy h1).cong (by rw [Nat.mul_one])

def isNilS : Value → Bool
  | .slice none _ _ => true
  | _ => false
theorem run_eqlNil (hT : SlT P T e size bytes z) (A : Option Addr) (n c : Nat) (w : World) : (Op.equal T (.slice A n c) (.slice none 0 0)).run P w = .ok (isNilS (.slice A n c)) w := by
  have key : ∀ dd, (Op.equalIn (dd + 1) T (.slice A n c) (.slice none 0 0)).run P w = .ok (isNilS (.slice A n c)) w := fun dd => by
    simp only [Op.equalIn, Sem.run_bind, run_underlying hT.under, Result.andThen_ok]
    cases A <;> rfl
  exact key 9999
theorem Pure.eqlNil {T' : TypeId} (hT : SlT P T e size bytes z) (hr : RdL w0 L v size n xs) (hx : ev s x = some v) (hy : ev s y = some (.slice none 0 0)) : Pure P N w0 s L ⟨d, .binOp .eql T x y T', ty, pos, aft, g⟩ (.bool (isNilS v)) := by
  intro a w ha hw
  obtain ⟨A, c, rfl⟩ := hr.form hw
  have h1 : binOp .eql T (.slice A n c) (.slice none 0 0) = (do pure (.bool (← Op.equal T (.slice A n c) (.slice none 0 0)))) := rfl
  simp only [execOp, ha.ev hx, ha.ev hy, h1, Sem.run_bind, run_eqlNil hT, Result.andThen_ok, Sem.run_pure]
  rfl
theorem Pure.neqNil {T' : TypeId} (hT : SlT P T e size bytes z) (hr : RdL w0 L v size n xs) (hx : ev s x = some v) (hy : ev s y = some (.slice none 0 0)) : Pure P N w0 s L ⟨d, .binOp .neq T x y T', ty, pos, aft, g⟩ (.bool (!isNilS v)) := by
  intro a w ha hw
  obtain ⟨A, c, rfl⟩ := hr.form hw
  have h1 : binOp .neq T (.slice A n c) (.slice none 0 0) = (do pure (.bool !(← Op.equal T (.slice A n c) (.slice none 0 0)))) := rfl
  simp only [execOp, ha.ev hx, ha.ev hy, h1, Sem.run_bind, run_eqlNil hT, Result.andThen_ok, Sem.run_pure]
  rfl
theorem Rd.nil_of {w : World} (h : Rd w v size n xs) (hn : isNilS v = true) : xs = [] := by
  obtain ⟨hl, A, c, rfl, _, hh⟩ := h
  cases A with
  | some a => cases hn
  | none =>
    rcases Nat.eq_zero_or_pos xs.length with h0 | h0
    · exact List.eq_nil_of_length_eq_zero h0
    · obtain ⟨a, ha, _⟩ := hh h0
      cases ha

/-- A load of one cell. -/
theorem Pure.ld {T j : Nat} {u : Value} (hT : cellT P T = some none) (hx : ev s x = some (ptrAt v j)) (hr : RdL w0 L v size n xs) (hu : xs[j]? = some u) : Pure P N w0 s L ⟨d, .load T x, ty, pos, aft, g⟩ u := by
  intro A w ha hw
  obtain ⟨hl, A', c, rfl, hc, hh⟩ := hr w hw
  obtain ⟨a, rfl, hcell⟩ := hh (by have := (List.getElem?_eq_some_iff.1 hu).1; omega)
  have h1 := (cellT_one hT w).1
  have h2 := hcell j u hu
  simp [execOp, ha.ev hx, Instr.loadAt, ptrAt, Instr.sureAddr, loadVar, h1, run_load, h2]
/-- A load of a struct or an array. -/
theorem Pure.ldA {T j m : Nat} {seg : List Value} (hT : cellT P T = some (some m)) (hx : ev s x = some (ptrAt v j)) (hr : RdL w0 L v size n xs) (hu : (xs.drop j).take m = seg) (hl : seg.length = m) (hpos : 0 < m) :
    Pure P N w0 s L ⟨d, .load T x, ty, pos, aft, g⟩ (.agg seg.toArray) := by
  intro A w ha hw
  obtain ⟨_, A', c, rfl, hc, hh⟩ := hr w hw
  have hne : 0 < xs.length := by
    rcases Nat.eq_zero_or_pos xs.length with h0 | h0
    · have : xs = [] := List.eq_nil_of_length_eq_zero h0
      subst this
      simp at hu
      subst hu
      simp at hl
      omega
    · exact h0
  obtain ⟨a, rfl, hcell⟩ := hh hne
  have h1 := cellT_agg hT w
  have h2 := run_loadCells_list (P := P) w (a.add j) seg (fun i u hi => by rw [add_add]; exact hcell _ _ (get_of_seg hu hi))
  rw [hl] at h2
  simp [execOp, ha.ev hx, Instr.loadAt, ptrAt, Instr.sureAddr, loadVar, h1.1, h1.2, h2]
theorem Pure.fieldAddr {T f o j : Nat} {c : Option Nat} (hT : fld P T f = some (o, c)) (hx : ev s x = some (ptrAt v j)) (hr : RdL w0 L v size n xs) (hne : j < n * size) : Pure P N w0 s L ⟨d, .fieldAddr T x f, ty, pos, aft, g⟩ (ptrAt v (j + o)) := by
  intro A w ha hw
  obtain ⟨hl, A', cc, rfl, hc, hh⟩ := hr w hw
  obtain ⟨a, rfl, hcell⟩ := hh (by rw [hl]; omega)
  obtain ⟨fs, fx, hu, hf, ho, _, i, hi, hne⟩ := fld_spec hT
  subst ho
  simp [execOp, ha.ev hx, Instr.fieldAt, ptrAt, Instr.sureAddr, run_underlying hu, hf, fieldPlace, sizeOf, typeInfo, hi, hne, add_add]

/-! boxes -/
theorem Pure.fieldAddrB {T f o b j : Nat} {c : Option Nat} (hT : fld P T f = some (o, c)) (hx : ev s x = some (.pointer (some ⟨b, j, none⟩))) : Pure P N w0 s L ⟨d, .fieldAddr T x f, ty, pos, aft, g⟩ (.pointer (some ⟨b, j + o, none⟩)) := by
  intro A w ha hw
  obtain ⟨fs, fx, hu, hf, ho, _, i, hi, hne⟩ := fld_spec hT
  subst ho
  simp [execOp, ha.ev hx, Instr.fieldAt, Instr.sureAddr, run_underlying hu, hf, fieldPlace, sizeOf, typeInfo, hi, hne, add_lit]
theorem Sat.box {w : World} {b t : Nat} {cs : List Value} (hw : Sat w0 w L) {i : Nat} (h : L[i]? = some (.box b t cs)) : w.heap[b]? = some (.cells cs.toArray t (0, 0)) :=
  (hw.own _ (List.mem_of_getElem? h)).2
theorem Pure.ldB {T b t j : Nat} {cs : List Value} {u : Value} (i : Nat) (hL : L[i]? = some (.box b t cs)) (hT : cellT P T = some none) (hx : ev s x = some (.pointer (some ⟨b, j, none⟩))) (hu : cs[j]? = some u) : Pure P N w0 s L ⟨d, .load T x, ty, pos, aft, g⟩ u := by
  intro A w ha hw
  have h1 := (cellT_one hT w).1
  have h2 : w.cell? ⟨b, j, none⟩ = some u := by rw [cell_of_row w b j _ t (0, 0) (hw.box hL)]; simpa using hu
  simp [execOp, ha.ev hx, Instr.loadAt, Instr.sureAddr, loadVar, h1, run_load, h2]
theorem Pure.ldBA {T b t j m : Nat} {cs seg : List Value} (i : Nat) (hL : L[i]? = some (.box b t cs)) (hT : cellT P T = some (some m)) (hx : ev s x = some (.pointer (some ⟨b, j, none⟩))) (hu : (cs.drop j).take m = seg) (hl : seg.length = m) :
    Pure P N w0 s L ⟨d, .load T x, ty, pos, aft, g⟩ (.agg seg.toArray) := by
  intro A w ha hw
  have h1 := cellT_agg hT w
  have h2 := run_loadCells_list (P := P) w ⟨b, j, none⟩ seg (fun k u hi => by rw [add_lit, cell_of_row w b _ _ t (0, 0) (hw.box hL)]; simpa using get_of_seg hu hi)
  rw [hl] at h2
  simp [execOp, ha.ev hx, Instr.loadAt, Instr.sureAddr, loadVar, h1.1, h1.2, h2]
end
end
end Go.AW
