/- Contracts of functions, printed by program from annotations. -/
import Derived.Test.YtmfinopdokkjcaaTqA
import Derived.Test.YtmfinopdokkjcaaTqB
import Derived.Test.YtmfinopdokkjcaaAwm
import Derived.Test.YtmfinopdokkjcaaAwv
import Derived.Test.YtmfinopdokkjcaaDrw2
import Derived.Test.YtmfinopdokkjcaaCvM
namespace Go.Proofs.Ytmfinopdokkjcaa
open Go Go.AW Go.RowKit
set_option linter.unusedVariables false
set_option linter.unusedSimpArgs false

section
variable {P : Program} {N : Nat} {w0 : World} {R : Exit → Act → World → Prop} {k : List It} {s : Fr} {L : List Ent}
variable {d : Option Nat} {ty : TypeId} {pos : String} {aft : Array Go.Edge} {g : Option (Nat × Bool)}
/-- A slice literal of two structs. -/
theorem Loud.litA2 {T e m bytes : Nat} {z : Value} {x y : Operand} {cs ds : List Value} (hT : SlT P T e m bytes z) (hx : ev s x = some (.agg cs.toArray)) (hy : ev s y = some (.agg ds.toArray)) (hm : cs.length = m) (hm' : ds.length = m) (hsm : Nat.ble (2 * m) 16777216 = true) :
    Loud P N w0 s L ⟨d, .buildSlice T 2 #[(0, x), (1, y)], ty, pos, aft, g⟩ fun v L' => L' = .row e m v 2 (cs ++ ds) :: L := by
  intro a w ha hw
  obtain ⟨i, hi, hz, hs, hby⟩ := hT.parts
  have hp := hT.pos
  have hsm' : 2 * m ≤ 16777216 := Nat.le_of_ble_eq_true hsm
  have hr := run_buildSlice (P := P) w T e 2 #[(0, .agg cs.toArray), (1, .agg ds.toArray)] (cs ++ ds).toArray i z hT.under hi hz (by rw [hs]; omega) (by rw [hs]; omega) (by
    rw [hs]
    have h9 := Go.Great.fill_whole hp [.agg cs.toArray, .agg ds.toArray] ((Array.range (2 * m)).map (z.cells[· % z.cells.size]!)) (fun v hv => by
      have : v = .agg cs.toArray ∨ v = .agg ds.toArray := by simpa using hv
      rcases this with rfl | rfl
      · simpa [Value.cells] using hm
      · simpa [Value.cells] using hm') (by simp)
    simpa [Value.cells] using h9)
  have hr2 : (execOp a.eval ⟨d, .buildSlice T 2 #[(0, x), (1, y)], ty, pos, aft, g⟩).run P w = .ok (.value (.slice (some ⟨w.heap.size, 0, none⟩) 2 2)) (w.alloc (.cells (cs ++ ds).toArray e)) := by
    simp [execOp, ha.ev hx, ha.ev hy, hr]
  rw [hr2]
  refine ⟨_, hw.trans (Sat.one (e := .row e m (.slice (some ⟨w.heap.size, 0, none⟩) 2 2) 2 (cs ++ ds)) (World.grownBy_alloc w _ none) ?_), rfl⟩
  have h9 := World.ownsRow_lit (base := w.heap.size) (e := e) (size := m) w (cs ++ ds).toArray 2 (Nat.le_refl _) (by simp only [maxLen]; omega) (by simp [hm, hm']; omega)
  simpa [Ent.holds] using h9
theorem bits_xor16 : ∀ k, k < 16 → bits .xor .i64 ((k : Nat) : Int) 1 = ((flp k : Nat) : Int) := by decide
theorem Pure.xor1 {T T' : TypeId} {x y : Operand} {k : Nat} (hx : ev s x = some (.int .i64 (k : Int))) (hy : ev s y = some (.int .i64 1)) (h : k < 16) : Pure P N w0 s L ⟨d, .binOp .xor T x y T', ty, pos, aft, g⟩ (.int .i64 ((flp k : Nat) : Int)) :=
  .int2 hx hy fun w => by rw [binOp_xor, intBits_xor, bits_xor16 k h]; rfl
end
/-! ### All walkers -/
def awL (b : Int) (k : Nat) : List Wk := (List.range (2 * k)).map (WN b)
theorem length_awL (b : Int) (k : Nat) : (awL b k).length = 2 * k := by simp [awL]
theorem awL_succ (b : Int) (k : Nat) : awL b (k + 1) = awL b k ++ [RW b k, bk (RW b k)] := by
  have e1 : WN b (2 * k) = RW b k := by unfold WN; rw [if_pos (by omega), show 2 * k / 2 = k by omega]
  have e2 : WN b (2 * k + 1) = bk (RW b k) := by unfold WN; rw [if_neg (by omega), show (2 * k + 1) / 2 = k by omega]
  unfold awL
  rw [show 2 * (k + 1) = 2 * k + 1 + 1 by omega, List.range_succ, List.range_succ]
  simp [e1, e2]
theorem awL_get {b : Int} {k i : Nat} (h : i < 2 * k) : (awL b k).getD i (0, 0, 0, 0) = WN b i := by simp [awL, List.getD, h]
/-! ### Marks of walkers -/
/-- the marks: the orbits of the first K walkers, and i steps of the next one -/
def MW (a b : Int) (l : List Int) (K i : Nat) (sl : List Bool) : Prop := sl.length = 2 * segN a b ∧ ∀ j, j < 2 * segN a b → (sl.getD j false = true ↔ (∃ k, k < K ∧ On a b l (WN b k) (WN b j)) ∨ ∃ t, t < i ∧ WN b j = itr (stp a b l) t (WN b K))
theorem MW.zero (a b : Int) (l : List Int) : MW a b l 0 0 (List.replicate (2 * segN a b) false) := by
  refine ⟨by simp, fun j hj => ?_⟩
  constructor
  · intro h
    simp [List.getD, hj] at h
  · rintro (⟨k, hk, _⟩ | ⟨t, ht, _⟩) <;> omega
section
variable {a b : Int} {l : List Int} {K i : Nat} {sl : List Bool}
theorem MW.skip (h : MW a b l K 0 sl) (hK : K < 2 * segN a b) (hm : sl.getD K false = true) : MW a b l (K + 1) 0 sl ∧ nP (FirstW a b l) (K + 1) = nP (FirstW a b l) K := by
  have hx := ((h.2 K hK).1 hm).resolve_right (fun ⟨t, ht, _⟩ => by omega)
  obtain ⟨k0, h1, h2⟩ := hx
  refine ⟨⟨h.1, fun j hj => ?_⟩, nP_no fun hf => hf k0 h1 h2⟩
  rw [h.2 j hj]
  constructor
  · rintro (⟨k, hk, ho⟩ | ⟨t, ht, _⟩)
    · exact .inl ⟨k, by omega, ho⟩
    · omega
  · rintro (⟨k, hk, ho⟩ | ⟨t, ht, _⟩)
    · rcases Nat.lt_or_ge k K with h3 | h3
      · exact .inl ⟨k, h3, ho⟩
      · rw [show k = K by omega] at ho
        exact .inl ⟨k0, h1, h2.trans ho⟩
    · omega
theorem MW.first (h : MW a b l K 0 sl) (hK : K < 2 * segN a b) (hm : sl.getD K false = false) : nP (FirstW a b l) (K + 1) = nP (FirstW a b l) K + 1 ∧ ∀ k, k < K → ¬ On a b l (WN b k) (WN b K) := by
  have hx : FirstW a b l K := fun k hk ho => by
    rw [(h.2 K hK).2 (.inl ⟨k, hk, ho⟩)] at hm
    cases hm
  exact ⟨nP_yes hx, hx⟩
theorem MW.at (hs : SizeOk a b) (h : MW a b l K i sl) (hK : K < 2 * segN a b) (hf : ∀ k, k < K → ¬ On a b l (WN b k) (WN b K)) (hi : i ≤ per a b l (WN b K)) :
    sl.getD (ixW b (itr (stp a b l) i (WN b K))).toNat false = true ↔ i = per a b l (WN b K) := by
  have ha := hs.1
  have hb := hs.2.2.1
  have hw := (WN_spec hs hK).1
  have hv := VW_itr (l := l) ha hb hw i
  have hb2 := ixW_bd hs hv
  have hp := per_spec (l := l) ha hb hw
  rw [h.2 _ (by omega), WN_ix hs hv]
  constructor
  · rintro (⟨k, hk, ho⟩ | ⟨t, ht, e⟩)
    · have h1 : On a b l (WN b K) (itr (stp a b l) i (WN b K)) := ⟨i, rfl⟩
      exact absurd (ho.trans (h1.symm ha hb hw)) (hf k hk)
    · rcases Nat.lt_or_ge i (per a b l (WN b K)) with h1 | h1
      · exact absurd (congrArg (sg b) e.symm) (per_sg ha hb hw ht h1)
      · omega
  · rintro rfl
    exact .inr ⟨0, by omega, hp.1⟩
theorem MW.step (hs : SizeOk a b) (h : MW a b l K i sl) (hK : K < 2 * segN a b) : MW a b l K (i + 1) (sl.set (ixW b (itr (stp a b l) i (WN b K))).toNat true) := by
  have hw := (WN_spec hs hK).1
  have hv := VW_itr (l := l) hs.1 hs.2.2.1 hw i
  have hb2 := ixW_bd hs hv
  have hl := h.1
  refine ⟨by rw [List.length_set]; exact h.1, fun j hj => ?_⟩
  rw [getD_setB (by omega), h.2 j hj]
  constructor
  · rintro (e | h | ⟨t, ht, e⟩)
    · exact .inr ⟨i, by omega, by rw [← e]; exact WN_ix hs hv⟩
    · exact .inl h
    · exact .inr ⟨t, by omega, e⟩
  · rintro (h | ⟨t, ht, e⟩)
    · exact .inr (.inl h)
    · rcases Nat.lt_or_ge t i with h3 | h3
      · exact .inr (.inr ⟨t, h3, e⟩)
      · rw [show t = i by omega] at e
        refine .inl ?_
        rw [← e, ix_WN hs hj, Int.toNat_natCast]
theorem MW.done (hs : SizeOk a b) (h : MW a b l K (per a b l (WN b K)) sl) (hK : K < 2 * segN a b) : MW a b l (K + 1) 0 sl := by
  have hw := (WN_spec hs hK).1
  refine ⟨h.1, fun j hj => ?_⟩
  rw [h.2 j hj]
  constructor
  · rintro (⟨k, hk, ho⟩ | ⟨t, ht, e⟩)
    · exact .inl ⟨k, by omega, ho⟩
    · exact .inl ⟨K, by omega, t, e⟩
  · rintro (⟨k, hk, ho⟩ | ⟨t, ht, e⟩)
    · rcases Nat.lt_or_ge k K with h3 | h3
      · exact .inl ⟨k, h3, ho⟩
      · rw [show k = K by omega] at ho
        obtain ⟨t, t1, t2⟩ := ho.mem hs.1 hs.2.2.1 hw
        exact .inr ⟨t, t1, t2⟩
    · omega
end

set_option maxRecDepth 4000 in
/-- spec.SegmentOf -/
theorem f_s_SegmentOf (w : World) (a : Int) (b : Int) (v : Value) (l : List Int) (x : Int) (y : Int) (dx : Int) (dy : Int) (hv : Rd w v 1 l.length (ints l)) (hk : okP a b l = true) (hvw : VW a b (x, y, dx, dy)) : RetV Try.prog 163 [.agg #[.int .i64 a, .int .i64 b, v], .agg #[.int .i64 x, .int .i64 y, .int .i64 dx, .int .i64 dy]] w (.tuple #[.int .i64 (sg b (x, y, dx, dy)), .int .i64 0]) := by
  have hs := okP_size hk
  obtain ⟨hs1, hs2, hs3, hs4⟩ := id hs
  have hm := VW_mid hs hvw
  have hli := okP_inn hk
  have hib := (inn_eq hs).2.1
  have hwe : wkE a b l x y dx dy = 0 := wkE_ok ⟨hk, hvw⟩
  refine Ret.enter Try.func163 rfl Try.ntmps163 rfl ?_
  refine Run.seq ?_
  refine Run.region ?_
  refine Ops.go rfl (Loud.box rfl rfl) ?_
  rintro _ _ ⟨b2, rfl, rfl⟩
  refine Ops.go rfl (Loud.box rfl rfl) ?_
  rintro _ _ ⟨b3, rfl, rfl⟩
  refine Ops.pure rfl (Pure.assign rfl) ?_
  refine Ops.pure rfl (Pure.assign rfl) ?_
  refine Ops.nil ?_
  refine Run.seq ?_
  refine Run.region ?_
  refine Ops.pure rfl (Pure.ldBA 0 rfl cell167 rfl rfl rfl) ?_
  refine Ops.q rfl (QOp.call fn211 rfl (fun w hw => f_s_l03Code w _ a b v l x y dx dy (RdL.boxM 1 rfl rfl w hw) (RdL.old hv w hw) (by omega) (by omega) (by omega) (by omega) (by omega))) ?_
  refine Ops.pure rfl (Pure.assign rfl) ?_
  refine Ops.nil ?_
  refine Run.seq ?_
  refine Run.seq ?_
  refine Run.region ?_
  refine Ops.pure rfl (Pure.move rfl) ?_
  refine Ops.pure rfl (Pure.neq rfl rfl) ?_
  refine Ops.nil ?_
  refine Run.condEF rfl ((by simp [hwe])) ?_
  refine Run.skip ?_
  refine Run.seq ?_
  refine Run.region ?_
  refine Ops.pure rfl (Pure.ldBA 0 rfl cell167 rfl rfl rfl) ?_
  refine Ops.q rfl (QOp.call fn212 rfl (fun w hw => f_s_l03Segment w _ a b v x y dx dy (RdL.boxM 1 rfl rfl w hw) hs hvw)) ?_
  refine Ops.pure rfl (Pure.assign rfl) ?_
  refine Ops.pure rfl (Pure.assign rfl) ?_
  refine Ops.nil ?_
  refine Run.ret2 rfl rfl rfl ?_
  rfl

set_option maxRecDepth 4000 in
/-- spec.StepWalker -/
theorem f_s_StepWalker (w : World) (a : Int) (b : Int) (v : Value) (l : List Int) (x : Int) (y : Int) (dx : Int) (dy : Int) (hv : Rd w v 1 l.length (ints l)) (hk : okP a b l = true) (hvw : VW a b (x, y, dx, dy)) : RetV Try.prog 164 [.agg #[.int .i64 a, .int .i64 b, v], .agg #[.int .i64 x, .int .i64 y, .int .i64 dx, .int .i64 dy]] w (.tuple #[.agg (encW (stp a b l (x, y, dx, dy))).toArray, .int .i64 0]) := by
  have hs := okP_size hk
  obtain ⟨hs1, hs2, hs3, hs4⟩ := id hs
  have hm := VW_mid hs hvw
  have hli := okP_inn hk
  have hib := (inn_eq hs).2.1
  have hwe : wkE a b l x y dx dy = 0 := wkE_ok ⟨hk, hvw⟩
  refine Ret.enter Try.func164 rfl Try.ntmps164 rfl ?_
  refine Run.seq ?_
  refine Run.region ?_
  refine Ops.go rfl (Loud.box rfl rfl) ?_
  rintro _ _ ⟨b2, rfl, rfl⟩
  refine Ops.go rfl (Loud.box rfl rfl) ?_
  rintro _ _ ⟨b3, rfl, rfl⟩
  refine Ops.go rfl (Loud.alloc zero167 rfl) ?_
  rintro _ _ ⟨b4, rfl, rfl⟩
  refine Ops.pure rfl (Pure.assign rfl) ?_
  refine Ops.nil ?_
  refine Run.seq ?_
  refine Run.region ?_
  refine Ops.pure rfl (Pure.ldBA 1 rfl cell167 rfl rfl rfl) ?_
  refine Ops.q rfl (QOp.call fn211 rfl (fun w hw => f_s_l03Code w _ a b v l x y dx dy (RdL.boxM 2 rfl rfl w hw) (RdL.old hv w hw) (by omega) (by omega) (by omega) (by omega) (by omega))) ?_
  refine Ops.pure rfl (Pure.assign rfl) ?_
  refine Ops.nil ?_
  refine Run.seq ?_
  refine Run.seq ?_
  refine Run.region ?_
  refine Ops.pure rfl (Pure.move rfl) ?_
  refine Ops.pure rfl (Pure.neq rfl rfl) ?_
  refine Ops.nil ?_
  refine Run.condEF rfl ((by simp [hwe])) ?_
  refine Run.skip ?_
  refine Run.seq ?_
  refine Run.region ?_
  refine Ops.pure rfl (Pure.ldBA 1 rfl cell167 rfl rfl rfl) ?_
  refine Ops.q rfl (QOp.call fn213 rfl (fun w hw => f_s_l03Step w _ a b v l x y dx dy (RdL.boxM 2 rfl rfl w hw) (RdL.old hv w hw) hk hvw)) ?_
  refine Ops.store (Stores.box 0 rfl rfl rfl size167 (allOne rfl) rfl rfl) ?_
  refine Ops.pure rfl (Pure.assign rfl) ?_
  refine Ops.nil ?_
  refine Run.retC1 0 rfl rfl rfl rfl cell167 rfl ?_
  rfl

set_option maxRecDepth 4000 in
/-- spec.AllWalkers -/
theorem f_s_AllWalkers (w : World) (a : Int) (b : Int) (v : Value) (l : List Int) (hv : Rd w v 1 l.length (ints l)) (hk : okP a b l = true) : Ret Try.prog 162 [.agg #[.int .i64 a, .int .i64 b, v]] w (fun u L => ∃ x, u = .tuple #[x, .int .i64 0] ∧ L = [.row 167 4 x (2 * (segN a b)) ((awL b (segN a b)).flatMap encW)]) := by
  have hs := okP_size hk
  obtain ⟨hs1, hs2, hs3, hs4⟩ := id hs
  have hsl := segN_le hs
  have hli := okP_inn hk
  have hib := (inn_eq hs).2.1
  have hbox4 : 4 * a * b = 4 * (a * b) := Int.mul_assoc _ _ _
  refine Ret.enter Try.func162 rfl Try.ntmps162 rfl ?_
  refine Run.seq ?_
  refine Run.region ?_
  refine Ops.go rfl (Loud.box rfl rfl) ?_
  rintro _ _ ⟨b1, rfl, rfl⟩
  refine Ops.pure rfl (Pure.assign rfl) ?_
  refine Ops.pure rfl (Pure.assign rfl) ?_
  refine Ops.nil ?_
  refine Run.seq ?_
  refine Run.seq ?_
  refine Run.region ?_
  refine Ops.q rfl (QOp.call fn99 rfl (fun w hw => f_s_l02Ok w _ a b v l (RdL.boxM 0 rfl rfl w hw) (RdL.old hv w hw) (by omega) (by omega) (by omega) (by omega) (by omega))) ?_
  refine Ops.pure rfl (Pure.not rfl) ?_
  refine Ops.nil ?_
  refine Run.condEF rfl ((by simp [hk])) ?_
  refine Run.skip ?_
  refine Run.seq ?_
  refine Run.region ?_
  refine Ops.go rfl (Loud.lit0 sl105) ?_
  rintro v9 _ rfl
  refine Ops.pure rfl (Pure.assign rfl) ?_
  refine Ops.nil ?_
  refine Run.seq ?_
  refine Run.seq ?_
  refine Run.region ?_
  refine Ops.pure rfl (Pure.assign rfl) ?_
  refine Ops.nil ?_
  refine Run.block ?_
  refine Run.loop2 (X := Nat) (Y := Value) (fun k vo => [(1, .pointer (some ⟨b1, 0, none⟩)), (4, vo), (5, .int .i64 k)]) (fun k vo => [.row 167 4 vo (2 * k) ((awL b k).flatMap encW), .box b1 35 [.int .i64 a, .int .i64 b, v]]) (fun k vo => k ≤ segN a b) (fun k vo => segN a b - k) 0 v9 ?_ ?_ ?_ ?_
  · exact Nat.zero_le _
  · exact ⟨rfl, rfl, rfl, trivial⟩
  · exact Ext.refl _
  · intro k vo hinv0
    refine Run.seq ?_
    refine Run.seq ?_
    refine Run.region ?_
    refine Ops.pure rfl (Pure.move rfl) ?_
    refine Ops.pure rfl (Pure.fieldAddrB fld35_0 rfl) ?_
    refine Ops.pure rfl (Pure.ldB 1 rfl cell2 rfl rfl) ?_
    refine Ops.pure rfl (Pure.mul rfl rfl (by omega) (by omega)) ?_
    refine Ops.pure rfl (Pure.fieldAddrB fld35_1 rfl) ?_
    refine Ops.pure rfl (Pure.ldB 1 rfl cell2 rfl rfl) ?_
    refine Ops.pure rfl (Pure.mul rfl rfl (by omega) (by omega)) ?_
    refine Ops.pure rfl (Pure.lss rfl rfl) ?_
    refine Ops.nil ?_
    refine Run.cond rfl (fun c17 => ?_) (fun c17 => ?_)
    · skip
      replace c17 := dT c17
      refine Run.skip ?_
      refine Run.seq ?_
      refine Run.block ?_
      refine Run.seq ?_
      have hkN : k < segN a b := by omega
      obtain ⟨hvk, hsk⟩ := RW_spec hs hkN
      have hwa := VW_all hs hvk
      refine Run.region ?_
      refine Ops.pure rfl (Pure.move rfl) ?_
      refine Ops.q rfl (QOp.call fn209 rfl (fun w hw => (f_s_l03Walker w _ a b v (k : Int) (RdL.boxM 1 rfl rfl w hw) hs (by omega) (by omega)).cong (show _ = Value.agg (encW (RW b k)).toArray from rfl))) ?_
      refine Ops.go rfl (Loud.alloc zero167 rfl) ?_
      rintro _ _ ⟨b6, rfl, rfl⟩
      refine Ops.store (Stores.box 0 rfl rfl rfl size167 (allOne rfl) rfl rfl) ?_
      refine Ops.nil ?_
      refine Run.ext_ (L' := [.box b6 167 (encW (RW b k)), .row 167 4 vo (2 * k) ((awL b k).flatMap encW), .box b1 35 [.int .i64 a, .int .i64 b, v]]) (Ext.eq rfl) ?_
      refine Any.start follows ?_
      refine Any.take 0 rfl (by kernel_rfl) rfl (QOp.pure (Pure.move rfl)) ?_
      refine Any.take 1 rfl (by kernel_rfl) rfl (QOp.pure (Pure.ldBA 0 rfl cell167 rfl rfl rfl)) ?_
      refine Any.take 2 rfl (by kernel_rfl) rfl (QOp.pure (Pure.ldBA 0 rfl cell167 rfl rfl rfl)) ?_
      refine Any.take 3 rfl (by kernel_rfl) rfl (QOp.call fn210 rfl (fun w hw => f_s_l03Back w (RW b k) hwa.1 hwa.2.1 hwa.2.2.1 hwa.2.2.2)) ?_
      refine Any.one 4 (by kernel_rfl) ?_
      refine OneL.loud rfl rfl (Loud.litA2 sl105 rfl rfl rfl rfl rfl) ?_
      rintro v26 _ rfl
      refine ⟨.inl (by kernel_rfl), ?_⟩
      refine Any.one 5 (by kernel_rfl) ?_
      refine OneL.loud rfl rfl (Loud.append 2 rfl sl105 rfl rfl (RdL.own 0 rfl) (by simp [encW, Value.oneCell']) (by omega) (by omega)) ?_
      rintro v27 _ rfl
      refine ⟨.inl (by kernel_rfl), ?_⟩
      refine Any.take 6 rfl (by kernel_rfl) rfl (QOp.pure (Pure.assign rfl)) ?_
      refine Any.done (by kernel_rfl) ?_
      refine Run.blk ?_
      refine Run.region ?_
      refine Ops.pure rfl (Pure.move rfl) ?_
      refine Ops.pure rfl (Pure.add rfl rfl (by omega) (by omega)) ?_
      refine Ops.pure rfl (Pure.assign rfl) ?_
      refine Ops.nil ?_
      refine Run.asrt ?_
      refine ⟨k + 1, v27, ⟨by omega, by omega⟩, ⟨rfl, rfl, rfl, trivial⟩, ?_⟩
      rw [awL_succ, List.flatMap_append]
      exact Ext.trans (Ext.eq (by rfl)) (Ext.take 2 rfl (Ext.take 2 rfl (Ext.nil _)))
    · skip
      replace c17 := dF c17
      refine Run.exit rfl ?_
      refine Run.seq ?_
      refine Run.region ?_
      refine Ops.pure rfl (Pure.move rfl) ?_
      refine Ops.pure rfl (Pure.assign rfl) ?_
      refine Ops.pure rfl (Pure.assign rfl) ?_
      refine Ops.nil ?_
      have e : k = segN a b := by omega
      subst e
      refine Run.ext_ (Ext.take 0 rfl (Ext.nil _)) ?_
      refine Run.ret2 rfl rfl rfl ?_
      exact ⟨_, rfl, rfl⟩

set_option maxRecDepth 4000 in
/-- laws.a2Walks -/
theorem f_l_a2Walks (w : World) (a : Int) (b : Int) (v : Value) (l : List Int) (hv : Rd w v 1 l.length (ints l)) (hk : okP a b l = true) : RetV Try.prog 83 [.agg #[.int .i64 a, .int .i64 b, v]] w (.int .i64 (cnt a b l : Int)) := by
  have hs := okP_size hk
  obtain ⟨hs1, hs2, hs3, hs4⟩ := id hs
  have hsl := segN_le hs
  have hli := okP_inn hk
  have hib := (inn_eq hs).2.1
  have hbox4 : 4 * a * b = 4 * (a * b) := Int.mul_assoc _ _ _
  refine Ret.enter Try.func83 rfl Try.ntmps83 rfl ?_
  refine Run.seq ?_
  refine Run.region ?_
  refine Ops.go rfl (Loud.box rfl rfl) ?_
  rintro _ _ ⟨b1, rfl, rfl⟩
  refine Ops.pure rfl (Pure.assign rfl) ?_
  refine Ops.nil ?_
  refine Run.seq ?_
  refine Run.region ?_
  refine Ops.pure rfl (Pure.ldBA 0 rfl cell35 rfl rfl rfl) ?_
  refine Ops.go rfl (Loud.callR fn162 rfl (fun w hw => f_s_AllWalkers w a b v l (RdL.old hv w hw) hk)) ?_
  rintro v14 _ ⟨L14, hQ14, rfl⟩
  obtain ⟨x14, rfl, rfl⟩ := hQ14
  refine Ops.pure rfl (Pure.move rfl) ?_
  refine Ops.pure rfl (Pure.extract rfl rfl) ?_
  refine Ops.pure rfl (Pure.extract rfl rfl) ?_
  refine Ops.pure rfl (Pure.assign rfl) ?_
  refine Ops.pure rfl (Pure.assign rfl) ?_
  refine Ops.nil ?_
  refine Run.seq ?_
  refine Run.region ?_
  refine Ops.pure rfl (Pure.move rfl) ?_
  refine Ops.pure rfl (Pure.len sl105 (RdL.own 0 rfl) rfl) ?_
  refine Ops.go rfl (Loud.make sl113 rfl rfl (by omega) (by omega)) ?_
  rintro v19 _ rfl
  refine Ops.pure rfl (Pure.assign rfl) ?_
  refine Ops.nil ?_
  refine Run.seq ?_
  refine Run.region ?_
  refine Ops.pure rfl (Pure.assign rfl) ?_
  refine Ops.nil ?_
  refine Run.seq ?_
  refine Run.seq ?_
  refine Run.region ?_
  refine Ops.pure rfl (Pure.assign rfl) ?_
  refine Ops.nil ?_
  refine Run.block ?_
  refine Run.loop2 (X := Nat) (Y := List Bool) (fun k sl => [(1, .pointer (some ⟨b1, 0, none⟩)), (3, x14), (5, v19), (6, .int .i64 ((nP (FirstW a b l) k : Nat) : Int)), (7, .int .i64 k)]) (fun k sl => [.row 4 1 v19 (2 * segN a b) (bools sl), .row 167 4 x14 (2 * segN a b) ((awL b (segN a b)).flatMap encW), .box b1 35 [.int .i64 a, .int .i64 b, v]]) (fun k sl => k ≤ 2 * segN a b ∧ MW a b l k 0 sl) (fun k sl => 2 * segN a b - k) 0 (List.replicate (2 * segN a b) false) ?_ ?_ ?_ ?_
  · exact ⟨Nat.zero_le _, MW.zero a b l⟩
  · exact ⟨rfl, rfl, rfl, rfl, rfl, trivial⟩
  · exact Ext.trans (Ext.eq (by rw [made_one _ rfl, bools, List.map_replicate]; rfl)) (Ext.refl _)
  · intro k sl hinv0
    obtain ⟨hk2, hmw⟩ := hinv0
    have hsl1 := hmw.1
    have hsl2 : (bools sl).length = 2 * segN a b := by rw [bools, List.length_map]; exact hmw.1
    have hal : (awL b (segN a b)).length = 2 * segN a b := length_awL _ _
    have hnp := nP_le (FirstW a b l) k
    refine Run.seq ?_
    refine Run.seq ?_
    refine Run.region ?_
    refine Ops.pure rfl (Pure.move rfl) ?_
    refine Ops.pure rfl (Pure.move rfl) ?_
    refine Ops.pure rfl (Pure.len sl105 (RdL.own 1 rfl) rfl) ?_
    refine Ops.pure rfl (Pure.lss rfl rfl) ?_
    refine Ops.nil ?_
    refine Run.cond rfl (fun c23 => ?_) (fun c23 => ?_)
    · skip
      replace c23 := dT c23
      refine Run.skip ?_
      refine Run.seq ?_
      refine Run.block ?_
      refine Run.seq ?_
      refine Run.seq ?_
      refine Run.region ?_
      refine Ops.pure rfl (Pure.move rfl) ?_
      refine Ops.pure rfl (Pure.move rfl) ?_
      refine Ops.pure rfl (Pure.idx1N sl113 (RdL.own 0 rfl) rfl rfl (by first | assumption | omega | (simp; omega))) ?_
      refine Ops.pure rfl (Pure.ld cell4 rfl (RdL.own 0 rfl) (by first | exact ints_get (by omega) | exact bools_get (by omega) | exact strs_get (by omega) | exact vals_get (by first | omega | (simp; omega)))) ?_
      refine Ops.nil ?_
      refine Run.cond rfl (fun c29 => ?_) (fun c29 => ?_)
      · skip
        skip
        refine Run.exit rfl ?_
        refine Run.region ?_
        refine Ops.pure rfl (Pure.move rfl) ?_
        refine Ops.pure rfl (Pure.add rfl rfl (by omega) (by omega)) ?_
        refine Ops.pure rfl (Pure.assign rfl) ?_
        refine Ops.nil ?_
        refine Run.asrt ?_
        first
          | exact ⟨k + 1, sl, ⟨⟨by omega, (hmw.skip (by omega) c29).1⟩, by omega⟩, ⟨rfl, rfl, rfl, by rw [(hmw.skip (by omega) c29).2]; rfl, rfl, trivial⟩, Ext.refl _⟩
          | (refine ⟨k + 1, s1, ⟨⟨by omega, hdone⟩, by omega⟩, ⟨rfl, rfl, rfl, ?_, rfl, trivial⟩, Ext.right [_] _⟩
             rw [hfirst.1]
             rfl)
      · skip
        skip
        refine Run.skip ?_
        refine Run.seq ?_
        have hfirst := hmw.first (by omega) c29
        refine Run.region ?_
        refine Ops.pure rfl (Pure.move rfl) ?_
        refine Ops.pure rfl (Pure.add rfl rfl (by omega) (by omega)) ?_
        refine Ops.pure rfl (Pure.assign rfl) ?_
        refine Ops.nil ?_
        refine Run.seq ?_
        refine Run.region ?_
        refine Ops.pure rfl (Pure.move rfl) ?_
        refine Ops.pure rfl (Pure.move rfl) ?_
        refine Ops.pure rfl (Pure.idxN sl105 (RdL.own 1 rfl) rfl rfl (by first | assumption | omega | (simp; omega))) ?_
        refine Ops.pure rfl (Pure.ldA cell167 rfl (RdL.own 1 rfl) (seg_get encW_len (by omega) ((0, 0, 0, 0) : Wk)) rfl (by decide)) ?_
        refine Ops.go rfl (Loud.alloc zero167 rfl) ?_
        rintro _ _ ⟨b8, rfl, rfl⟩
        refine Ops.store (Stores.box 0 rfl rfl rfl size167 (allOne rfl) rfl rfl) ?_
        refine Ops.nil ?_
        refine Run.block ?_
        refine Run.loop3 (X := Nat) (Y := List Bool) (Z := Nat) (fun i s1 bx => [(1, .pointer (some ⟨b1, 0, none⟩)), (3, x14), (5, v19), (6, .int .i64 ((nP (FirstW a b l) k : Nat) + 1)), (7, .int .i64 k), (8, .pointer (some ⟨bx, 0, none⟩))]) (fun i s1 bx => [.box bx 167 (encW (itr (stp a b l) i (WN b k))), .row 4 1 v19 (2 * segN a b) (bools s1), .row 167 4 x14 (2 * segN a b) ((awL b (segN a b)).flatMap encW), .box b1 35 [.int .i64 a, .int .i64 b, v]]) (fun i s1 bx => i ≤ per a b l (WN b k) ∧ MW a b l k i s1) (fun i s1 bx => per a b l (WN b k) - i) 0 sl b8 ?_ ?_ ?_ ?_
        · exact ⟨Nat.zero_le _, hmw⟩
        · exact ⟨rfl, rfl, rfl, rfl, rfl, rfl, trivial⟩
        · exact Ext.eq (by rw [awL_get (by omega)]; rfl)
        · intro i s1 bx hinv1
          obtain ⟨hi1, hmi⟩ := hinv1
          have hs1l := hmi.1
          have hs1l2 : (bools s1).length = 2 * segN a b := by rw [bools, List.length_map]; exact hmi.1
          have hvw := VW_itr (l := l) hs1 hs3 (WN_spec hs (show k < 2 * segN a b by omega)).1 i
          have hixb := ixW_bd hs hvw
          have hat := hmi.at hs (by omega) hfirst.2 hi1
          have hsgb := sg_bd hvw
          have hwl := VW_all hs hvw
          refine Run.block ?_
          refine Run.seq ?_
          refine Run.region ?_
          refine Ops.pure rfl (Pure.ldBA 3 rfl cell35 rfl rfl rfl) ?_
          refine Ops.pure rfl (Pure.ldBA 0 rfl cell167 rfl rfl rfl) ?_
          refine Ops.q rfl (QOp.call fn163 rfl (fun w hw => (f_s_SegmentOf w a b v l _ _ _ _ (RdL.old hv w hw) hk hvw).cong (show _ = Value.tuple #[.int .i64 (sg b (itr (stp a b l) i (WN b k))), .int .i64 0] from rfl))) ?_
          refine Ops.pure rfl (Pure.move rfl) ?_
          refine Ops.pure rfl (Pure.extract rfl rfl) ?_
          refine Ops.pure rfl (Pure.extract rfl rfl) ?_
          refine Ops.pure rfl (Pure.assign rfl) ?_
          refine Ops.pure rfl (Pure.assign rfl) ?_
          refine Ops.nil ?_
          refine Run.seq ?_
          refine Run.region ?_
          refine Ops.pure rfl (Pure.move rfl) ?_
          refine Ops.pure rfl (Pure.mul rfl rfl (by omega) (by omega)) ?_
          refine Ops.pure rfl (Pure.assign rfl) ?_
          refine Ops.nil ?_
          refine Run.seq ?_
          refine Run.seq ?_
          refine Run.region ?_
          refine Ops.pure rfl (Pure.fieldAddrB fld167_1 rfl) ?_
          refine Ops.pure rfl (Pure.ldB 0 rfl cell2 rfl rfl) ?_
          refine Ops.pure rfl (Pure.lss rfl rfl) ?_
          refine Ops.nil ?_
          refine Run.cond rfl (fun c46 => ?_) (fun c46 => ?_)
          · skip
            replace c46 := dT c46
            refine Run.region ?_
            refine Ops.pure rfl (Pure.move rfl) ?_
            refine Ops.pure rfl (Pure.add rfl rfl (by omega) (by omega)) ?_
            refine Ops.pure rfl (Pure.assign rfl) ?_
            refine Ops.nil ?_
            refine Run.seq ?_
            refine Run.seq ?_
            have hix : (if (itr (stp a b l) i (WN b k)).2.2.1 < 0 then 2 * sg b (itr (stp a b l) i (WN b k)) + 1 else 2 * sg b (itr (stp a b l) i (WN b k))) = ixW b (itr (stp a b l) i (WN b k)) := by
              unfold ixW
              split <;> omega
            first
              | (rw [if_pos c46] at hix; rw [hix])
              | (rw [if_neg c46] at hix; rw [hix])
            refine Run.region ?_
            refine Ops.pure rfl (Pure.move rfl) ?_
            refine Ops.pure rfl (Pure.move rfl) ?_
            refine Ops.pure rfl (Pure.idx1 sl113 (RdL.own 1 rfl) rfl rfl (by first | assumption | omega | (simp; omega)) (by first | assumption | omega | (simp; omega))) ?_
            refine Ops.pure rfl (Pure.ld cell4 rfl (RdL.own 1 rfl) (by first | exact ints_get (by omega) | exact bools_get (by omega) | exact strs_get (by omega) | exact vals_get (by first | omega | (simp; omega)))) ?_
            refine Ops.nil ?_
            refine Run.cond rfl (fun c52 => ?_) (fun c52 => ?_)
            · skip
              skip
              have hie := hat.1 c52
              subst hie
              have hdone := hmi.done hs (by omega)
              refine Run.exit rfl ?_
              refine Run.blk ?_
              refine Run.region ?_
              refine Ops.pure rfl (Pure.move rfl) ?_
              refine Ops.pure rfl (Pure.add rfl rfl (by omega) (by omega)) ?_
              refine Ops.pure rfl (Pure.assign rfl) ?_
              refine Ops.nil ?_
              refine Run.asrt ?_
              first
                | exact ⟨k + 1, sl, ⟨⟨by omega, (hmw.skip (by omega) c29).1⟩, by omega⟩, ⟨rfl, rfl, rfl, by rw [(hmw.skip (by omega) c29).2]; rfl, rfl, trivial⟩, Ext.refl _⟩
                | (refine ⟨k + 1, s1, ⟨⟨by omega, hdone⟩, by omega⟩, ⟨rfl, rfl, rfl, ?_, rfl, trivial⟩, Ext.right [_] _⟩
                   rw [hfirst.1]
                   rfl)
            · skip
              skip
              have hlt : i < per a b l (WN b k) := by
                rcases Nat.lt_or_ge i (per a b l (WN b k)) with h | h
                · exact h
                · have h2 := hat.2 (by omega)
                  rw [h2] at c52
                  cases c52
              refine Run.skip ?_
              refine Run.seq ?_
              refine Run.region ?_
              refine Ops.pure rfl (Pure.move rfl) ?_
              refine Ops.pure rfl (Pure.move rfl) ?_
              refine Ops.pure rfl (Pure.idx1 sl113 (RdL.own 1 rfl) rfl rfl (by first | assumption | omega | (simp; omega)) (by first | assumption | omega | (simp; omega))) ?_
              refine Ops.store (Stores.row1 1 rfl size4 rfl rfl rfl (by first | assumption | omega | (simp; omega))) ?_
              refine Ops.nil ?_
              refine Run.region ?_
              refine Ops.pure rfl (Pure.ldBA 3 rfl cell35 rfl rfl rfl) ?_
              refine Ops.pure rfl (Pure.ldBA 0 rfl cell167 rfl rfl rfl) ?_
              refine Ops.q rfl (QOp.call fn164 rfl (fun w hw => (f_s_StepWalker w a b v l _ _ _ _ (RdL.old hv w hw) hk hvw).cong (show _ = Value.tuple #[.agg (encW (stp a b l (itr (stp a b l) i (WN b k)))).toArray, .int .i64 0] from rfl))) ?_
              refine Ops.pure rfl (Pure.move rfl) ?_
              refine Ops.pure rfl (Pure.extract rfl rfl) ?_
              refine Ops.pure rfl (Pure.extract rfl rfl) ?_
              refine Ops.store (Stores.box 0 rfl rfl rfl size167 (allOne rfl) rfl rfl) ?_
              refine Ops.nil ?_
              refine Run.blk ?_
              refine Run.asrt ?_
              refine ⟨i + 1, s1.set (ixW b (itr (stp a b l) i (WN b k))).toNat true, bx, ⟨⟨by omega, hmi.step hs (by omega)⟩, by omega⟩, ⟨rfl, rfl, rfl, rfl, rfl, rfl, trivial⟩, Ext.eq (by rw [bools, List.map_set]; rfl)⟩
          · skip
            replace c46 := dF c46
            refine Run.skip ?_
            refine Run.seq ?_
            refine Run.seq ?_
            have hix : (if (itr (stp a b l) i (WN b k)).2.2.1 < 0 then 2 * sg b (itr (stp a b l) i (WN b k)) + 1 else 2 * sg b (itr (stp a b l) i (WN b k))) = ixW b (itr (stp a b l) i (WN b k)) := by
              unfold ixW
              split <;> omega
            first
              | (rw [if_pos c46] at hix; rw [hix])
              | (rw [if_neg c46] at hix; rw [hix])
            refine Run.region ?_
            refine Ops.pure rfl (Pure.move rfl) ?_
            refine Ops.pure rfl (Pure.move rfl) ?_
            refine Ops.pure rfl (Pure.idx1 sl113 (RdL.own 1 rfl) rfl rfl (by first | assumption | omega | (simp; omega)) (by first | assumption | omega | (simp; omega))) ?_
            refine Ops.pure rfl (Pure.ld cell4 rfl (RdL.own 1 rfl) (by first | exact ints_get (by omega) | exact bools_get (by omega) | exact strs_get (by omega) | exact vals_get (by first | omega | (simp; omega)))) ?_
            refine Ops.nil ?_
            refine Run.cond rfl (fun c52 => ?_) (fun c52 => ?_)
            · skip
              skip
              have hie := hat.1 c52
              subst hie
              have hdone := hmi.done hs (by omega)
              refine Run.exit rfl ?_
              refine Run.blk ?_
              refine Run.region ?_
              refine Ops.pure rfl (Pure.move rfl) ?_
              refine Ops.pure rfl (Pure.add rfl rfl (by omega) (by omega)) ?_
              refine Ops.pure rfl (Pure.assign rfl) ?_
              refine Ops.nil ?_
              refine Run.asrt ?_
              first
                | exact ⟨k + 1, sl, ⟨⟨by omega, (hmw.skip (by omega) c29).1⟩, by omega⟩, ⟨rfl, rfl, rfl, by rw [(hmw.skip (by omega) c29).2]; rfl, rfl, trivial⟩, Ext.refl _⟩
                | (refine ⟨k + 1, s1, ⟨⟨by omega, hdone⟩, by omega⟩, ⟨rfl, rfl, rfl, ?_, rfl, trivial⟩, Ext.right [_] _⟩
                   rw [hfirst.1]
                   rfl)
            · skip
              skip
              have hlt : i < per a b l (WN b k) := by
                rcases Nat.lt_or_ge i (per a b l (WN b k)) with h | h
                · exact h
                · have h2 := hat.2 (by omega)
                  rw [h2] at c52
                  cases c52
              refine Run.skip ?_
              refine Run.seq ?_
              refine Run.region ?_
              refine Ops.pure rfl (Pure.move rfl) ?_
              refine Ops.pure rfl (Pure.move rfl) ?_
              refine Ops.pure rfl (Pure.idx1 sl113 (RdL.own 1 rfl) rfl rfl (by first | assumption | omega | (simp; omega)) (by first | assumption | omega | (simp; omega))) ?_
              refine Ops.store (Stores.row1 1 rfl size4 rfl rfl rfl (by first | assumption | omega | (simp; omega))) ?_
              refine Ops.nil ?_
              refine Run.region ?_
              refine Ops.pure rfl (Pure.ldBA 3 rfl cell35 rfl rfl rfl) ?_
              refine Ops.pure rfl (Pure.ldBA 0 rfl cell167 rfl rfl rfl) ?_
              refine Ops.q rfl (QOp.call fn164 rfl (fun w hw => (f_s_StepWalker w a b v l _ _ _ _ (RdL.old hv w hw) hk hvw).cong (show _ = Value.tuple #[.agg (encW (stp a b l (itr (stp a b l) i (WN b k)))).toArray, .int .i64 0] from rfl))) ?_
              refine Ops.pure rfl (Pure.move rfl) ?_
              refine Ops.pure rfl (Pure.extract rfl rfl) ?_
              refine Ops.pure rfl (Pure.extract rfl rfl) ?_
              refine Ops.store (Stores.box 0 rfl rfl rfl size167 (allOne rfl) rfl rfl) ?_
              refine Ops.nil ?_
              refine Run.blk ?_
              refine Run.asrt ?_
              refine ⟨i + 1, s1.set (ixW b (itr (stp a b l) i (WN b k))).toNat true, bx, ⟨⟨by omega, hmi.step hs (by omega)⟩, by omega⟩, ⟨rfl, rfl, rfl, rfl, rfl, rfl, trivial⟩, Ext.eq (by rw [bools, List.map_set]; rfl)⟩
    · skip
      replace c23 := dF c23
      refine Run.exit rfl ?_
      refine Run.seq ?_
      refine Run.region ?_
      refine Ops.pure rfl (Pure.move rfl) ?_
      refine Ops.pure rfl (Pure.quoN (n := 2) rfl rfl (by omega) (by omega)) ?_
      refine Ops.pure rfl (Pure.assign rfl) ?_
      refine Ops.nil ?_
      have e : k = 2 * segN a b := by omega
      subst e
      refine Run.ret1 rfl rfl ?_
      rw [firsts hs]
      exact congrArg (Value.int .i64) (by omega)

/-- the marks of the first i numbers of a list -/
def ML (N : Nat) (lg : List Int) (i : Nat) (sl : List Bool) : Prop := sl.length = N ∧ ∀ k, k < N → (sl.getD k false = true ↔ (k : Int) ∈ lg.take i)
theorem ML.zero (N : Nat) (lg : List Int) : ML N lg 0 (List.replicate N false) := by
  refine ⟨by simp, fun k hk => ?_⟩
  simp [List.getD, hk]
theorem ML.step {N : Nat} {pr lg : List Int} {i : Nat} {sl : List Bool} (h : ML N lg i sl) (hu : UF N pr lg) (hi : i < lg.length) : ML N lg (i + 1) (sl.set (lg.getD i 0).toNat true) := by
  have h1 := hu.rng _ (getD_memI hi)
  have hl := h.1
  refine ⟨by rw [List.length_set]; exact h.1, fun k hk => ?_⟩
  rw [getD_setB (by omega), h.2 k hk, List.take_add_one, getD_some hi 0, List.mem_append]
  simp only [Option.toList_some, List.mem_singleton]
  constructor
  · rintro (e | e)
    · exact .inr (by omega)
    · exact .inl e
  · rintro (e | e)
    · exact .inr e
    · exact .inl (by omega)
theorem ints_snoc (l : List Int) (x : Int) : ints (l ++ [x]) = ints l ++ [.int .i64 x] := by simp [ints]
theorem one2 {v u : Value} (hv : v.oneCell' = true) (hu : u.oneCell' = true) : ∀ x ∈ (Value.agg #[v, u]).cells.toList, x.oneCell' = true := by
  intro x hx
  have h : x = v ∨ x = u := by simpa [Value.cells] using hx
  rcases h with rfl | rfl
  · exact hv
  · exact hu
theorem nodup_take {lg : List Int} (h : lg.Nodup) {i : Nat} (hi : i < lg.length) : lg.getD i 0 ∉ lg.take i := by
  intro hm
  obtain ⟨j, hj, e⟩ := List.getElem_of_mem hm
  rw [List.length_take] at hj
  rw [List.getElem_take] at e
  have h2 := List.pairwise_iff_getElem.1 h j i (by omega) hi (by omega)
  apply h2
  rw [e]
  simp [List.getD, hi]
theorem ML.fresh {N : Nat} {pr lg : List Int} {i : Nat} {sl : List Bool} (h : ML N lg i sl) (hu : UF N pr lg) (hi : i < lg.length) : sl.getD (lg.getD i 0).toNat false = false := by
  have h1 := hu.rng _ (getD_memI hi)
  cases e : sl.getD (lg.getD i 0).toNat false with
  | false => rfl
  | true =>
    have h2 := (h.2 _ (by omega)).1 e
    rw [show (((lg.getD i 0).toNat : Nat) : Int) = lg.getD i 0 by omega] at h2
    exact absurd h2 (nodup_take hu.nd hi)
theorem UF.log {N : Nat} {pr lg : List Int} (hu : UF N pr lg) {i : Nat} (hi : i < lg.length) : 0 ≤ lg.getD i 0 ∧ lg.getD i 0 < N ∧ pr.getD (lg.getD i 0).toNat 0 ≠ lg.getD i 0 ∧ 0 ≤ pr.getD (lg.getD i 0).toNat 0 ∧ pr.getD (lg.getD i 0).toNat 0 < N := by
  have h1 := hu.rng _ (getD_memI hi)
  have h2 := hu.low.2 (lg.getD i 0).toNat (by omega)
  have h3 := (hu.mem (lg.getD i 0).toNat (by omega)).1 (by rw [show (((lg.getD i 0).toNat : Nat) : Int) = lg.getD i 0 by omega]; exact getD_memI hi)
  refine ⟨h1.1, h1.2, ?_, h2.1, ?_⟩
  · intro e
    exact h3 (by omega)
  · omega
theorem ML.parent {N : Nat} {pr lg : List Int} {i : Nat} {sl : List Bool} (h : ML N lg i sl) (hu : UF N pr lg) (hi : i < lg.length) : sl.getD (pr.getD (lg.getD i 0).toNat 0).toNat false = false := by
  have h1 := hu.log hi
  cases e : sl.getD (pr.getD (lg.getD i 0).toNat 0).toNat false with
  | false => rfl
  | true =>
    exfalso
    have h2 := (h.2 _ (by omega)).1 e
    rw [show (((pr.getD (lg.getD i 0).toNat 0).toNat : Nat) : Int) = pr.getD (lg.getD i 0).toNat 0 by omega] at h2
    obtain ⟨j, hj, e2⟩ := List.getElem_of_mem h2
    rw [List.length_take] at hj
    rw [List.getElem_take] at e2
    refine hu.ord i j hi (by omega) ?_
    rw [← e2]
    simp [List.getD, show j < lg.length by omega]
theorem ML.whole {N : Nat} {pr lg : List Int} {sl : List Bool} (h : ML N lg lg.length sl) (hu : UF N pr lg) {k : Nat} (hk : k < N) : sl.getD k false = !decide (pr.getD k 0 = k) := by
  have h1 := h.2 k hk
  rw [List.take_length, hu.mem k hk] at h1
  cases e : sl.getD k false with
  | false =>
    rw [e] at h1
    have h2 : pr.getD k 0 = k := Classical.not_not.1 fun hn => by cases h1.2 hn
    rw [decide_eq_true h2]
    rfl
  | true => rw [decide_eq_false (h1.1 e)]; rfl
theorem UF.lgN {N : Nat} {pr lg : List Int} (hu : UF N pr lg) : lg.length ≤ N := by
  have := hu.count
  omega
theorem UF.kids {N : Nat} {pr lg : List Int} (hu : UF N pr lg) : nP (fun k => ¬ pr.getD k 0 = k) N = lg.length := by
  have h1 := hu.count
  have h2 := nP_not (fun k : Nat => pr.getD k 0 = k) N
  omega

set_option maxRecDepth 4000 in
/-- (impl.Joined).group -/
theorem f_i_Joined_group (w : World) (vp : Value) (vl : Value) (N : Nat) (pr : List Int) (k : Nat) (hp : Rd w vp 1 N (ints pr)) (hlow : Low pr N) (hN : N ≤ 256) (hk : k < N) : RetV Try.prog 206 [.agg #[vp, vl], .int .i64 k] w (.int .i64 (rt pr k : Nat)) := by
  have hpl : (ints pr).length = N := by rw [ints, List.length_map]; exact hlow.1
  have hpl2 := hlow.1
  refine Ret.enter Try.func206 rfl Try.ntmps206 rfl ?_
  refine Run.seq ?_
  refine Run.region ?_
  refine Ops.go rfl (Loud.box rfl rfl) ?_
  rintro _ _ ⟨b2, rfl, rfl⟩
  refine Ops.pure rfl (Pure.assign rfl) ?_
  refine Ops.nil ?_
  refine Run.seq ?_
  refine Run.block ?_
  refine Run.loop (X := Nat) (fun q => [(1, .int .i64 q), (2, .pointer (some ⟨b2, 0, none⟩))]) (fun q => [.box b2 82 [vp, vl]]) (fun q => q < N ∧ rt pr q = rt pr k) (fun q => q) k ?_ ?_ ?_ ?_
  · exact ⟨hk, rfl⟩
  · exact ⟨rfl, rfl, trivial⟩
  · exact Ext.refl _
  · intro q hinv0
    obtain ⟨hq, hrt⟩ := hinv0
    have hqb := hlow.2 q hq
    refine Run.seq ?_
    refine Run.seq ?_
    refine Run.region ?_
    refine Ops.pure rfl (Pure.fieldAddrB fld82_0 rfl) ?_
    refine Ops.pure rfl (Pure.ldB 0 rfl cell32 rfl rfl) ?_
    refine Ops.pure rfl (Pure.move rfl) ?_
    refine Ops.pure rfl (Pure.idx1N sl32 (RdL.old hp) rfl rfl (by first | assumption | omega | (simp; omega))) ?_
    refine Ops.pure rfl (Pure.ld cell2 rfl (RdL.old hp) (by first | exact ints_get (by omega) | exact bools_get (by omega) | exact strs_get (by omega) | exact vals_get (by first | omega | (simp; omega)))) ?_
    refine Ops.pure rfl (Pure.move rfl) ?_
    refine Ops.pure rfl (Pure.neq rfl rfl) ?_
    refine Ops.nil ?_
    refine Run.cond rfl (fun c11 => ?_) (fun c11 => ?_)
    · skip
      replace c11 := nT c11
      refine Run.skip ?_
      refine Run.block ?_
      refine Run.region ?_
      refine Ops.pure rfl (Pure.fieldAddrB fld82_0 rfl) ?_
      refine Ops.pure rfl (Pure.ldB 0 rfl cell32 rfl rfl) ?_
      refine Ops.pure rfl (Pure.move rfl) ?_
      refine Ops.pure rfl (Pure.idx1N sl32 (RdL.old hp) rfl rfl (by first | assumption | omega | (simp; omega))) ?_
      refine Ops.pure rfl (Pure.ld cell2 rfl (RdL.old hp) (by first | exact ints_get (by omega) | exact bools_get (by omega) | exact strs_get (by omega) | exact vals_get (by first | omega | (simp; omega)))) ?_
      refine Ops.pure rfl (Pure.assign rfl) ?_
      refine Ops.nil ?_
      refine Run.blk ?_
      refine Run.asrt ?_
      refine ⟨(pr.getD q 0).toNat, ⟨⟨by omega, ?_⟩, by omega⟩, ⟨congrArg (fun z => some (Value.int .i64 z)) (by omega), rfl, trivial⟩, Ext.refl _⟩
      rw [← rt_up hlow hq (by omega)]
      exact hrt
    · skip
      replace c11 := nF c11
      refine Run.exit rfl ?_
      refine Run.seq ?_
      refine Run.region ?_
      refine Ops.pure rfl (Pure.move rfl) ?_
      refine Ops.pure rfl (Pure.assign rfl) ?_
      refine Ops.nil ?_
      refine Run.ret1 rfl rfl ?_
      rw [← hrt, rt_root (by omega)]

set_option maxRecDepth 4000 in
/-- (*impl.Joined).join -/
theorem f_i_Joined_join (w0 : World) (w : World) (bj : Nat) (vp : Value) (vl : Value) (N : Nat) (pr : List Int) (lg : List Int) (F : List Ent) (u : Nat) (v : Nat) (hw : Sat w0 w ([.box bj 82 [vp, vl], .row 2 1 vp N (ints pr), .row 2 1 vl lg.length (ints lg)] ++ F)) (hu : UF N pr lg) (hN : N ≤ 256) (hu1 : u < N) (hv1 : v < N) : RetO Try.prog 156 [.pointer (some ⟨bj, 0, none⟩), .int .i64 u, .int .i64 v] w0 w (fun z L => z = .tuple #[] ∧ ∃ vl2, L = [.box bj 82 [vp, vl2], .row 2 1 vp N (ints (jn1 pr u v)), .row 2 1 vl2 (jn2 pr lg u v).length (ints (jn2 pr lg u v))] ++ F) := by
  have hlow := hu.low
  have h1 := rt_spec hlow u hu1
  have h2 := rt_spec hlow v hv1
  have hpl : (ints pr).length = N := by rw [ints, List.length_map]; exact hlow.1
  have hlg := hu.lgN
  have hmx : ((max (rt pr u) (rt pr v) : Nat) : Int) = max (rt pr u : Int) (rt pr v) := by omega
  have hmn : ((min (rt pr u) (rt pr v) : Nat) : Int) = min (rt pr u : Int) (rt pr v) := by omega
  have hmm : (max (rt pr u : Int) (rt pr v)).toNat = max (rt pr u) (rt pr v) := by omega
  refine RetO.enter Try.func156 rfl Try.ntmps156 rfl hw ?_
  refine Run.seq ?_
  refine Any.start follows ?_
  refine Any.take 0 rfl (by kernel_rfl) rfl (QOp.pure (Pure.move rfl)) ?_
  refine Any.take 1 rfl (by kernel_rfl) rfl (QOp.pure (Pure.nilchk rfl)) ?_
  refine Any.take 2 rfl (by kernel_rfl) rfl (QOp.pure (Pure.ldBA 0 rfl cell82 rfl rfl rfl)) ?_
  refine Any.take 3 rfl (by kernel_rfl) rfl (QOp.pure (Pure.move rfl)) ?_
  refine Any.take 4 rfl (by kernel_rfl) rfl (QOp.call fn206 rfl (fun w hw => f_i_Joined_group w vp vl N pr u (RdL.own 1 rfl w hw) hlow hN hu1)) ?_
  refine Any.take 5 rfl (by kernel_rfl) rfl (QOp.pure (Pure.move rfl)) ?_
  refine Any.take 6 rfl (by kernel_rfl) rfl (QOp.pure (Pure.nilchk rfl)) ?_
  refine Any.take 7 rfl (by kernel_rfl) rfl (QOp.pure (Pure.ldBA 0 rfl cell82 rfl rfl rfl)) ?_
  refine Any.take 8 rfl (by kernel_rfl) rfl (QOp.pure (Pure.move rfl)) ?_
  refine Any.take 9 rfl (by kernel_rfl) rfl (QOp.call fn206 rfl (fun w hw => f_i_Joined_group w vp vl N pr v (RdL.own 1 rfl w hw) hlow hN hv1)) ?_
  refine Any.take 10 rfl (by kernel_rfl) rfl (QOp.pure (Pure.assign rfl)) ?_
  refine Any.take 11 rfl (by kernel_rfl) rfl (QOp.pure (Pure.assign rfl)) ?_
  refine Any.done (by kernel_rfl) ?_
  refine Run.seq ?_
  refine Run.seq ?_
  refine Run.region ?_
  refine Ops.pure rfl (Pure.move rfl) ?_
  refine Ops.pure rfl (Pure.move rfl) ?_
  refine Ops.pure rfl (Pure.eql rfl rfl) ?_
  refine Ops.nil ?_
  refine Run.cond rfl (fun c18 => ?_) (fun c18 => ?_)
  · skip
    replace c18 := dT c18
    refine Run.ret0 rfl ?_
    have e : rt pr u = rt pr v := by omega
    unfold jn1 jn2
    rw [if_pos e, if_pos e]
    exact ⟨rfl, vl, rfl⟩
  · skip
    replace c18 := dF c18
    refine Run.skip ?_
    refine Run.seq ?_
    refine Run.region ?_
    refine Ops.pure rfl (Pure.move rfl) ?_
    refine Ops.pure rfl (Pure.nilchk rfl) ?_
    refine Ops.pure rfl (Pure.fieldAddrB fld82_0 rfl) ?_
    refine Ops.pure rfl (Pure.ldB 0 rfl cell32 rfl rfl) ?_
    refine Ops.pure rfl (Pure.move rfl) ?_
    refine Ops.pure rfl (Pure.move rfl) ?_
    refine Ops.pure rfl (Pure.maxI rfl rfl) ?_
    refine Ops.pure rfl (Pure.move rfl) ?_
    refine Ops.pure rfl (Pure.move rfl) ?_
    refine Ops.pure rfl (Pure.minI rfl rfl) ?_
    refine Ops.pure rfl (Pure.idx1 sl32 (RdL.own 1 rfl) rfl rfl (by first | assumption | omega | (simp; omega)) (by first | assumption | omega | (simp; omega))) ?_
    refine Ops.store (Stores.row1 1 rfl size2 rfl rfl rfl (by first | assumption | omega | (simp; omega))) ?_
    refine Ops.nil ?_
    refine Run.region ?_
    refine Ops.pure rfl (Pure.move rfl) ?_
    refine Ops.pure rfl (Pure.move rfl) ?_
    refine Ops.pure rfl (Pure.nilchk rfl) ?_
    refine Ops.pure rfl (Pure.fieldAddrB fld82_1 rfl) ?_
    refine Ops.pure rfl (Pure.ldB 0 rfl cell32 rfl rfl) ?_
    refine Ops.pure rfl (Pure.move rfl) ?_
    refine Ops.pure rfl (Pure.move rfl) ?_
    refine Ops.pure rfl (Pure.maxI rfl rfl) ?_
    refine Ops.go rfl (Loud.lit sl32 rfl rfl rfl (by simp [Value.oneCell'])) ?_
    rintro v38 _ rfl
    refine Ops.go rfl (Loud.append 3 rfl sl32 rfl rfl (RdL.own 0 rfl) (by simp [Value.oneCell']) (by omega) (by omega)) ?_
    rintro v39 _ rfl
    refine Ops.pure rfl (Pure.nilchk rfl) ?_
    refine Ops.pure rfl (Pure.fieldAddrB fld82_1 rfl) ?_
    refine Ops.have_ (fun w hw => row_one 3 hw rfl) (fun h39 => ?_)
    refine Ops.store (Stores.box1 1 rfl rfl rfl size32 (by assumption) rfl) ?_
    refine Ops.nil ?_
    have e : ¬ rt pr u = rt pr v := by omega
    refine Run.ext_ (L' := [.box bj 82 [vp, v39], .row 2 1 vp N (ints (jn1 pr u v)), .row 2 1 v39 (jn2 pr lg u v).length (ints (jn2 pr lg u v))] ++ F) (by
      unfold jn1 jn2
      rw [if_neg e, if_neg e, ← ints_setI, ints_snoc, List.length_append, hmx, hmn, ← hmm]
      exact Ext.right [_] _) ?_
    refine Run.end0 rfl ?_
    exact ⟨rfl, v39, rfl⟩

set_option maxRecDepth 4000 in
/-- impl.NewJoined -/
theorem f_i_NewJoined (w : World) (N : Nat) (h1 : 1 ≤ N) (hN : N ≤ 256) : Ret Try.prog 153 [.int .i64 N] w (fun u L => ∃ x, u = .tuple #[.agg #[x, .slice none 0 0], .int .i64 0] ∧ L = [.row 2 1 x N (ints (ups N))]) := by
  refine Ret.enter Try.func153 rfl Try.ntmps153 rfl ?_
  refine Run.seq ?_
  refine Run.region ?_
  refine Ops.go rfl (Loud.alloc zero82 rfl) ?_
  rintro _ _ ⟨b2, rfl, rfl⟩
  refine Ops.pure rfl (Pure.assign rfl) ?_
  refine Ops.nil ?_
  refine Run.seq ?_
  refine Run.seq ?_
  refine Run.region ?_
  refine Ops.pure rfl (Pure.move rfl) ?_
  refine Ops.q rfl (QOp.call fn93 rfl (fun w hw => f_i_inRange w _ _ _)) ?_
  refine Ops.pure rfl (Pure.not rfl) ?_
  refine Ops.nil ?_
  refine Run.condEF rfl ((by simp; omega)) ?_
  refine Run.skip ?_
  refine Run.seq ?_
  refine Run.region ?_
  refine Ops.pure rfl (Pure.build rfl bld82) ?_
  refine Ops.go rfl (Loud.alloc zero82 rfl) ?_
  rintro _ _ ⟨b4, rfl, rfl⟩
  refine Ops.store (Stores.box 0 rfl rfl rfl size82 (allOne rfl) rfl rfl) ?_
  refine Ops.nil ?_
  refine Run.seq ?_
  refine Run.seq ?_
  refine Run.addNil 2 1 ?_
  refine Run.region ?_
  refine Ops.pure rfl (Pure.move rfl) ?_
  refine Ops.pure rfl (Pure.move rfl) ?_
  refine Ops.nil ?_
  refine Run.block ?_
  refine Run.loop2 (X := Nat) (Y := Value) (fun k vp => [(2, .pointer (some ⟨b2, 0, none⟩)), (4, .pointer (some ⟨b4, 0, none⟩)), (11, .int .i64 N), (12, .int .i64 k)]) (fun k vp => [.box b4 82 [vp, .slice none 0 0], .row 2 1 vp k (ints (ups k)), .box b2 82 [.slice none 0 0, .slice none 0 0]]) (fun k vp => k ≤ N) (fun k vp => N - k) 0 (.slice none 0 0) ?_ ?_ ?_ ?_
  · exact Nat.zero_le _
  · exact ⟨rfl, rfl, rfl, rfl, trivial⟩
  · exact Ext.take 1 rfl (Ext.take 0 rfl (Ext.refl _))
  · intro k vp hinv0
    refine Run.seq ?_
    refine Run.region ?_
    refine Ops.pure rfl (Pure.lss rfl rfl) ?_
    refine Ops.nil ?_
    refine Run.seq ?_
    refine Run.cond rfl (fun c13 => ?_) (fun c13 => ?_)
    · skip
      replace c13 := dT c13
      refine Run.skip ?_
      refine Run.seq ?_
      refine Run.block ?_
      refine Run.seq ?_
      refine Run.region ?_
      refine Ops.pure rfl (Pure.move rfl) ?_
      refine Ops.pure rfl (Pure.assign rfl) ?_
      refine Ops.nil ?_
      refine Run.region ?_
      refine Ops.pure rfl (Pure.fieldAddrB fld82_0 rfl) ?_
      refine Ops.pure rfl (Pure.ldB 0 rfl cell32 rfl rfl) ?_
      refine Ops.pure rfl (Pure.move rfl) ?_
      refine Ops.go rfl (Loud.lit sl32 rfl rfl rfl (by simp [Value.oneCell'])) ?_
      rintro v18 _ rfl
      refine Ops.go rfl (Loud.append 2 rfl sl32 rfl rfl (RdL.own 0 rfl) (by simp [Value.oneCell']) (by omega) (by omega)) ?_
      rintro v19 _ rfl
      refine Ops.pure rfl (Pure.fieldAddrB fld82_0 rfl) ?_
      refine Ops.have_ (fun w hw => row_one 2 hw rfl) (fun h19 => ?_)
      refine Ops.store (Stores.box1 1 rfl rfl rfl size32 (by assumption) rfl) ?_
      refine Ops.nil ?_
      refine Run.blk ?_
      refine Run.region ?_
      refine Ops.pure rfl (Pure.add rfl rfl (by omega) (by omega)) ?_
      refine Ops.pure rfl (Pure.move rfl) ?_
      refine Ops.nil ?_
      refine Run.asrt ?_
      refine ⟨k + 1, v19, ⟨by omega, by omega⟩, ⟨rfl, rfl, rfl, rfl, trivial⟩, ?_⟩
      rw [ups_succ, ints_snoc]
      exact Ext.right [_] _
    · skip
      replace c13 := dF c13
      refine Run.exit rfl ?_
      refine Run.seq ?_
      refine Run.have_ (fun w hw => row_one 1 hw rfl) (fun hvp => ?_)
      refine Run.region ?_
      refine Ops.pure rfl (Pure.ldBA 0 rfl cell82 rfl rfl rfl) ?_
      refine Ops.store (Stores.box 2 rfl rfl rfl size82 (one2 hvp rfl) rfl rfl) ?_
      refine Ops.pure rfl (Pure.assign rfl) ?_
      refine Ops.nil ?_
      have e : k = N := by omega
      subst e
      refine Run.retC1x 2 rfl rfl rfl rfl cell82 rfl (Ext.take 1 rfl (Ext.nil _)) ?_
      exact ⟨vp, rfl, rfl⟩

set_option maxRecDepth 4000 in
/-- spec.l08Ok -/
theorem f_s_l08Ok (w : World) (p : Nat) (vp : Value) (vl : Value) (N : Nat) (pr : List Int) (lg : List Int) (hp : Rd w (boxS p) 2 1 [vp, vl]) (hvp : Rd w vp 1 N (ints pr)) (hvl : Rd w vl 1 lg.length (ints lg)) (hu : UF N pr lg) (hN : N ≤ 256) (h1 : 1 ≤ N) : RetV Try.prog 160 [.pointer (some ⟨p, 0, none⟩)] w (.bool true) := by
  have hpl : (ints pr).length = N := by rw [ints, List.length_map]; exact hu.low.1
  have hpl2 := hu.low.1
  have hll : (ints lg).length = lg.length := by rw [ints, List.length_map]
  have hlg := hu.lgN
  refine Ret.enter Try.func160 rfl Try.ntmps160 rfl ?_
  refine Run.seq ?_
  refine Run.region ?_
  refine Ops.pure rfl (Pure.assign rfl) ?_
  refine Ops.nil ?_
  refine Run.seq ?_
  refine Run.region ?_
  refine Ops.pure rfl (Pure.move rfl) ?_
  refine Ops.pure rfl (Pure.nilchk rfl) ?_
  refine Ops.pure rfl (Pure.fieldAddrB fld82_0 rfl) ?_
  refine Ops.pure rfl (Pure.ldP cell32 rfl (RdL.old hp) rfl) ?_
  refine Ops.pure rfl (Pure.len sl32 (RdL.old hvp) rfl) ?_
  refine Ops.pure rfl (Pure.assign rfl) ?_
  refine Ops.nil ?_
  refine Run.seq ?_
  refine Run.seq ?_
  refine Run.region ?_
  refine Ops.pure rfl (Pure.move rfl) ?_
  refine Ops.q rfl (QOp.call fn119 rfl (fun w hw => f_s_l00In w _ _ _)) ?_
  refine Ops.pure rfl (Pure.not rfl) ?_
  refine Ops.nil ?_
  refine Run.condEF rfl ((by rw [decide_eq_true (by omega)]; rfl)) ?_
  refine Run.skip ?_
  refine Run.seq ?_
  refine Run.region ?_
  refine Ops.pure rfl (Pure.move rfl) ?_
  refine Ops.go rfl (Loud.make sl113 rfl rfl (by omega) (by omega)) ?_
  rintro v20 _ rfl
  refine Ops.pure rfl (Pure.assign rfl) ?_
  refine Ops.nil ?_
  refine Run.seq ?_
  refine Run.seq ?_
  refine Run.region ?_
  refine Ops.pure rfl (Pure.assign rfl) ?_
  refine Ops.nil ?_
  refine Run.block ?_
  refine Run.loop2 (X := Nat) (Y := List Bool) (fun i sl => [(0, .pointer (some ⟨p, 0, none⟩)), (3, .int .i64 N), (4, v20), (5, .int .i64 i)]) (fun i sl => [.row 4 1 v20 N (bools sl)]) (fun i sl => i ≤ lg.length ∧ ML N lg i sl) (fun i sl => lg.length - i) 0 (List.replicate N false) ?_ ?_ ?_ ?_
  · exact ⟨Nat.zero_le _, ML.zero N lg⟩
  · exact ⟨rfl, rfl, rfl, rfl, trivial⟩
  · exact Ext.trans (Ext.eq (by rw [made_one _ rfl, bools, List.map_replicate])) (Ext.refl _)
  · intro i sl hinv0
    obtain ⟨hi1, hml⟩ := hinv0
    have hsl : (bools sl).length = N := by rw [bools, List.length_map]; exact hml.1
    have hsl2 := hml.1
    refine Run.seq ?_
    refine Run.seq ?_
    refine Run.region ?_
    refine Ops.pure rfl (Pure.move rfl) ?_
    refine Ops.pure rfl (Pure.move rfl) ?_
    refine Ops.pure rfl (Pure.nilchk rfl) ?_
    refine Ops.pure rfl (Pure.fieldAddrB fld82_1 rfl) ?_
    refine Ops.pure rfl (Pure.ldP cell32 rfl (RdL.old hp) rfl) ?_
    refine Ops.pure rfl (Pure.len sl32 (RdL.old hvl) rfl) ?_
    refine Ops.pure rfl (Pure.lss rfl rfl) ?_
    refine Ops.nil ?_
    refine Run.cond rfl (fun c27 => ?_) (fun c27 => ?_)
    · skip
      replace c27 := dT c27
      refine Run.skip ?_
      refine Run.seq ?_
      refine Run.block ?_
      refine Run.seq ?_
      have hlog := hu.log (show i < lg.length by omega)
      refine Run.region ?_
      refine Ops.pure rfl (Pure.move rfl) ?_
      refine Ops.pure rfl (Pure.nilchk rfl) ?_
      refine Ops.pure rfl (Pure.fieldAddrB fld82_1 rfl) ?_
      refine Ops.pure rfl (Pure.ldP cell32 rfl (RdL.old hp) rfl) ?_
      refine Ops.pure rfl (Pure.move rfl) ?_
      refine Ops.pure rfl (Pure.idx1N sl32 (RdL.old hvl) rfl rfl (by first | assumption | omega | (simp; omega))) ?_
      refine Ops.pure rfl (Pure.ld cell2 rfl (RdL.old hvl) (by first | exact ints_get (by omega) | exact bools_get (by omega) | exact strs_get (by omega) | exact vals_get (by first | omega | (simp; omega)))) ?_
      refine Ops.pure rfl (Pure.assign rfl) ?_
      refine Ops.nil ?_
      refine Run.seq ?_
      refine Run.seq ?_
      refine Run.region ?_
      refine Ops.pure rfl (Pure.move rfl) ?_
      refine Ops.pure rfl (Pure.move rfl) ?_
      refine Ops.pure rfl (Pure.sub rfl rfl (by omega) (by omega)) ?_
      refine Ops.q rfl (QOp.call fn119 rfl (fun w hw => f_s_l00In w _ _ _)) ?_
      refine Ops.pure rfl (Pure.not rfl) ?_
      refine Ops.pure rfl (Pure.move rfl) ?_
      refine Ops.guardY rfl rfl rfl (by rw [decide_eq_true (by omega)]; rfl) ?_
      refine Ops.pure rfl (Pure.move rfl) ?_
      refine Ops.guardY rfl rfl rfl (by rw [decide_eq_true (by omega)]; rfl) ?_
      refine Ops.pure rfl (Pure.move rfl) ?_
      refine Ops.guardY rfl rfl rfl (by rw [decide_eq_true (by omega)]; rfl) ?_
      refine Ops.pure rfl (Pure.idx1 sl113 (RdL.own 0 rfl) rfl rfl (by first | assumption | omega | (simp; omega)) (by first | assumption | omega | (simp; omega))) ?_
      refine Ops.guardY rfl rfl rfl (by rw [decide_eq_true (by omega)]; rfl) ?_
      refine Ops.pure rfl (Pure.ld cell4 rfl (RdL.own 0 rfl) (by first | exact ints_get (by omega) | exact bools_get (by omega) | exact strs_get (by omega) | exact vals_get (by first | omega | (simp; omega)))) ?_
      refine Ops.pure rfl (Pure.pickF rfl (by rw [decide_eq_true (by omega)]; rfl) rfl) ?_
      refine Ops.nil ?_
      refine Run.condEF rfl (hml.fresh hu (by omega)) ?_
      refine Run.skip ?_
      refine Run.region ?_
      refine Ops.pure rfl (Pure.move rfl) ?_
      refine Ops.pure rfl (Pure.move rfl) ?_
      refine Ops.pure rfl (Pure.idx1 sl113 (RdL.own 0 rfl) rfl rfl (by first | assumption | omega | (simp; omega)) (by first | assumption | omega | (simp; omega))) ?_
      refine Ops.store (Stores.row1 0 rfl size4 rfl rfl rfl (by first | assumption | omega | (simp; omega))) ?_
      refine Ops.nil ?_
      refine Run.blk ?_
      refine Run.region ?_
      refine Ops.pure rfl (Pure.move rfl) ?_
      refine Ops.pure rfl (Pure.add rfl rfl (by omega) (by omega)) ?_
      refine Ops.pure rfl (Pure.assign rfl) ?_
      refine Ops.nil ?_
      refine Run.asrt ?_
      exact ⟨i + 1, sl.set (lg.getD i 0).toNat true, ⟨⟨by omega, hml.step hu (by omega)⟩, by omega⟩, ⟨rfl, rfl, rfl, rfl, trivial⟩, Ext.eq (by rw [bools, List.map_set]; rfl)⟩
    · skip
      replace c27 := dF c27
      refine Run.exit rfl ?_
      refine Run.seq ?_
      refine Run.seq ?_
      have e : i = lg.length := by omega
      subst e
      refine Run.region ?_
      refine Ops.pure rfl (Pure.assign rfl) ?_
      refine Ops.nil ?_
      refine Run.block ?_
      refine Run.loop (X := Nat) (fun k => [(0, .pointer (some ⟨p, 0, none⟩)), (3, .int .i64 N), (4, v20), (7, .int .i64 k)]) (fun k => [.row 4 1 v20 N (bools sl)]) (fun k => k ≤ N) (fun k => N - k) 0 ?_ ?_ ?_ ?_
      · exact Nat.zero_le _
      · exact ⟨rfl, rfl, rfl, rfl, trivial⟩
      · exact Ext.refl _
      · intro k hinv1
        refine Run.seq ?_
        refine Run.seq ?_
        refine Run.region ?_
        refine Ops.pure rfl (Pure.move rfl) ?_
        refine Ops.pure rfl (Pure.move rfl) ?_
        refine Ops.pure rfl (Pure.lss rfl rfl) ?_
        refine Ops.nil ?_
        refine Run.cond rfl (fun c53 => ?_) (fun c53 => ?_)
        · skip
          replace c53 := dT c53
          refine Run.skip ?_
          refine Run.seq ?_
          refine Run.block ?_
          refine Run.seq ?_
          have hkb := hu.low.2 k (by omega)
          refine Any.start follows ?_
          refine Any.take 0 rfl (by kernel_rfl) rfl (QOp.pure (Pure.move rfl)) ?_
          refine Any.take 1 rfl (by kernel_rfl) rfl (QOp.pure (Pure.nilchk rfl)) ?_
          refine Any.take 2 rfl (by kernel_rfl) rfl (QOp.pure (Pure.fieldAddrB fld82_0 rfl)) ?_
          refine Any.take 3 rfl (by kernel_rfl) rfl (QOp.pure (Pure.ldP cell32 rfl (RdL.old hp) rfl)) ?_
          refine Any.take 4 rfl (by kernel_rfl) rfl (QOp.pure (Pure.move rfl)) ?_
          refine Any.take 5 rfl (by kernel_rfl) rfl (QOp.pure (Pure.idx1N sl32 (RdL.old hvp) rfl rfl (by first | assumption | omega | (simp; omega)))) ?_
          refine Any.take 6 rfl (by kernel_rfl) rfl (QOp.pure (Pure.ld cell2 rfl (RdL.old hvp) (by first | exact ints_get (by omega) | exact bools_get (by omega) | exact strs_get (by omega) | exact vals_get (by first | omega | (simp; omega))))) ?_
          refine Any.take 7 rfl (by kernel_rfl) rfl (QOp.pure (Pure.move rfl)) ?_
          refine Any.take 8 rfl (by kernel_rfl) rfl (QOp.pure (Pure.sub rfl rfl (by omega) (by omega))) ?_
          refine Any.take 9 rfl (by kernel_rfl) rfl (QOp.call fn119 rfl (fun w hw => f_s_l00In w _ _ _)) ?_
          refine Any.take 10 rfl (by kernel_rfl) rfl (QOp.pure (Pure.not rfl)) ?_
          refine Any.take 11 rfl (by kernel_rfl) rfl (QOp.pure (Pure.move rfl)) ?_
          refine Any.takeY 12 rfl (by kernel_rfl) rfl rfl rfl rfl (by rw [decide_eq_true (by omega)]; rfl) (QOp.pure (Pure.move rfl)) ?_
          refine Any.takeY 13 rfl (by kernel_rfl) rfl rfl rfl rfl (by rw [decide_eq_true (by omega)]; rfl) (QOp.pure (Pure.nilchk rfl)) ?_
          refine Any.takeY 14 rfl (by kernel_rfl) rfl rfl rfl rfl (by rw [decide_eq_true (by omega)]; rfl) (QOp.pure (Pure.fieldAddrB fld82_0 rfl)) ?_
          refine Any.takeY 15 rfl (by kernel_rfl) rfl rfl rfl rfl (by rw [decide_eq_true (by omega)]; rfl) (QOp.pure (Pure.ldP cell32 rfl (RdL.old hp) rfl)) ?_
          refine Any.takeY 16 rfl (by kernel_rfl) rfl rfl rfl rfl (by rw [decide_eq_true (by omega)]; rfl) (QOp.pure (Pure.move rfl)) ?_
          refine Any.takeY 17 rfl (by kernel_rfl) rfl rfl rfl rfl (by rw [decide_eq_true (by omega)]; rfl) (QOp.pure (Pure.idx1N sl32 (RdL.old hvp) rfl rfl (by first | assumption | omega | (simp; omega)))) ?_
          refine Any.takeY 18 rfl (by kernel_rfl) rfl rfl rfl rfl (by rw [decide_eq_true (by omega)]; rfl) (QOp.pure (Pure.ld cell2 rfl (RdL.old hvp) (by first | exact ints_get (by omega) | exact bools_get (by omega) | exact strs_get (by omega) | exact vals_get (by first | omega | (simp; omega))))) ?_
          refine Any.takeY 19 rfl (by kernel_rfl) rfl rfl rfl rfl (by rw [decide_eq_true (by omega)]; rfl) (QOp.pure (Pure.move rfl)) ?_
          refine Any.takeY 20 rfl (by kernel_rfl) rfl rfl rfl rfl (by rw [decide_eq_true (by omega)]; rfl) (QOp.pure (Pure.eql rfl rfl)) ?_
          refine Any.takeY 21 rfl (by kernel_rfl) rfl rfl rfl rfl (by rw [decide_eq_true (by omega)]; rfl) (QOp.pure (Pure.move rfl)) ?_
          refine Any.takeY 22 rfl (by kernel_rfl) rfl rfl rfl rfl (by rw [decide_eq_true (by omega)]; rfl) (QOp.pure (Pure.move rfl)) ?_
          refine Any.takeY 23 rfl (by kernel_rfl) rfl rfl rfl rfl (by rw [decide_eq_true (by omega)]; rfl) (QOp.pure (Pure.idx1N sl113 (RdL.own 0 rfl) rfl rfl (by first | assumption | omega | (simp; omega)))) ?_
          refine Any.takeY 24 rfl (by kernel_rfl) rfl rfl rfl rfl (by rw [decide_eq_true (by omega)]; rfl) (QOp.pure (Pure.ld cell4 rfl (RdL.own 0 rfl) (by first | exact ints_get (by omega) | exact bools_get (by omega) | exact strs_get (by omega) | exact vals_get (by first | omega | (simp; omega))))) ?_
          refine Any.takeY 25 rfl (by kernel_rfl) rfl rfl rfl rfl (by rw [decide_eq_true (by omega)]; rfl) (QOp.pure (Pure.eqlB und4 rfl rfl)) ?_
          refine Any.take 26 rfl (by kernel_rfl) rfl (QOp.pure (Pure.pickF rfl (by rw [decide_eq_true (by omega)]; rfl) rfl)) ?_
          refine Any.done (by kernel_rfl) ?_
          refine Run.condEF rfl (by rw [hml.whole hu (by omega)]; cases decide (pr.getD k 0 = k) <;> rfl) ?_
          refine Run.skip ?_
          refine Run.blk ?_
          refine Run.region ?_
          refine Ops.pure rfl (Pure.move rfl) ?_
          refine Ops.pure rfl (Pure.add rfl rfl (by omega) (by omega)) ?_
          refine Ops.pure rfl (Pure.assign rfl) ?_
          refine Ops.nil ?_
          refine Run.asrt ?_
          exact ⟨k + 1, ⟨by omega, by omega⟩, ⟨rfl, rfl, rfl, rfl, trivial⟩, Ext.refl _⟩
        · skip
          replace c53 := dF c53
          refine Run.exit rfl ?_
          refine Run.seq ?_
          refine Run.region ?_
          refine Ops.pure rfl (Pure.move rfl) ?_
          refine Ops.go rfl (Loud.make sl113 rfl rfl (by omega) (by omega)) ?_
          rintro v84 _ rfl
          refine Ops.pure rfl (Pure.assign rfl) ?_
          refine Ops.nil ?_
          refine Run.seq ?_
          refine Run.seq ?_
          refine Run.region ?_
          refine Ops.pure rfl (Pure.assign rfl) ?_
          refine Ops.nil ?_
          refine Run.block ?_
          refine Run.loop2 (X := Nat) (Y := List Bool) (fun i sl => [(0, .pointer (some ⟨p, 0, none⟩)), (8, v84), (9, .int .i64 i)]) (fun i sl => [.row 4 1 v84 N (bools sl)]) (fun i sl => i ≤ lg.length ∧ ML N lg i sl) (fun i sl => lg.length - i) 0 (List.replicate N false) ?_ ?_ ?_ ?_
          · exact ⟨Nat.zero_le _, ML.zero N lg⟩
          · exact ⟨rfl, rfl, rfl, trivial⟩
          · exact Ext.trans (Ext.eq (by rw [made_one _ rfl, bools, List.map_replicate])) (Ext.take 0 rfl (Ext.nil _))
          · intro i sl hinv2
            obtain ⟨hi1, hml⟩ := hinv2
            have hsl : (bools sl).length = N := by rw [bools, List.length_map]; exact hml.1
            have hsl2 := hml.1
            refine Run.seq ?_
            refine Run.seq ?_
            refine Run.region ?_
            refine Ops.pure rfl (Pure.move rfl) ?_
            refine Ops.pure rfl (Pure.move rfl) ?_
            refine Ops.pure rfl (Pure.nilchk rfl) ?_
            refine Ops.pure rfl (Pure.fieldAddrB fld82_1 rfl) ?_
            refine Ops.pure rfl (Pure.ldP cell32 rfl (RdL.old hp) rfl) ?_
            refine Ops.pure rfl (Pure.len sl32 (RdL.old hvl) rfl) ?_
            refine Ops.pure rfl (Pure.lss rfl rfl) ?_
            refine Ops.nil ?_
            refine Run.cond rfl (fun c91 => ?_) (fun c91 => ?_)
            · skip
              replace c91 := dT c91
              refine Run.skip ?_
              refine Run.seq ?_
              refine Run.block ?_
              refine Run.seq ?_
              have hlog := hu.log (show i < lg.length by omega)
              refine Run.region ?_
              refine Ops.pure rfl (Pure.move rfl) ?_
              refine Ops.pure rfl (Pure.nilchk rfl) ?_
              refine Ops.pure rfl (Pure.fieldAddrB fld82_1 rfl) ?_
              refine Ops.pure rfl (Pure.ldP cell32 rfl (RdL.old hp) rfl) ?_
              refine Ops.pure rfl (Pure.move rfl) ?_
              refine Ops.pure rfl (Pure.idx1N sl32 (RdL.old hvl) rfl rfl (by first | assumption | omega | (simp; omega))) ?_
              refine Ops.pure rfl (Pure.ld cell2 rfl (RdL.old hvl) (by first | exact ints_get (by omega) | exact bools_get (by omega) | exact strs_get (by omega) | exact vals_get (by first | omega | (simp; omega)))) ?_
              refine Ops.pure rfl (Pure.assign rfl) ?_
              refine Ops.nil ?_
              refine Run.seq ?_
              refine Run.seq ?_
              refine Run.region ?_
              refine Ops.pure rfl (Pure.move rfl) ?_
              refine Ops.pure rfl (Pure.move rfl) ?_
              refine Ops.pure rfl (Pure.nilchk rfl) ?_
              refine Ops.pure rfl (Pure.fieldAddrB fld82_0 rfl) ?_
              refine Ops.pure rfl (Pure.ldP cell32 rfl (RdL.old hp) rfl) ?_
              refine Ops.pure rfl (Pure.move rfl) ?_
              refine Ops.pure rfl (Pure.idx1 sl32 (RdL.old hvp) rfl rfl (by first | assumption | omega | (simp; omega)) (by first | assumption | omega | (simp; omega))) ?_
              refine Ops.pure rfl (Pure.ld cell2 rfl (RdL.old hvp) (by first | exact ints_get (by omega) | exact bools_get (by omega) | exact strs_get (by omega) | exact vals_get (by first | omega | (simp; omega)))) ?_
              refine Ops.pure rfl (Pure.idx1 sl113 (RdL.own 0 rfl) rfl rfl (by first | assumption | omega | (simp; omega)) (by first | assumption | omega | (simp; omega))) ?_
              refine Ops.pure rfl (Pure.ld cell4 rfl (RdL.own 0 rfl) (by first | exact ints_get (by omega) | exact bools_get (by omega) | exact strs_get (by omega) | exact vals_get (by first | omega | (simp; omega)))) ?_
              refine Ops.nil ?_
              refine Run.condEF rfl ((hml.parent hu (by omega))) ?_
              refine Run.skip ?_
              refine Run.region ?_
              refine Ops.pure rfl (Pure.move rfl) ?_
              refine Ops.pure rfl (Pure.move rfl) ?_
              refine Ops.pure rfl (Pure.idx1 sl113 (RdL.own 0 rfl) rfl rfl (by first | assumption | omega | (simp; omega)) (by first | assumption | omega | (simp; omega))) ?_
              refine Ops.store (Stores.row1 0 rfl size4 rfl rfl rfl (by first | assumption | omega | (simp; omega))) ?_
              refine Ops.nil ?_
              refine Run.blk ?_
              refine Run.region ?_
              refine Ops.pure rfl (Pure.move rfl) ?_
              refine Ops.pure rfl (Pure.add rfl rfl (by omega) (by omega)) ?_
              refine Ops.pure rfl (Pure.assign rfl) ?_
              refine Ops.nil ?_
              refine Run.asrt ?_
              exact ⟨i + 1, sl.set (lg.getD i 0).toNat true, ⟨⟨by omega, hml.step hu (by omega)⟩, by omega⟩, ⟨rfl, rfl, rfl, trivial⟩, Ext.eq (by rw [bools, List.map_set]; rfl)⟩
            · skip
              replace c91 := dF c91
              refine Run.exit rfl ?_
              refine Run.seq ?_
              refine Run.region ?_
              refine Ops.pure rfl (Pure.assign rfl) ?_
              refine Ops.nil ?_
              refine Run.ret1 rfl rfl ?_
              rfl

set_option maxRecDepth 4000 in
/-- spec.ValidJoined -/
theorem f_s_ValidJoined (w : World) (vp : Value) (vl : Value) (N : Nat) (pr : List Int) (lg : List Int) (hvp : Rd w vp 1 N (ints pr)) (hvl : Rd w vl 1 lg.length (ints lg)) (hu : UF N pr lg) (hN : N ≤ 256) (h1 : 1 ≤ N) : RetV Try.prog 81 [.agg #[vp, vl]] w (.bool true) := by
  refine Ret.enter Try.func81 rfl Try.ntmps81 rfl ?_
  refine Run.seq ?_
  refine Run.region ?_
  refine Ops.go rfl (Loud.box rfl rfl) ?_
  rintro _ _ ⟨b1, rfl, rfl⟩
  refine Ops.pure rfl (Pure.assign rfl) ?_
  refine Ops.nil ?_
  refine Run.seq ?_
  refine Run.region ?_
  refine Ops.q rfl (QOp.call fn160 rfl (fun w hw => f_s_l08Ok w _ vp vl N pr lg (RdL.boxM 0 rfl rfl w hw) (RdL.old hvp w hw) (RdL.old hvl w hw) hu hN h1)) ?_
  refine Ops.pure rfl (Pure.assign rfl) ?_
  refine Ops.nil ?_
  refine Run.ret1 rfl rfl ?_
  rfl

set_option maxRecDepth 4000 in
/-- impl.ValidJoined -/
theorem f_i_ValidJoined (w : World) (vp : Value) (vl : Value) (N : Nat) (pr : List Int) (lg : List Int) (hvp : Rd w vp 1 N (ints pr)) (hvl : Rd w vl 1 lg.length (ints lg)) (hu : UF N pr lg) (hN : N ≤ 256) (h1 : 1 ≤ N) : RetV Try.prog 208 [.agg #[vp, vl]] w (.bool true) := by
  have hpl : (ints pr).length = N := by rw [ints, List.length_map]; exact hu.low.1
  have hpl2 := hu.low.1
  have hll : (ints lg).length = lg.length := by rw [ints, List.length_map]
  have hlg := hu.lgN
  refine Ret.enter Try.func208 rfl Try.ntmps208 rfl ?_
  refine Run.seq ?_
  refine Run.region ?_
  refine Ops.go rfl (Loud.box rfl rfl) ?_
  rintro _ _ ⟨b1, rfl, rfl⟩
  refine Ops.pure rfl (Pure.assign rfl) ?_
  refine Ops.nil ?_
  refine Run.seq ?_
  refine Run.region ?_
  refine Ops.pure rfl (Pure.fieldAddrB fld82_0 rfl) ?_
  refine Ops.pure rfl (Pure.ldB 0 rfl cell32 rfl rfl) ?_
  refine Ops.pure rfl (Pure.len sl32 (RdL.old hvp) rfl) ?_
  refine Ops.pure rfl (Pure.assign rfl) ?_
  refine Ops.nil ?_
  refine Run.seq ?_
  refine Run.seq ?_
  refine Run.region ?_
  refine Ops.pure rfl (Pure.move rfl) ?_
  refine Ops.q rfl (QOp.call fn93 rfl (fun w hw => f_i_inRange w _ _ _)) ?_
  refine Ops.pure rfl (Pure.not rfl) ?_
  refine Ops.nil ?_
  refine Run.condEF rfl ((by rw [decide_eq_true (by omega)]; rfl)) ?_
  refine Run.skip ?_
  refine Run.seq ?_
  refine Run.region ?_
  refine Ops.pure rfl (Pure.assign rfl) ?_
  refine Ops.nil ?_
  refine Run.seq ?_
  refine Run.seq ?_
  refine Run.region ?_
  refine Ops.pure rfl (Pure.fieldAddrB fld82_0 rfl) ?_
  refine Ops.pure rfl (Pure.ldB 0 rfl cell32 rfl rfl) ?_
  refine Ops.pure rfl (Pure.len sl32 (RdL.old hvp) rfl) ?_
  refine Ops.pure rfl (Pure.move rfl) ?_
  refine Ops.nil ?_
  refine Run.block ?_
  refine Run.loop (X := Nat) (fun k => [(1, .pointer (some ⟨b1, 0, none⟩)), (3, .int .i64 N), (4, .int .i64 ((nP (fun j => ¬ pr.getD j 0 = j) k : Nat) : Int)), (17, vp), (18, .int .i64 N), (19, .int .i64 k)]) (fun k => [.box b1 82 [vp, vl]]) (fun k => k ≤ N) (fun k => N - k) 0 ?_ ?_ ?_ ?_
  · exact Nat.zero_le _
  · exact ⟨rfl, rfl, rfl, rfl, rfl, rfl, trivial⟩
  · exact Ext.refl _
  · intro k hinv0
    have hnp := nP_le (fun j : Nat => ¬ pr.getD j 0 = j) k
    refine Run.seq ?_
    refine Run.region ?_
    refine Ops.pure rfl (Pure.lss rfl rfl) ?_
    refine Ops.nil ?_
    refine Run.seq ?_
    refine Run.cond rfl (fun c20 => ?_) (fun c20 => ?_)
    · skip
      replace c20 := dT c20
      refine Run.skip ?_
      refine Run.seq ?_
      refine Run.block ?_
      refine Run.seq ?_
      refine Run.region ?_
      refine Ops.pure rfl (Pure.move rfl) ?_
      refine Ops.pure rfl (Pure.idx1N sl32 (RdL.old hvp) rfl rfl (by first | assumption | omega | (simp; omega))) ?_
      refine Ops.pure rfl (Pure.ld cell2 rfl (RdL.old hvp) (by first | exact ints_get (by omega) | exact bools_get (by omega) | exact strs_get (by omega) | exact vals_get (by first | omega | (simp; omega)))) ?_
      refine Ops.pure rfl (Pure.assign rfl) ?_
      refine Ops.pure rfl (Pure.assign rfl) ?_
      refine Ops.nil ?_
      refine Run.seq ?_
      refine Run.seq ?_
      have hkb := hu.low.2 k (by omega)
      refine Run.region ?_
      refine Ops.pure rfl (Pure.move rfl) ?_
      refine Ops.pure rfl (Pure.move rfl) ?_
      refine Ops.q rfl (QOp.call fn168 rfl (fun w hw => f_i_hasIndex w _ _ (by omega))) ?_
      refine Ops.pure rfl (Pure.not rfl) ?_
      refine Ops.nil ?_
      refine Run.condEF rfl ((by rw [decide_eq_true (by omega)]; rfl)) ?_
      refine Run.skip ?_
      refine Run.seq ?_
      refine Run.region ?_
      refine Ops.pure rfl (Pure.move rfl) ?_
      refine Ops.pure rfl (Pure.move rfl) ?_
      refine Ops.pure rfl (Pure.neq rfl rfl) ?_
      refine Ops.nil ?_
      refine Run.cond rfl (fun c30 => ?_) (fun c30 => ?_)
      · skip
        replace c30 := nT c30
        refine Run.region ?_
        refine Ops.pure rfl (Pure.move rfl) ?_
        refine Ops.pure rfl (Pure.add rfl rfl (by omega) (by omega)) ?_
        refine Ops.pure rfl (Pure.assign rfl) ?_
        refine Ops.nil ?_
        refine Run.blk ?_
        refine Run.region ?_
        refine Ops.pure rfl (Pure.add rfl rfl (by omega) (by omega)) ?_
        refine Ops.pure rfl (Pure.move rfl) ?_
        refine Ops.nil ?_
        refine Run.asrt ?_
        first
          | exact ⟨k + 1, ⟨by omega, by omega⟩, ⟨rfl, rfl, by rw [nP_yes c30]; rfl, rfl, rfl, rfl, trivial⟩, Ext.refl _⟩
          | exact ⟨k + 1, ⟨by omega, by omega⟩, ⟨rfl, rfl, by rw [nP_no (fun h => h c30)]; rfl, rfl, rfl, rfl, trivial⟩, Ext.refl _⟩
      · skip
        replace c30 := nF c30
        refine Run.skip ?_
        refine Run.blk ?_
        refine Run.region ?_
        refine Ops.pure rfl (Pure.add rfl rfl (by omega) (by omega)) ?_
        refine Ops.pure rfl (Pure.move rfl) ?_
        refine Ops.nil ?_
        refine Run.asrt ?_
        first
          | exact ⟨k + 1, ⟨by omega, by omega⟩, ⟨rfl, rfl, by rw [nP_yes c30]; rfl, rfl, rfl, rfl, trivial⟩, Ext.refl _⟩
          | exact ⟨k + 1, ⟨by omega, by omega⟩, ⟨rfl, rfl, by rw [nP_no (fun h => h c30)]; rfl, rfl, rfl, rfl, trivial⟩, Ext.refl _⟩
    · skip
      replace c20 := dF c20
      refine Run.exit rfl ?_
      refine Run.seq ?_
      refine Run.seq ?_
      have e : N = k := by omega
      subst e
      have hkids := hu.kids
      refine Run.region ?_
      refine Ops.pure rfl (Pure.fieldAddrB fld82_1 rfl) ?_
      refine Ops.pure rfl (Pure.ldB 0 rfl cell32 rfl rfl) ?_
      refine Ops.pure rfl (Pure.len sl32 (RdL.old hvl) rfl) ?_
      refine Ops.pure rfl (Pure.move rfl) ?_
      refine Ops.pure rfl (Pure.neq rfl rfl) ?_
      refine Ops.nil ?_
      refine Run.condEF rfl ((by rw [hkids]; simp)) ?_
      refine Run.skip ?_
      refine Run.seq ?_
      refine Run.region ?_
      refine Ops.pure rfl (Pure.move rfl) ?_
      refine Ops.go rfl (Loud.make sl113 rfl rfl (by omega) (by omega)) ?_
      rintro v40 _ rfl
      refine Ops.pure rfl (Pure.assign rfl) ?_
      refine Ops.nil ?_
      refine Run.seq ?_
      refine Run.seq ?_
      refine Run.region ?_
      refine Ops.pure rfl (Pure.fieldAddrB fld82_1 rfl) ?_
      refine Ops.pure rfl (Pure.ldB 1 rfl cell32 rfl rfl) ?_
      refine Ops.pure rfl (Pure.len sl32 (RdL.old hvl) rfl) ?_
      refine Ops.pure rfl (Pure.move rfl) ?_
      refine Ops.nil ?_
      refine Run.block ?_
      refine Run.loop2 (X := Nat) (Y := List Bool) (fun i sl => [(1, .pointer (some ⟨b1, 0, none⟩)), (3, .int .i64 N), (7, v40), (42, vl), (43, .int .i64 lg.length), (44, .int .i64 i)]) (fun i sl => [.row 4 1 v40 N (bools sl), .box b1 82 [vp, vl]]) (fun i sl => i ≤ lg.length ∧ ML N lg i sl) (fun i sl => lg.length - i) 0 (List.replicate N false) ?_ ?_ ?_ ?_
      · exact ⟨Nat.zero_le _, ML.zero N lg⟩
      · exact ⟨rfl, rfl, rfl, rfl, rfl, rfl, trivial⟩
      · exact Ext.trans (Ext.eq (by rw [made_one _ rfl, bools, List.map_replicate])) (Ext.refl _)
      · intro i sl hinv1
        obtain ⟨hi1, hml⟩ := hinv1
        have hsl : (bools sl).length = N := by rw [bools, List.length_map]; exact hml.1
        have hsl2 := hml.1
        refine Run.seq ?_
        refine Run.region ?_
        refine Ops.pure rfl (Pure.lss rfl rfl) ?_
        refine Ops.nil ?_
        refine Run.seq ?_
        refine Run.cond rfl (fun c45 => ?_) (fun c45 => ?_)
        · skip
          replace c45 := dT c45
          refine Run.skip ?_
          refine Run.seq ?_
          refine Run.block ?_
          refine Run.seq ?_
          have hlog := hu.log (show i < lg.length by omega)
          refine Run.region ?_
          refine Ops.pure rfl (Pure.idx1N sl32 (RdL.old hvl) rfl rfl (by first | assumption | omega | (simp; omega))) ?_
          refine Ops.pure rfl (Pure.ld cell2 rfl (RdL.old hvl) (by first | exact ints_get (by omega) | exact bools_get (by omega) | exact strs_get (by omega) | exact vals_get (by first | omega | (simp; omega)))) ?_
          refine Ops.pure rfl (Pure.assign rfl) ?_
          refine Ops.nil ?_
          refine Run.seq ?_
          refine Run.seq ?_
          refine Run.region ?_
          refine Ops.pure rfl (Pure.move rfl) ?_
          refine Ops.pure rfl (Pure.move rfl) ?_
          refine Ops.q rfl (QOp.call fn168 rfl (fun w hw => f_i_hasIndex w _ _ (by omega))) ?_
          refine Ops.pure rfl (Pure.not rfl) ?_
          refine Ops.pure rfl (Pure.move rfl) ?_
          refine Ops.guardY rfl rfl rfl (by rw [decide_eq_true (by omega)]; rfl) ?_
          refine Ops.pure rfl (Pure.move rfl) ?_
          refine Ops.guardY rfl rfl rfl (by rw [decide_eq_true (by omega)]; rfl) ?_
          refine Ops.pure rfl (Pure.move rfl) ?_
          refine Ops.guardY rfl rfl rfl (by rw [decide_eq_true (by omega)]; rfl) ?_
          refine Ops.pure rfl (Pure.idx1 sl113 (RdL.own 0 rfl) rfl rfl (by first | assumption | omega | (simp; omega)) (by first | assumption | omega | (simp; omega))) ?_
          refine Ops.guardY rfl rfl rfl (by rw [decide_eq_true (by omega)]; rfl) ?_
          refine Ops.pure rfl (Pure.ld cell4 rfl (RdL.own 0 rfl) (by first | exact ints_get (by omega) | exact bools_get (by omega) | exact strs_get (by omega) | exact vals_get (by first | omega | (simp; omega)))) ?_
          refine Ops.pure rfl (Pure.pickF rfl (by rw [decide_eq_true (by omega)]; rfl) rfl) ?_
          refine Ops.pure rfl (Pure.move rfl) ?_
          refine Ops.guardY rfl rfl rfl (hml.fresh hu (by omega)) ?_
          refine Ops.pure rfl (Pure.fieldAddrB fld82_0 rfl) ?_
          refine Ops.guardY rfl rfl rfl (hml.fresh hu (by omega)) ?_
          refine Ops.pure rfl (Pure.ldB 1 rfl cell32 rfl rfl) ?_
          refine Ops.guardY rfl rfl rfl (hml.fresh hu (by omega)) ?_
          refine Ops.pure rfl (Pure.move rfl) ?_
          refine Ops.guardY rfl rfl rfl (hml.fresh hu (by omega)) ?_
          refine Ops.pure rfl (Pure.idx1 sl32 (RdL.old hvp) rfl rfl (by first | assumption | omega | (simp; omega)) (by first | assumption | omega | (simp; omega))) ?_
          refine Ops.guardY rfl rfl rfl (hml.fresh hu (by omega)) ?_
          refine Ops.pure rfl (Pure.ld cell2 rfl (RdL.old hvp) (by first | exact ints_get (by omega) | exact bools_get (by omega) | exact strs_get (by omega) | exact vals_get (by first | omega | (simp; omega)))) ?_
          refine Ops.guardY rfl rfl rfl (hml.fresh hu (by omega)) ?_
          refine Ops.pure rfl (Pure.move rfl) ?_
          refine Ops.guardY rfl rfl rfl (hml.fresh hu (by omega)) ?_
          refine Ops.pure rfl (Pure.eql rfl rfl) ?_
          refine Ops.pure rfl (Pure.pickF rfl (hml.fresh hu (by omega)) rfl) ?_
          refine Ops.pure rfl (Pure.move rfl) ?_
          refine Ops.guardY rfl rfl rfl (decide_eq_false hlog.2.2.1) ?_
          refine Ops.pure rfl (Pure.move rfl) ?_
          refine Ops.guardY rfl rfl rfl (decide_eq_false hlog.2.2.1) ?_
          refine Ops.pure rfl (Pure.fieldAddrB fld82_0 rfl) ?_
          refine Ops.guardY rfl rfl rfl (decide_eq_false hlog.2.2.1) ?_
          refine Ops.pure rfl (Pure.ldB 1 rfl cell32 rfl rfl) ?_
          refine Ops.guardY rfl rfl rfl (decide_eq_false hlog.2.2.1) ?_
          refine Ops.pure rfl (Pure.move rfl) ?_
          refine Ops.guardY rfl rfl rfl (decide_eq_false hlog.2.2.1) ?_
          refine Ops.pure rfl (Pure.idx1 sl32 (RdL.old hvp) rfl rfl (by first | assumption | omega | (simp; omega)) (by first | assumption | omega | (simp; omega))) ?_
          refine Ops.guardY rfl rfl rfl (decide_eq_false hlog.2.2.1) ?_
          refine Ops.pure rfl (Pure.ld cell2 rfl (RdL.old hvp) (by first | exact ints_get (by omega) | exact bools_get (by omega) | exact strs_get (by omega) | exact vals_get (by first | omega | (simp; omega)))) ?_
          refine Ops.guardY rfl rfl rfl (decide_eq_false hlog.2.2.1) ?_
          refine Ops.pure rfl (Pure.idx1 sl113 (RdL.own 0 rfl) rfl rfl (by first | assumption | omega | (simp; omega)) (by first | assumption | omega | (simp; omega))) ?_
          refine Ops.guardY rfl rfl rfl (decide_eq_false hlog.2.2.1) ?_
          refine Ops.pure rfl (Pure.ld cell4 rfl (RdL.own 0 rfl) (by first | exact ints_get (by omega) | exact bools_get (by omega) | exact strs_get (by omega) | exact vals_get (by first | omega | (simp; omega)))) ?_
          refine Ops.pure rfl (Pure.pickF rfl (decide_eq_false hlog.2.2.1) rfl) ?_
          refine Ops.nil ?_
          refine Run.condEF rfl (hml.parent hu (by omega)) ?_
          refine Run.skip ?_
          refine Run.region ?_
          refine Ops.pure rfl (Pure.move rfl) ?_
          refine Ops.pure rfl (Pure.move rfl) ?_
          refine Ops.pure rfl (Pure.idx1 sl113 (RdL.own 0 rfl) rfl rfl (by first | assumption | omega | (simp; omega)) (by first | assumption | omega | (simp; omega))) ?_
          refine Ops.store (Stores.row1 0 rfl size4 rfl rfl rfl (by first | assumption | omega | (simp; omega))) ?_
          refine Ops.nil ?_
          refine Run.blk ?_
          refine Run.region ?_
          refine Ops.pure rfl (Pure.add rfl rfl (by omega) (by omega)) ?_
          refine Ops.pure rfl (Pure.move rfl) ?_
          refine Ops.nil ?_
          refine Run.asrt ?_
          exact ⟨i + 1, sl.set (lg.getD i 0).toNat true, ⟨⟨by omega, hml.step hu (by omega)⟩, by omega⟩, ⟨rfl, rfl, rfl, rfl, rfl, rfl, trivial⟩, Ext.eq (by rw [bools, List.map_set]; rfl)⟩
        · skip
          replace c45 := dF c45
          refine Run.exit rfl ?_
          refine Run.seq ?_
          refine Run.region ?_
          refine Ops.pure rfl (Pure.assign rfl) ?_
          refine Ops.nil ?_
          refine Run.ret1 rfl rfl ?_
          rfl

set_option maxRecDepth 4000 in
/-- impl.joinedCode -/
theorem f_i_joinedCode (w : World) (vp : Value) (vl : Value) (N : Nat) (pr : List Int) (lg : List Int) (hvp : Rd w vp 1 N (ints pr)) (hvl : Rd w vl 1 lg.length (ints lg)) (hu : UF N pr lg) (hN : N ≤ 256) (h1 : 1 ≤ N) : RetV Try.prog 161 [.agg #[vp, vl], .slice none 0 0] w (.int .i64 0) := by
  refine Ret.enter Try.func161 rfl Try.ntmps161 rfl ?_
  refine Run.seq ?_
  refine Run.region ?_
  refine Ops.go rfl (Loud.box rfl rfl) ?_
  rintro _ _ ⟨b2, rfl, rfl⟩
  refine Ops.pure rfl (Pure.assign rfl) ?_
  refine Ops.nil ?_
  refine Run.seq ?_
  refine Run.seq ?_
  refine Run.region ?_
  refine Ops.pure rfl (Pure.ldBA 0 rfl cell82 rfl rfl rfl) ?_
  refine Ops.q rfl (QOp.call fn208 rfl (fun w hw => f_i_ValidJoined w _ _ _ _ _ (by exact RdL.old (by assumption) w hw) (by exact RdL.old (by assumption) w hw) (by assumption) (by assumption) (by assumption))) ?_
  refine Ops.pure rfl (Pure.not rfl) ?_
  refine Ops.nil ?_
  refine Run.condEF rfl (rfl) ?_
  refine Run.skip ?_
  refine Run.seq ?_
  refine Run.seq ?_
  refine Run.region ?_
  refine Ops.pure rfl (Pure.move rfl) ?_
  refine Ops.pure rfl (Pure.lenNil sl32 rfl) ?_
  refine Ops.pure rfl (Pure.move rfl) ?_
  refine Ops.nil ?_
  refine Run.block ?_
  refine Run.loop (X := Nat) (fun k => [(2, .pointer (some ⟨b2, 0, none⟩)), (10, .slice none 0 0), (11, .int .i64 0), (12, .int .i64 0)]) (fun k => [.box b2 82 [vp, vl]]) (fun k => k = 0) (fun k => k) 0 ?_ ?_ ?_ ?_
  · exact rfl
  · exact ⟨rfl, rfl, rfl, rfl, trivial⟩
  · exact Ext.refl _
  · intro k hinv0
    refine Run.seq ?_
    refine Run.region ?_
    refine Ops.pure rfl (Pure.lss rfl rfl) ?_
    refine Ops.nil ?_
    refine Run.seq ?_
    refine Run.cond rfl (fun c13 => ?_) (fun c13 => ?_)
    · skip
      replace c13 := dT c13
      exfalso
      omega
    · skip
      replace c13 := dF c13
      refine Run.exit rfl ?_
      refine Run.seq ?_
      refine Run.region ?_
      refine Ops.pure rfl (Pure.assign rfl) ?_
      refine Ops.nil ?_
      refine Run.ret1 rfl rfl ?_
      rfl

set_option maxRecDepth 4000 in
/-- impl.CountGroups -/
theorem f_i_CountGroups (w : World) (vp : Value) (vl : Value) (N : Nat) (pr : List Int) (lg : List Int) (hvp : Rd w vp 1 N (ints pr)) (hvl : Rd w vl 1 lg.length (ints lg)) (hu : UF N pr lg) (hN : N ≤ 256) (h1 : 1 ≤ N) : RetV Try.prog 82 [.agg #[vp, vl]] w (.tuple #[.int .i64 ((N : Int) - lg.length), .int .i64 0]) := by
  have hpl : (ints pr).length = N := by rw [ints, List.length_map]; exact hu.low.1
  have hpl2 := hu.low.1
  have hll : (ints lg).length = lg.length := by rw [ints, List.length_map]
  have hlg := hu.lgN
  refine Ret.enter Try.func82 rfl Try.ntmps82 rfl ?_
  refine Run.seq ?_
  refine Run.region ?_
  refine Ops.go rfl (Loud.box rfl rfl) ?_
  rintro _ _ ⟨b1, rfl, rfl⟩
  refine Ops.pure rfl (Pure.assign rfl) ?_
  refine Ops.pure rfl (Pure.assign rfl) ?_
  refine Ops.nil ?_
  refine Run.seq ?_
  refine Run.seq ?_
  refine Run.region ?_
  refine Ops.pure rfl (Pure.ldBA 0 rfl cell82 rfl rfl rfl) ?_
  refine Ops.q rfl (QOp.call fn161 rfl (fun w hw => f_i_joinedCode w _ _ _ _ _ (by exact RdL.old (by assumption) w hw) (by exact RdL.old (by assumption) w hw) (by assumption) (by assumption) (by assumption))) ?_
  refine Ops.pure rfl (Pure.assign rfl) ?_
  refine Ops.nil ?_
  refine Run.seq ?_
  refine Run.region ?_
  refine Ops.pure rfl (Pure.move rfl) ?_
  refine Ops.pure rfl (Pure.neq rfl rfl) ?_
  refine Ops.nil ?_
  refine Run.condEF rfl ((by simp)) ?_
  refine Run.skip ?_
  refine Run.seq ?_
  refine Run.region ?_
  refine Ops.pure rfl (Pure.fieldAddrB fld82_0 rfl) ?_
  refine Ops.pure rfl (Pure.ldB 0 rfl cell32 rfl rfl) ?_
  refine Ops.pure rfl (Pure.len sl32 (RdL.old hvp) rfl) ?_
  refine Ops.pure rfl (Pure.fieldAddrB fld82_1 rfl) ?_
  refine Ops.pure rfl (Pure.ldB 0 rfl cell32 rfl rfl) ?_
  refine Ops.pure rfl (Pure.len sl32 (RdL.old hvl) rfl) ?_
  refine Ops.pure rfl (Pure.sub rfl rfl (by omega) (by omega)) ?_
  refine Ops.pure rfl (Pure.assign rfl) ?_
  refine Ops.pure rfl (Pure.assign rfl) ?_
  refine Ops.nil ?_
  refine Run.ret2 rfl rfl rfl ?_
  rfl

end Go.Proofs.Ytmfinopdokkjcaa
