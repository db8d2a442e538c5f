/- Contracts of functions, printed by program from annotations. -/
import Derived.Test.YtmfinopdokkjcaaTqD
namespace Go.Proofs.Ytmfinopdokkjcaa
open Go Go.AW Go.RowKit
set_option linter.unusedVariables false
set_option linter.unusedSimpArgs false

/-! ### Marks in a column -/
def MkS (a b : Int) (l : List Int) (x : Nat) (kn lk : Nat → Nat) (V : Nat → Prop) (K i : Nat) (sl : List Bool) : Prop := sl.length = nB b ∧ ∀ r, r < nB b → (sl.getD r false = true ↔ Mk a b l x V K r ∨ Mi kn lk K i r)
section
variable {a b : Int} {l : List Int} {x : Nat} {kn lk : Nat → Nat} {V : Nat → Prop} {K i : Nat} {sl : List Bool}
theorem MkS.zero (hl : sl.length = nB b) (h : ∀ r, r < nB b → (sl.getD r false = true ↔ ¬ V r)) : MkS a b l x kn lk V 0 0 sl := by
  refine ⟨hl, fun r hr => ?_⟩
  rw [h r hr]
  constructor
  · exact fun h => .inl (.inl h)
  · rintro ((h | ⟨k, hk, _⟩) | ⟨j, hj, _⟩)
    · exact h
    · omega
    · omega
theorem MkS.all (hn : ∀ r, r < nB b → V r) : MkS a b l x kn lk V 0 0 (List.replicate (nB b) false) := by
  refine MkS.zero (by simp) fun r hr => ?_
  constructor
  · intro h
    simp [List.getD, hr] at h
  · exact fun h => absurd (hn r hr) h
theorem MkS.skip (h : MkS a b l x kn lk V K 0 sl) (hK : K < nB b) (hm : sl.getD K false = true) : MkS a b l x kn lk V (K + 1) 0 sl ∧ nP (fun r => ¬ Mk a b l x V r r) (K + 1) = nP (fun r => ¬ Mk a b l x V r r) K := by
  have hk := ((h.2 K hK).1 hm).resolve_right fun ⟨j, hj, _⟩ => by omega
  refine ⟨⟨h.1, fun r hr => ?_⟩, nP_no fun hh => hh hk⟩
  rw [h.2 r hr]
  constructor
  · rintro (h1 | ⟨j, hj, _⟩)
    · exact .inl ((mark_keep hk).2 h1)
    · omega
  · rintro (h1 | ⟨j, hj, _⟩)
    · exact .inl ((mark_keep hk).1 h1)
    · omega
theorem MkS.first (h : MkS a b l x kn lk V K 0 sl) (hK : K < nB b) (hm : sl.getD K false = false) : ¬ Mk a b l x V K K ∧ nP (fun r => ¬ Mk a b l x V r r) (K + 1) = nP (fun r => ¬ Mk a b l x V r r) K + 1 := by
  have hk : ¬ Mk a b l x V K K := fun hh => by
    rw [(h.2 K hK).2 (.inl hh)] at hm
    cases hm
  exact ⟨hk, nP_yes hk⟩
theorem MkS.at (h : MkS a b l x kn lk V K i sl) (hL : Loc a b l x kn lk V) (hk : ¬ Mk a b l x V K K) {p : Nat} (hp : 1 ≤ p) (e : gS kn lk K p = K) (hm : ∀ i, 1 ≤ i → i < p → gS kn lk K i ≠ K) (hi : i ≤ p) : sl.getD (gS kn lk K i) false = true ↔ i = p := by
  have hV : V K := Classical.not_not.1 fun hn => hk (.inl hn)
  rw [h.2 _ (hL.lt _ (hL.gV hV i))]
  exact hL.mark_at hk hp e hm hi
theorem MkS.step (h : MkS a b l x kn lk V K i sl) (hL : Loc a b l x kn lk V) (hk : ¬ Mk a b l x V K K) : MkS a b l x kn lk V K (i + 1) ((sl.set (gS kn lk K i) true).set (kn (gS kn lk K i)) true) := by
  have hV : V K := Classical.not_not.1 fun hn => hk (.inl hn)
  obtain ⟨g1, g2⟩ := set_two h.1 (hL.lt _ (hL.gV hV i)) (hL.lt _ (hL.vk _ (hL.gV hV i)))
  refine ⟨g1, fun r hr => ?_⟩
  rw [g2, h.2 r hr, Mi_succ]
  constructor
  · rintro ((h | h) | h)
    · exact .inl h
    · exact .inr (.inl h)
    · exact .inr (.inr h)
  · rintro (h | h | h)
    · exact .inl (.inl h)
    · exact .inl (.inr h)
    · exact .inr h
theorem MkS.done {p : Nat} (h : MkS a b l x kn lk V K p sl) (hL : Loc a b l x kn lk V) (hk : ¬ Mk a b l x V K K) (hp : 1 ≤ p) (e : gS kn lk K p = K) : MkS a b l x kn lk V (K + 1) 0 sl := by
  refine ⟨h.1, fun r hr => ?_⟩
  rw [h.2 r hr, hL.mark_end hk hp e hr]
  exact ⟨.inl, fun h => h.resolve_right fun ⟨j, hj, _⟩ => by omega⟩
end
theorem gN_cast {l : List Int} {k : Nat} (h : 0 ≤ l.getD k 0) : ((gN l k : Nat) : Int) = l.getD k 0 := by unfold gN; omega

set_option maxRecDepth 4000 in
/-- impl.neighbours -/
theorem f_i_neighbours (w : World) (N : Nat) (hN : N ≤ 16) : Ret Try.prog 159 [.int .i64 N] w (fun u L => L = [.row 2 1 u N (ints (nbL N))]) := by
  refine Ret.enter Try.func159 rfl Try.ntmps159 rfl ?_
  refine Run.seq ?_
  refine Run.region ?_
  refine Ops.pure rfl (Pure.assign rfl) ?_
  refine Ops.nil ?_
  refine Run.seq ?_
  refine Run.region ?_
  refine Ops.go rfl (Loud.lit sl32 rfl rfl rfl (by simp [Value.oneCell'])) ?_
  rintro v5 _ rfl
  refine Ops.pure rfl (Pure.assign rfl) ?_
  refine Ops.nil ?_
  refine Run.seq ?_
  refine Run.seq ?_
  refine Run.region ?_
  refine Ops.pure rfl (Pure.move rfl) ?_
  refine Ops.pure rfl (Pure.move rfl) ?_
  refine Ops.nil ?_
  refine Run.block ?_
  refine Run.loop2 (X := Nat) (Y := Value) (fun k vo => [(3, vo), (6, .int .i64 N), (7, .int .i64 k)]) (fun k vo => [.row 2 1 vo k (ints (nbL k))]) (fun k vo => k ≤ N) (fun k vo => N - k) 0 v5 ?_ ?_ ?_ ?_
  · exact Nat.zero_le _
  · exact ⟨rfl, rfl, rfl, trivial⟩
  · exact Ext.refl _
  · intro k vo hinv0
    refine Run.seq ?_
    refine Run.region ?_
    refine Ops.pure rfl (Pure.lss rfl rfl) ?_
    refine Ops.nil ?_
    refine Run.seq ?_
    refine Run.cond rfl (fun c8 => ?_) (fun c8 => ?_)
    · skip
      replace c8 := dT c8
      refine Run.skip ?_
      refine Run.seq ?_
      refine Run.block ?_
      refine Run.seq ?_
      refine Run.region ?_
      refine Ops.pure rfl (Pure.move rfl) ?_
      refine Ops.pure rfl (Pure.assign rfl) ?_
      refine Ops.nil ?_
      refine Run.region ?_
      refine Ops.pure rfl (Pure.move rfl) ?_
      refine Ops.pure rfl (Pure.move rfl) ?_
      refine Ops.pure rfl (Pure.xor1 rfl rfl (by omega)) ?_
      refine Ops.go rfl (Loud.lit sl32 rfl rfl rfl (by simp [Value.oneCell'])) ?_
      rintro v13 _ rfl
      refine Ops.go rfl (Loud.append 1 rfl sl32 rfl rfl (RdL.own 0 rfl) (by simp [Value.oneCell']) (by omega) (by omega)) ?_
      rintro v14 _ rfl
      refine Ops.pure rfl (Pure.assign rfl) ?_
      refine Ops.nil ?_
      refine Run.blk ?_
      refine Run.region ?_
      refine Ops.pure rfl (Pure.add rfl rfl (by omega) (by omega)) ?_
      refine Ops.pure rfl (Pure.move rfl) ?_
      refine Ops.nil ?_
      refine Run.asrt ?_
      refine ⟨k + 1, v14, ⟨by omega, by omega⟩, ⟨rfl, rfl, rfl, trivial⟩, ?_⟩
      rw [nbL_succ, ints_snoc]
      exact Ext.right [_] _
    · skip
      replace c8 := dF c8
      refine Run.exit rfl ?_
      refine Run.seq ?_
      refine Run.region ?_
      refine Ops.pure rfl (Pure.move rfl) ?_
      refine Ops.pure rfl (Pure.assign rfl) ?_
      refine Ops.nil ?_
      have e : k = N := by omega
      subst e
      refine Run.ret1 rfl rfl ?_
      rfl

set_option maxRecDepth 4000 in
/-- impl.loops -/
theorem f_i_loops (w : World) (va : Value) (vb : Value) (kl : List Int) (ll : List Int) (a : Int) (b : Int) (l : List Int) (x : Nat) (hva : Rd w va 1 (nB b) (ints kl)) (hvb : Rd w vb 1 (nB b) (ints ll)) (hL : Loc a b l x (gN kl) (gN ll) (fun r => r < nB b)) (hkl : ∀ r, r < nB b → 0 ≤ kl.getD r 0) (hll : ∀ r, r < nB b → 0 ≤ ll.getD r 0) (hlk : kl.length = nB b) (hlq : ll.length = nB b) (hnb : nB b ≤ 16) : RetV Try.prog 158 [va, vb] w (.int .i64 ((nP (fun r => ¬ Mk a b l x (fun r => r < nB b) r r) (nB b) : Nat) : Int)) := by
  have hik : (ints kl).length = nB b := by rw [ints, List.length_map]; exact hlk
  have hil : (ints ll).length = nB b := by rw [ints, List.length_map]; exact hlq
  refine Ret.enter Try.func158 rfl Try.ntmps158 rfl ?_
  refine Run.seq ?_
  refine Run.region ?_
  refine Ops.pure rfl (Pure.assign rfl) ?_
  refine Ops.nil ?_
  refine Run.seq ?_
  refine Run.region ?_
  refine Ops.pure rfl (Pure.move rfl) ?_
  refine Ops.pure rfl (Pure.len sl32 (RdL.old hva) rfl) ?_
  refine Ops.go rfl (Loud.make sl113 rfl rfl (by omega) (by omega)) ?_
  rintro v11 _ rfl
  refine Ops.pure rfl (Pure.assign rfl) ?_
  refine Ops.pure rfl (Pure.assign rfl) ?_
  refine Ops.nil ?_
  refine Run.seq ?_
  refine Run.seq ?_
  refine Run.region ?_
  refine Ops.pure rfl (Pure.move rfl) ?_
  refine Ops.pure rfl (Pure.len sl32 (RdL.old hva) rfl) ?_
  refine Ops.pure rfl (Pure.move rfl) ?_
  refine Ops.nil ?_
  refine Run.block ?_
  refine Run.loop2 (X := Nat) (Y := List Bool) (fun k sl => [(0, va), (1, vb), (5, v11), (6, .int .i64 ((nP (fun r => ¬ Mk a b l x (fun r => r < nB b) r r) k : Nat) : Int)), (13, .int .i64 (nB b)), (14, .int .i64 k)]) (fun k sl => [.row 4 1 v11 (nB b) (bools sl)]) (fun k sl => k ≤ nB b ∧ MkS a b l x (gN kl) (gN ll) (fun r => r < nB b) k 0 sl) (fun k sl => nB b - k) 0 (List.replicate (nB b) false) ?_ ?_ ?_ ?_
  · exact ⟨Nat.zero_le _, MkS.all (fun r h => h)⟩
  · exact ⟨rfl, rfl, rfl, rfl, rfl, rfl, trivial⟩
  · exact Ext.eq (by rw [made_one _ rfl, bools, List.map_replicate])
  · intro k sl hinv0
    obtain ⟨hk1, hmk⟩ := hinv0
    have hsl1 := hmk.1
    have hsl2 : (bools sl).length = nB b := by rw [bools, List.length_map]; exact hmk.1
    have hnp := nP_le (fun r => ¬ Mk a b l x (fun r => r < nB b) r r) k
    refine Run.seq ?_
    refine Run.region ?_
    refine Ops.pure rfl (Pure.lss rfl rfl) ?_
    refine Ops.nil ?_
    refine Run.seq ?_
    refine Run.cond rfl (fun c15 => ?_) (fun c15 => ?_)
    · skip
      replace c15 := dT c15
      refine Run.skip ?_
      refine Run.seq ?_
      refine Run.block ?_
      refine Run.seq ?_
      refine Run.region ?_
      refine Ops.pure rfl (Pure.move rfl) ?_
      refine Ops.pure rfl (Pure.assign rfl) ?_
      refine Ops.nil ?_
      refine Run.seq ?_
      refine Run.seq ?_
      refine Run.region ?_
      refine Ops.pure rfl (Pure.move rfl) ?_
      refine Ops.pure rfl (Pure.move rfl) ?_
      refine Ops.pure rfl (Pure.idx1N sl113 (RdL.own 0 rfl) rfl rfl (by first | assumption | omega | (simp; omega))) ?_
      refine Ops.pure rfl (Pure.ld cell4 rfl (RdL.own 0 rfl) (by first | exact ints_get (by omega) | exact bools_get (by omega) | exact strs_get (by omega) | exact vals_get (by first | omega | (simp; omega)))) ?_
      refine Ops.nil ?_
      refine Run.cond rfl (fun c20 => ?_) (fun c20 => ?_)
      · skip
        skip
        refine Run.exit rfl ?_
        refine Run.region ?_
        refine Ops.pure rfl (Pure.add rfl rfl (by omega) (by omega)) ?_
        refine Ops.pure rfl (Pure.move rfl) ?_
        refine Ops.nil ?_
        refine Run.asrt ?_
        first
          | exact ⟨k + 1, sl, ⟨⟨by omega, (hmk.skip (by omega) c20).1⟩, by omega⟩, ⟨rfl, rfl, rfl, by rw [(hmk.skip (by omega) c20).2]; rfl, rfl, rfl, trivial⟩, Ext.refl _⟩
          | (refine ⟨k + 1, s1, ⟨⟨by omega, hdone⟩, by omega⟩, ⟨rfl, rfl, rfl, ?_, rfl, rfl, trivial⟩, Ext.refl _⟩
             rw [hfirst.2]
             rfl)
      · skip
        skip
        refine Run.skip ?_
        refine Run.seq ?_
        have hfirst := hmk.first (by omega) c20
        have hVk : k < nB b := by omega
        obtain ⟨p, hp1, hp2, hp3⟩ := hL.period hVk
        refine Run.region ?_
        refine Ops.pure rfl (Pure.move rfl) ?_
        refine Ops.pure rfl (Pure.add rfl rfl (by omega) (by omega)) ?_
        refine Ops.pure rfl (Pure.assign rfl) ?_
        refine Ops.nil ?_
        refine Run.seq ?_
        refine Run.region ?_
        refine Ops.pure rfl (Pure.move rfl) ?_
        refine Ops.pure rfl (Pure.assign rfl) ?_
        refine Ops.nil ?_
        refine Run.block ?_
        refine Run.loop2 (X := Nat) (Y := List Bool) (fun i s1 => [(0, va), (1, vb), (5, v11), (6, .int .i64 (((nP (fun r => ¬ Mk a b l x (fun r => r < nB b) r r) k : Nat) : Int) + 1)), (8, .int .i64 (gS (gN kl) (gN ll) k i)), (13, .int .i64 (nB b)), (14, .int .i64 k)]) (fun i s1 => [.row 4 1 v11 (nB b) (bools s1)]) (fun i s1 => i ≤ p ∧ MkS a b l x (gN kl) (gN ll) (fun r => r < nB b) k i s1) (fun i s1 => p - i) 0 sl ?_ ?_ ?_ ?_
        · exact ⟨Nat.zero_le _, hmk⟩
        · exact ⟨rfl, rfl, rfl, rfl, rfl, rfl, rfl, trivial⟩
        · exact Ext.refl _
        · intro i s1 hinv1
          obtain ⟨hi1, hmi⟩ := hinv1
          have hs1 := hmi.1
          have hs2 : (bools s1).length = nB b := by rw [bools, List.length_map]; exact hmi.1
          have hgv := hL.gV hVk i
          have hg1 := hL.lt _ hgv
          have hg2 := hL.lt _ (hL.vk _ hgv)
          have hat := hmi.at hL hfirst.1 hp1 hp2 hp3 hi1
          have hk0 := hkl _ hg1
          have hgk : kl.getD (gS (gN kl) (gN ll) k i) 0 = ((gN kl (gS (gN kl) (gN ll) k i) : Nat) : Int) := (gN_cast hk0).symm
          have hl0 := hll _ hg2
          have hgl : ll.getD (gN kl (gS (gN kl) (gN ll) k i)) 0 = ((gS (gN kl) (gN ll) k (i + 1) : Nat) : Int) := (gN_cast hl0).symm
          have hgn : (kl.getD (gS (gN kl) (gN ll) k i) 0).toNat = gN kl (gS (gN kl) (gN ll) k i) := rfl
          refine Run.seq ?_
          refine Run.seq ?_
          refine Run.region ?_
          refine Ops.pure rfl (Pure.move rfl) ?_
          refine Ops.pure rfl (Pure.move rfl) ?_
          refine Ops.pure rfl (Pure.idx1N sl113 (RdL.own 0 rfl) rfl rfl (by first | assumption | omega | (simp; omega))) ?_
          refine Ops.pure rfl (Pure.ld cell4 rfl (RdL.own 0 rfl) (by first | exact ints_get (by omega) | exact bools_get (by omega) | exact strs_get (by omega) | exact vals_get (by first | omega | (simp; omega)))) ?_
          refine Ops.pure rfl (Pure.not rfl) ?_
          refine Ops.nil ?_
          refine Run.cond rfl (fun c28 => ?_) (fun c28 => ?_)
          · skip
            replace c28 := bT c28
            have hlt : i < p := by
              rcases Nat.lt_or_ge i p with h | h
              · exact h
              · have h2 := hat.2 (by omega)
                rw [c28] at h2
                cases h2
            refine Run.skip ?_
            refine Run.seq ?_
            refine Run.block ?_
            refine Run.region ?_
            refine Ops.pure rfl (Pure.move rfl) ?_
            refine Ops.pure rfl (Pure.move rfl) ?_
            refine Ops.pure rfl (Pure.move rfl) ?_
            refine Ops.pure rfl (Pure.move rfl) ?_
            refine Ops.pure rfl (Pure.move rfl) ?_
            refine Ops.pure rfl (Pure.idx1N sl32 (RdL.old hva) rfl rfl (by first | assumption | omega | (simp; omega))) ?_
            refine Ops.pure rfl (Pure.ld cell2 rfl (RdL.old hva) (by first | exact ints_get (by omega) | exact bools_get (by omega) | exact strs_get (by omega) | exact vals_get (by first | omega | (simp; omega)))) ?_
            refine Ops.pure rfl (Pure.idx1N sl113 (RdL.own 0 rfl) rfl rfl (by first | assumption | omega | (simp; omega))) ?_
            refine Ops.store (Stores.row1 0 rfl size4 rfl rfl rfl (by first | assumption | omega | (simp; omega))) ?_
            refine Ops.pure rfl (Pure.idx1 sl113 (RdL.own 0 rfl) rfl rfl (by first | assumption | omega | (simp; omega)) (by first | assumption | omega | (simp; omega))) ?_
            refine Ops.store (Stores.row1 0 rfl size4 rfl rfl rfl (by rw [List.length_set]; omega)) ?_
            refine Ops.nil ?_
            refine Run.blk ?_
            refine Run.region ?_
            refine Ops.pure rfl (Pure.move rfl) ?_
            refine Ops.pure rfl (Pure.move rfl) ?_
            refine Ops.pure rfl (Pure.move rfl) ?_
            refine Ops.pure rfl (Pure.idx1N sl32 (RdL.old hva) rfl rfl (by first | assumption | omega | (simp; omega))) ?_
            refine Ops.pure rfl (Pure.ld cell2 rfl (RdL.old hva) (by first | exact ints_get (by omega) | exact bools_get (by omega) | exact strs_get (by omega) | exact vals_get (by first | omega | (simp; omega)))) ?_
            refine Ops.pure rfl (Pure.idx1 sl32 (RdL.old hvb) rfl rfl (by first | assumption | omega | (simp; omega)) (by first | assumption | omega | (simp; omega))) ?_
            refine Ops.pure rfl (Pure.ld cell2 rfl (RdL.old hvb) (by first | exact ints_get (by omega) | exact bools_get (by omega) | exact strs_get (by omega) | exact vals_get (by first | omega | (simp; omega)))) ?_
            refine Ops.pure rfl (Pure.assign rfl) ?_
            refine Ops.nil ?_
            refine Run.asrt ?_
            refine ⟨i + 1, _, ⟨⟨by omega, hmi.step hL hfirst.1⟩, by omega⟩, ⟨rfl, rfl, rfl, rfl, congrArg (fun z => some (Value.int .i64 z)) hgl, rfl, rfl, trivial⟩, Ext.eq (by rw [bools, List.map_set, List.map_set]; rfl)⟩
          · skip
            replace c28 := bF c28
            have hie := hat.1 c28
            subst hie
            have hdone := hmi.done hL hfirst.1 hp1 hp2
            refine Run.exit rfl ?_
            refine Run.blk ?_
            refine Run.region ?_
            refine Ops.pure rfl (Pure.add rfl rfl (by omega) (by omega)) ?_
            refine Ops.pure rfl (Pure.move rfl) ?_
            refine Ops.nil ?_
            refine Run.asrt ?_
            first
              | exact ⟨k + 1, sl, ⟨⟨by omega, (hmk.skip (by omega) c20).1⟩, by omega⟩, ⟨rfl, rfl, rfl, by rw [(hmk.skip (by omega) c20).2]; rfl, rfl, rfl, trivial⟩, Ext.refl _⟩
              | (refine ⟨k + 1, s1, ⟨⟨by omega, hdone⟩, by omega⟩, ⟨rfl, rfl, rfl, ?_, rfl, rfl, trivial⟩, Ext.refl _⟩
                 rw [hfirst.2]
                 rfl)
    · skip
      replace c15 := dF c15
      refine Run.exit rfl ?_
      refine Run.seq ?_
      refine Run.region ?_
      refine Ops.pure rfl (Pure.move rfl) ?_
      refine Ops.pure rfl (Pure.assign rfl) ?_
      refine Ops.nil ?_
      have e : k = nB b := by omega
      subst e
      refine Run.ret1 rfl rfl ?_
      rfl

/-- the height at which a walker comes to the points with X = x + 1 -/
def yN (b : Int) (x u : Nat) : Int := (InW b x u).2.1 + (InW b x u).2.2.2
theorem InW_next {a b : Int} (hs : SizeOk a b) {x u : Nat} (hx : (x : Int) + 1 < 2 * a) (hu : u < 2 * nB b) : VW a b (InW b x u) ∧ sg b (InW b x u) = (x * nB b + u : Nat) ∧ (InW b x u).1 + (InW b x u).2.2.1 = (x : Int) + 1 ∧ PtOk a b ((x : Int) + 1) (yN b x u) := by
  obtain ⟨h1, h2⟩ := InW_VW hs hx hu
  have h3 : (InW b x u).1 + (InW b x u).2.2.1 = (x : Int) + 1 := by
    obtain ⟨g1, g2⟩ := RW_x hs.2.2.1 (x * nB b + u)
    rcases Nat.lt_or_ge u (nB b) with h | h
    · rw [InW_lo h, g1, g2, col_eq h]
    · rw [InW_hi h]
      have e : (bk (RW b (x * nB b + u))).1 + (bk (RW b (x * nB b + u))).2.2.1 = (RW b (x * nB b + u)).1 := by
        show (RW b (x * nB b + u)).1 + (RW b (x * nB b + u)).2.2.1 + -(RW b (x * nB b + u)).2.2.1 = _
        omega
      rw [e, g1, col_eq2 h hu]
      omega
  refine ⟨h1, h2, h3, ?_⟩
  have h4 := h1.2.2.2
  rw [h3] at h4
  exact h4
/-- the place of a segment among those at the points with X = x + 1 -/
def cP (b : Int) (x : Nat) (s : Int) : Nat := s.toNat - x * nB b
theorem cP_num {b : Int} (hb : 1 ≤ b) {x : Nat} {s : Int} (h1 : ((x * nB b : Nat) : Int) ≤ s) (h2 : s < ((x * nB b + 2 * nB b : Nat) : Int)) : (if s / (nB b : Nat) < (x : Int) + 1 then s % (nB b : Nat) else (nB b : Nat) + s % (nB b : Nat)) = ((cP b x s : Nat) : Int) := by
  have hn := nB_eq hb
  obtain ⟨t, rfl⟩ := Int.eq_ofNat_of_zero_le (show 0 ≤ s by omega)
  have e0 : cP b x ((t : Nat) : Int) = t - x * nB b := rfl
  rw [e0, ← Int.natCast_ediv, ← Int.natCast_emod]
  have h3 := row_of (nB b) t (by omega)
  rcases Nat.lt_or_ge (t - x * nB b) (nB b) with h | h
  · have e : t / nB b = x := by
      have := col_eq (x := x) h
      rwa [show x * nB b + (t - x * nB b) = t by omega] at this
    rw [e] at h3 ⊢
    rw [if_pos (by omega)]
    omega
  · have e : t / nB b = x + 1 := by
      have := col_eq2 (x := x) h (by omega)
      rwa [show x * nB b + (t - x * nB b) = t by omega] at this
    rw [e] at h3 ⊢
    rw [Nat.add_mul, Nat.one_mul] at h3
    rw [if_neg (by omega)]
    omega
def LI (a b : Int) (l : List Int) (x y : Nat) (ll : List Int) : Prop := ll.length = 2 * nB b ∧ ∀ u, u < 2 * nB b → yN b x u < y → Lnk a b l x ll u
def LJ (a b : Int) (l : List Int) (x y : Nat) (pl : List (Int × Int)) (j : Nat) (lj : List Int) : Prop := lj.length = 2 * nB b ∧ (∀ u, u < 2 * nB b → yN b x u < y → Lnk a b l x lj u) ∧ ∀ q, q < j → Lnk a b l x lj (cP b x (pl.getD q (0, 0)).1) ∧ Lnk a b l x lj (cP b x (pl.getD q (0, 0)).2)
section
variable {a b : Int} {l : List Int} {x y : Nat}
theorem LI.zero (hs : SizeOk a b) (hx : (x : Int) + 1 < 2 * a) : LI a b l x (x % 2) (List.replicate (2 * nB b) 0) := by
  refine ⟨by simp, fun u hu hy => ?_⟩
  have h := (InW_next hs hx hu).2.2.2
  unfold PtOk at h
  omega
theorem LI.start {ll : List Int} (h : LI a b l x y ll) (pl : List (Int × Int)) : LJ a b l x y pl 0 ll := ⟨h.1, h.2, fun q hq => by omega⟩
theorem Lnk_set {lj : List Int} (hl : lj.length = 2 * nB b) {u v : Nat} (hu : u < 2 * nB b) (hv : v < 2 * nB b) (e1 : stp a b l (InW b x u) = bk (InW b x v)) (e2 : stp a b l (InW b x v) = bk (InW b x u)) :
    ((lj.set u (v : Nat)).set v (u : Nat)).length = 2 * nB b ∧ Lnk a b l x ((lj.set u (v : Nat)).set v (u : Nat)) u ∧ Lnk a b l x ((lj.set u (v : Nat)).set v (u : Nat)) v ∧ ∀ w, Lnk a b l x lj w → Lnk a b l x ((lj.set u (v : Nat)).set v (u : Nat)) w := by
  have hg : ∀ k, ((lj.set u (v : Nat)).set v (u : Nat)).getD k 0 = if v = k then ((u : Nat) : Int) else if u = k then ((v : Nat) : Int) else lj.getD k 0 := fun k => by
    rw [getD_setI (by rw [List.length_set]; omega), getD_setI (by omega)]
  have hN : ∀ k, gN ((lj.set u (v : Nat)).set v (u : Nat)) k = if v = k then u else if u = k then v else gN lj k := fun k => by
    unfold gN
    rw [hg]
    split
    · rfl
    · split <;> rfl
  have hL : ∀ k, (v = k ∨ u = k ∨ Lnk a b l x lj k) → Lnk a b l x ((lj.set u (v : Nat)).set v (u : Nat)) k := fun k hk => by
    unfold Lnk
    rw [hg, hN]
    by_cases h1 : v = k
    · subst h1
      rw [if_pos rfl, if_pos rfl]
      exact ⟨by omega, hu, e2⟩
    · by_cases h2 : u = k
      · subst h2
        rw [if_neg h1, if_pos rfl, if_neg h1, if_pos rfl]
        exact ⟨by omega, hv, e1⟩
      · rw [if_neg h1, if_neg h2, if_neg h1, if_neg h2]
        exact (hk.resolve_left h1).resolve_left h2
  exact ⟨by rw [List.length_set, List.length_set]; exact hl, hL u (.inr (.inl rfl)), hL v (.inl rfl), fun w hw => hL w (.inr (.inr hw))⟩
theorem LJ.step {pl : List (Int × Int)} {j : Nat} {lj : List Int} (h : LJ a b l x y pl j lj) (h1 : cP b x (pl.getD j (0, 0)).1 < 2 * nB b) (h2 : cP b x (pl.getD j (0, 0)).2 < 2 * nB b)
    (e1 : stp a b l (InW b x (cP b x (pl.getD j (0, 0)).1)) = bk (InW b x (cP b x (pl.getD j (0, 0)).2))) (e2 : stp a b l (InW b x (cP b x (pl.getD j (0, 0)).2)) = bk (InW b x (cP b x (pl.getD j (0, 0)).1))) :
    LJ a b l x y pl (j + 1) ((lj.set (cP b x (pl.getD j (0, 0)).1) ((cP b x (pl.getD j (0, 0)).2 : Nat) : Int)).set (cP b x (pl.getD j (0, 0)).2) ((cP b x (pl.getD j (0, 0)).1 : Nat) : Int)) := by
  obtain ⟨g1, g2, g3, g4⟩ := Lnk_set h.1 h1 h2 e1 e2
  refine ⟨g1, fun u hu hy => g4 u (h.2.1 u hu hy), fun q hq => ?_⟩
  rcases Nat.lt_or_ge q j with hh | hh
  · exact ⟨g4 _ (h.2.2 q hh).1, g4 _ (h.2.2 q hh).2⟩
  · rw [show q = j by omega]
    exact ⟨g2, g3⟩
theorem LJ.done {lj : List Int} (hs : SizeOk a b) (hx : (x : Int) + 1 < 2 * a) (hy : y % 2 = x % 2) (h : LJ a b l x y (prs a b l ((x : Int) + 1) y) (prs a b l ((x : Int) + 1) y).length lj) : LI a b l x (y + 2) lj := by
  refine ⟨h.1, fun u hu hyu => ?_⟩
  obtain ⟨n1, n2, n3, n4⟩ := InW_next hs hx hu
  rcases Int.lt_or_le (yN b x u) y with hh | hh
  · exact h.2.1 u hu hh
  · have e : yN b x u = y := by
      unfold PtOk at n4
      omega
    obtain ⟨p, hp, ho⟩ := prs_all hs l n1 n3 e
    obtain ⟨q, hq, hqe⟩ := List.getElem_of_mem hp
    have hq2 : (prs a b l ((x : Int) + 1) y).getD q (0, 0) = p := by simp [List.getD, hq, hqe]
    have h3 := h.2.2 q hq
    rw [hq2] at h3
    rcases ho with ⟨o1, _⟩ | ⟨o1, _⟩
    · have : cP b x p.1 = u := by unfold cP; omega
      rw [this] at h3
      exact h3.1
    · have : cP b x p.2 = u := by unfold cP; omega
      rw [this] at h3
      exact h3.2
theorem LI.full {ll : List Int} (hs : SizeOk a b) (hx : (x : Int) + 1 < 2 * a) (h : LI a b l x y ll) (hy : nB b < y) : LK a b l x ll := by
  have hn := nB_eq hs.2.2.1
  refine ⟨h.1, fun u hu => h.2 u hu ?_⟩
  have h4 := (InW_next hs hx hu).2.2.2
  unfold PtOk at h4
  omega
def IO (a b : Int) (l : List Int) (x K : Nat) (ol : List Int) : Prop := ol.length = nB b ∧ ∀ j, j < K → 0 ≤ ol.getD j 0 ∧ OutAt a b l x j (gN ol j)
theorem IO.step {K o : Nat} {ol : List Int} (h : IO a b l x K ol) (hK : K < nB b) (ho : OutAt a b l x K o) : IO a b l x (K + 1) (ol.set K ((o : Nat) : Int)) := by
  have hl := h.1
  refine ⟨by rw [List.length_set]; exact h.1, fun j hj => ?_⟩
  have hg : (ol.set K ((o : Nat) : Int)).getD j 0 = if K = j then ((o : Nat) : Int) else ol.getD j 0 := getD_setI (by omega)
  unfold gN
  rw [hg]
  by_cases e : K = j
  · subst e
    rw [if_pos rfl, Int.toNat_natCast]
    exact ⟨by omega, ho⟩
  · rw [if_neg e]
    exact h.2 j (by omega)
end

set_option maxRecDepth 4000 in
/-- (impl.Panel).passColumn 1 -/
theorem f_i_Panel_passColumn_1 (w : World) (s : Int) (n : Nat) (x : Int) (pn : Nat) (px : Nat) (pl : Nat) (hpn : Rd w (boxS pn) 1 1 [.int .i64 n]) (hpx : Rd w (boxS px) 1 1 [.int .i64 x]) (hpl : Rd w (boxS pl) 1 1 [.bool true]) (h0 : 0 ≤ s) (h1 : s ≤ 100000) (hn1 : 1 ≤ n) (hn2 : n ≤ 16) : RetV Try.prog 242 [.int .i64 s, .pointer (some ⟨pn, 0, none⟩), .pointer (some ⟨px, 0, none⟩), .pointer (some ⟨pl, 0, none⟩)] w (.int .i64 (if s / n < x then s % n else n + s % n)) := by
  have hm1 := Int.emod_nonneg s (show ((n : Nat) : Int) ≠ 0 by omega)
  have hm2 := Int.emod_lt_of_pos s (show 0 < ((n : Nat) : Int) by omega)
  refine Ret.enter Try.func242 rfl Try.ntmps242 rfl ?_
  refine Run.seq ?_
  refine Run.region ?_
  refine Ops.pure rfl (Pure.assign rfl) ?_
  refine Ops.nil ?_
  refine Run.seq ?_
  refine Any.start follows ?_
  refine Any.take 0 rfl (by kernel_rfl) rfl (QOp.pure (Pure.move rfl)) ?_
  refine Any.take 1 rfl (by kernel_rfl) rfl (QOp.pure (Pure.ldP cell2 rfl (RdL.old hpn) rfl)) ?_
  refine Any.take 2 rfl (by kernel_rfl) rfl (QOp.pure (Pure.quo rfl rfl (by omega) (by omega) (by omega))) ?_
  refine Any.take 3 rfl (by kernel_rfl) rfl (QOp.pure (Pure.move rfl)) ?_
  refine Any.take 4 rfl (by kernel_rfl) rfl (QOp.pure (Pure.ldP cell2 rfl (RdL.old hpn) rfl)) ?_
  refine Any.take 5 rfl (by kernel_rfl) rfl (QOp.pure (Pure.rem rfl rfl (by omega) (by omega))) ?_
  refine Any.take 6 rfl (by kernel_rfl) rfl (QOp.pure (Pure.assign rfl)) ?_
  refine Any.take 7 rfl (by kernel_rfl) rfl (QOp.pure (Pure.assign rfl)) ?_
  refine Any.done (by kernel_rfl) ?_
  refine Run.seq ?_
  refine Run.seq ?_
  refine Run.region ?_
  refine Ops.pure rfl (Pure.move rfl) ?_
  refine Ops.pure rfl (Pure.ldP cell2 rfl (RdL.old hpx) rfl) ?_
  refine Ops.pure rfl (Pure.lss rfl rfl) ?_
  refine Ops.pure rfl (Pure.ldP cell4 rfl (RdL.old hpl) rfl) ?_
  refine Ops.pure rfl (Pure.eqlB und4 rfl rfl) ?_
  refine Ops.nil ?_
  refine Run.cond rfl (fun c18 => ?_) (fun c18 => ?_)
  · skip
    replace c18 := dT c18
    refine Run.seq ?_
    refine Run.region ?_
    refine Ops.pure rfl (Pure.move rfl) ?_
    refine Ops.pure rfl (Pure.assign rfl) ?_
    refine Ops.nil ?_
    refine Run.ret1 rfl rfl ?_
    rw [if_pos (by simpa using c18)]
  · skip
    replace c18 := dF c18
    refine Run.skip ?_
    refine Run.seq ?_
    refine Run.region ?_
    refine Ops.pure rfl (Pure.ldP cell2 rfl (RdL.old hpn) rfl) ?_
    refine Ops.pure rfl (Pure.move rfl) ?_
    refine Ops.pure rfl (Pure.add rfl rfl (by omega) (by omega)) ?_
    refine Ops.pure rfl (Pure.assign rfl) ?_
    refine Ops.nil ?_
    refine Run.ret1 rfl rfl ?_
    rw [if_neg (by simpa using c18)]

set_option maxRecDepth 4000 in
set_option maxHeartbeats 1000000 in
/-- (impl.Panel).passColumn -/
theorem f_i_Panel_passColumn (w : World) (a : Int) (b : Int) (v : Value) (l : List Int) (vk : Value) (kl : List Int) (X : Nat) (hv : Rd w v 1 l.length (ints l)) (hk : okP a b l = true) (hvk : Rd w vk 1 (nB b) (ints kl)) (hKN : KN a b l X kl) (hX : (X : Int) + 1 < 2 * a) : Ret Try.prog 225 [.agg #[.int .i64 a, .int .i64 b, v], .int .i64 ((X : Int) + 1), vk, .bool true] w (fun u L => ∃ x ol, u = .tuple #[x, .int .i64 ((nP (fun r => CP a b l (X * nB b + r)) (nB b) : Nat) : Int)] ∧ KN a b l (X + 1) ol ∧ L = [.row 2 1 x (nB b) (ints ol)]) := by
  have hs := okP_size hk
  obtain ⟨hs1, hs2, hs3, hs4⟩ := id hs
  have hnB := nB_eq hs3
  have hli := okP_inn hk
  have hkll := hKN.1
  have hik : (ints kl).length = nB b := by rw [ints, List.length_map]; exact hKN.1
  refine Ret.enter Try.func225 rfl Try.ntmps225 rfl ?_
  refine Run.seq ?_
  refine Run.region ?_
  refine Ops.go rfl (Loud.box rfl rfl) ?_
  rintro _ _ ⟨b4, rfl, rfl⟩
  refine Ops.go rfl (Loud.box rfl rfl) ?_
  rintro _ _ ⟨b5, rfl, rfl⟩
  refine Ops.go rfl (Loud.box rfl rfl) ?_
  rintro _ _ ⟨b7, rfl, rfl⟩
  refine Ops.pure rfl (Pure.assign rfl) ?_
  refine Ops.pure rfl (Pure.assign rfl) ?_
  refine Ops.nil ?_
  refine Run.seq ?_
  refine Run.region ?_
  refine Ops.pure rfl (Pure.fieldAddrB fld35_1 rfl) ?_
  refine Ops.pure rfl (Pure.ldB 2 rfl cell2 rfl rfl) ?_
  refine Ops.pure rfl (Pure.mul rfl rfl (by omega) (by omega)) ?_
  refine Ops.go rfl (Loud.alloc zero2 rfl) ?_
  rintro _ _ ⟨b10, rfl, rfl⟩
  refine Ops.store (Stores.box 0 rfl rfl rfl size2 (allOne rfl) rfl rfl) ?_
  refine Ops.nil ?_
  refine Run.seq ?_
  refine Run.ext_ (L' := [.box b10 2 [.int .i64 ((nB b : Nat) : Int)], .box b7 4 [.bool true], .box b5 2 [.int .i64 ((X : Int) + 1)], .box b4 35 [.int .i64 a, .int .i64 b, v]]) (Ext.eq (by rw [hnB.1]; rfl)) ?_
  refine Run.region ?_
  refine Ops.pure rfl (Pure.ldB 0 rfl cell2 rfl rfl) ?_
  refine Ops.pure rfl (Pure.mul rfl rfl (by omega) (by omega)) ?_
  refine Ops.go rfl (Loud.makeI sl32 rfl rfl (by omega) (by omega) (by omega)) ?_
  rintro v30 _ rfl
  refine Ops.pure rfl (Pure.assign rfl) ?_
  refine Ops.nil ?_
  refine Run.seq ?_
  refine Run.region ?_
  refine Ops.pure rfl (Pure.makeFuncN rfl) ?_
  refine Ops.pure rfl (Pure.assign rfl) ?_
  refine Ops.nil ?_
  refine Run.seq ?_
  refine Run.seq ?_
  refine Run.region ?_
  refine Ops.pure rfl (Pure.ldB 3 rfl cell2 rfl rfl) ?_
  refine Ops.pure rfl (Pure.add rfl rfl (by omega) (by omega)) ?_
  refine Ops.pure rfl (Pure.remN (n := 2) rfl rfl (by omega)) ?_
  refine Ops.pure rfl (Pure.assign rfl) ?_
  refine Ops.nil ?_
  refine Run.block ?_
  refine Run.loop2 (X := Nat) (Y := List Int) (fun y ll => [(2, vk), (4, .pointer (some ⟨b4, 0, none⟩)), (5, .pointer (some ⟨b5, 0, none⟩)), (7, .pointer (some ⟨b7, 0, none⟩)), (10, .pointer (some ⟨b10, 0, none⟩)), (11, v30), (12, .func (.func 242) #[] #[.pointer (some ⟨b10, 0, none⟩), .pointer (some ⟨b5, 0, none⟩), .pointer (some ⟨b7, 0, none⟩)]), (13, .int .i64 y)]) (fun y ll => [.row 2 1 v30 (2 * nB b) (ints ll), .box b10 2 [.int .i64 ((nB b : Nat) : Int)], .box b7 4 [.bool true], .box b5 2 [.int .i64 ((X : Int) + 1)], .box b4 35 [.int .i64 a, .int .i64 b, v]]) (fun y ll => (y % 2 = X % 2 ∧ y ≤ nB b + 2) ∧ LI a b l X y ll) (fun y ll => nB b + 2 - y) (X % 2) (List.replicate (2 * nB b) 0) ?_ ?_ ?_ ?_
  · exact ⟨⟨by omega, by omega⟩, LI.zero hs hX⟩
  · exact ⟨rfl, rfl, rfl, rfl, rfl, rfl, rfl, congrArg (fun z => some (Value.int .i64 z)) (by omega), trivial⟩
  · exact Ext.eq (by rw [made_one _ rfl, ints_rep, show (2 * ((nB b : Nat) : Int)).toNat = 2 * nB b by omega])
  · intro y ll hinv0
    obtain ⟨⟨hy1, hy2⟩, hLI⟩ := hinv0
    refine Run.seq ?_
    refine Run.seq ?_
    refine Run.region ?_
    refine Ops.pure rfl (Pure.move rfl) ?_
    refine Ops.pure rfl (Pure.ldB 1 rfl cell2 rfl rfl) ?_
    refine Ops.pure rfl (Pure.leq rfl rfl) ?_
    refine Ops.nil ?_
    refine Run.cond rfl (fun c37 => ?_) (fun c37 => ?_)
    · skip
      replace c37 := dT c37
      refine Run.skip ?_
      refine Run.seq ?_
      refine Run.block ?_
      refine Run.seq ?_
      have hpt : PtOk a b ((X : Int) + 1) y := by unfold PtOk; omega
      refine Run.region ?_
      refine Ops.pure rfl (Pure.ldBA 4 rfl cell35 rfl rfl rfl) ?_
      refine Ops.pure rfl (Pure.ldB 3 rfl cell2 rfl rfl) ?_
      refine Ops.pure rfl (Pure.move rfl) ?_
      refine Ops.pure rfl (Pure.build rfl (bld72_2 _ _ (by first | rfl | assumption) (by first | rfl | assumption))) ?_
      refine Ops.go rfl (Loud.callR fn203 rfl (fun w hw => f_i_Panel_pairsAt w a b v l ((X : Int) + 1) y (RdL.old hv w hw) hk hpt)) ?_
      rintro v44 _ ⟨L44, hQ44, rfl⟩
      subst hQ44
      refine Ops.pure rfl (Pure.len sl200 (RdL.own 0 rfl) rfl) ?_
      refine Ops.pure rfl (Pure.move rfl) ?_
      refine Ops.nil ?_
      refine Run.block ?_
      refine Run.loop2 (X := Nat) (Y := List Int) (fun j lj => [(2, vk), (4, .pointer (some ⟨b4, 0, none⟩)), (5, .pointer (some ⟨b5, 0, none⟩)), (7, .pointer (some ⟨b7, 0, none⟩)), (10, .pointer (some ⟨b10, 0, none⟩)), (11, v30), (12, .func (.func 242) #[] #[.pointer (some ⟨b10, 0, none⟩), .pointer (some ⟨b5, 0, none⟩), .pointer (some ⟨b7, 0, none⟩)]), (13, .int .i64 y), (44, v44), (45, .int .i64 (prs a b l ((X : Int) + 1) y).length), (46, .int .i64 j)]) (fun j lj => [.row 2 1 v30 (2 * nB b) (ints lj), .row 202 2 v44 (prs a b l ((X : Int) + 1) y).length ((prs a b l ((X : Int) + 1) y).flatMap encQ), .box b10 2 [.int .i64 ((nB b : Nat) : Int)], .box b7 4 [.bool true], .box b5 2 [.int .i64 ((X : Int) + 1)], .box b4 35 [.int .i64 a, .int .i64 b, v]]) (fun j lj => j ≤ (prs a b l ((X : Int) + 1) y).length ∧ LJ a b l X y (prs a b l ((X : Int) + 1) y) j lj) (fun j lj => (prs a b l ((X : Int) + 1) y).length - j) 0 ll ?_ ?_ ?_ ?_
      · exact ⟨Nat.zero_le _, hLI.start _⟩
      · exact ⟨rfl, rfl, rfl, rfl, rfl, rfl, rfl, rfl, rfl, rfl, rfl, trivial⟩
      · exact Ext.take 1 rfl (Ext.take 0 rfl (Ext.refl _))
      · intro j lj hinv1
        obtain ⟨hj1, hLJ⟩ := hinv1
        have hljl := hLJ.1
        have hljl2 : (ints lj).length = 2 * nB b := by rw [ints, List.length_map]; exact hLJ.1
        have hpr2 := (prs_len a b l ((X : Int) + 1) y).2
        refine Run.seq ?_
        refine Run.region ?_
        refine Ops.pure rfl (Pure.lss rfl rfl) ?_
        refine Ops.nil ?_
        refine Run.seq ?_
        refine Run.cond rfl (fun c47 => ?_) (fun c47 => ?_)
        · skip
          replace c47 := dT c47
          refine Run.skip ?_
          refine Run.seq ?_
          refine Run.block ?_
          refine Run.seq ?_
          have hjl : j < (prs a b l ((X : Int) + 1) y).length := by omega
          have hpm : (prs a b l ((X : Int) + 1) y).getD j (0, 0) ∈ (prs a b l ((X : Int) + 1) y) := by rw [List.getD_eq_getElem?_getD, List.getElem?_eq_getElem hjl]; exact List.getElem_mem _
          obtain ⟨hlk1, hlk2, hlk3, hlk4, hlk5, hlk6⟩ := prs_link hs hX hpt hpm
          obtain ⟨wz, hwz, _, _, hwz1, hwz2⟩ := prs_come hs l hpt hpm
          have hsb1 := sg_bd hwz
          have hsb2 := sg_bd (VW_stp (l := l) hs1 hs3 hwz)
          have hsgl := segN_le hs
          have hc1 := cP_num hs3 hlk1 hlk2
          have hc2 := cP_num hs3 hlk3 hlk4
          have hcb1 : cP b X ((prs a b l ((X : Int) + 1) y).getD j (0, 0)).1 < 2 * nB b := by unfold cP; omega
          have hcb2 : cP b X ((prs a b l ((X : Int) + 1) y).getD j (0, 0)).2 < 2 * nB b := by unfold cP; omega
          refine Run.region ?_
          refine Ops.pure rfl (Pure.idxN sl200 (RdL.own 1 rfl) rfl rfl (by first | assumption | omega | (simp; omega))) ?_
          refine Ops.pure rfl (Pure.ldA cell202 rfl (RdL.own 1 rfl) (seg_get encQ_len (by omega) (0, 0)) rfl (by decide)) ?_
          refine Ops.go rfl (Loud.alloc zero202 rfl) ?_
          rintro _ _ ⟨b15, rfl, rfl⟩
          refine Ops.store (Stores.box 0 rfl rfl rfl size202 (allOne rfl) rfl rfl) ?_
          refine Ops.nil ?_
          refine Run.seq ?_
          refine Run.ext_ (L' := .box b15 202 [.int .i64 ((prs a b l ((X : Int) + 1) y).getD j (0, 0)).1, .int .i64 ((prs a b l ((X : Int) + 1) y).getD j (0, 0)).2] :: .row 2 1 v30 (2 * nB b) (ints lj) :: .row 202 2 v44 (prs a b l ((X : Int) + 1) y).length ((prs a b l ((X : Int) + 1) y).flatMap encQ) :: .box b10 2 [.int .i64 ((nB b : Nat) : Int)] :: .box b7 4 [.bool true] :: .box b5 2 [.int .i64 ((X : Int) + 1)] :: [.box b4 35 [.int .i64 a, .int .i64 b, v]]) (Ext.eq rfl) ?_
          refine Any.start follows ?_
          refine Any.take 0 rfl (by kernel_rfl) rfl (QOp.pure (Pure.move rfl)) ?_
          refine Any.take 1 rfl (by kernel_rfl) rfl (QOp.pure (Pure.idxArr und202 size2 rfl rfl (by first | assumption | omega | (simp; omega)) (by first | assumption | omega | (simp; omega)))) ?_
          refine Any.take 2 rfl (by kernel_rfl) rfl (QOp.pure (Pure.ldB 0 rfl cell2 rfl rfl)) ?_
          refine Any.take 3 rfl (by kernel_rfl) rfl (QOp.callF fn242 rfl rfl rfl (fun w hw => (f_i_Panel_passColumn_1 w ((prs a b l ((X : Int) + 1) y).getD j (0, 0)).1 (nB b) ((X : Int) + 1) b10 b5 b7 (RdL.boxM 3 rfl rfl w hw) (RdL.boxM 5 rfl rfl w hw) (RdL.boxM 4 rfl rfl w hw) (by omega) (by omega) (by omega) (by omega)).cong (congrArg (Value.int .i64) hc1))) ?_
          refine Any.take 4 rfl (by kernel_rfl) rfl (QOp.pure (Pure.move rfl)) ?_
          refine Any.take 5 rfl (by kernel_rfl) rfl (QOp.pure (Pure.idxArr und202 size2 rfl rfl (by first | assumption | omega | (simp; omega)) (by first | assumption | omega | (simp; omega)))) ?_
          refine Any.take 6 rfl (by kernel_rfl) rfl (QOp.pure (Pure.ldB 0 rfl cell2 rfl rfl)) ?_
          refine Any.take 7 rfl (by kernel_rfl) rfl (QOp.callF fn242 rfl rfl rfl (fun w hw => (f_i_Panel_passColumn_1 w ((prs a b l ((X : Int) + 1) y).getD j (0, 0)).2 (nB b) ((X : Int) + 1) b10 b5 b7 (RdL.boxM 3 rfl rfl w hw) (RdL.boxM 5 rfl rfl w hw) (RdL.boxM 4 rfl rfl w hw) (by omega) (by omega) (by omega) (by omega)).cong (congrArg (Value.int .i64) hc2))) ?_
          refine Any.take 8 rfl (by kernel_rfl) rfl (QOp.pure (Pure.assign rfl)) ?_
          refine Any.take 9 rfl (by kernel_rfl) rfl (QOp.pure (Pure.assign rfl)) ?_
          refine Any.done (by kernel_rfl) ?_
          refine Run.region ?_
          refine Ops.pure rfl (Pure.move rfl) ?_
          refine Ops.pure rfl (Pure.move rfl) ?_
          refine Ops.pure rfl (Pure.move rfl) ?_
          refine Ops.pure rfl (Pure.move rfl) ?_
          refine Ops.pure rfl (Pure.move rfl) ?_
          refine Ops.pure rfl (Pure.move rfl) ?_
          refine Ops.pure rfl (Pure.idx1N sl32 (RdL.own 1 rfl) rfl rfl (by first | assumption | omega | (simp; omega))) ?_
          refine Ops.store (Stores.row1 1 rfl size2 rfl rfl rfl (by omega)) ?_
          refine Ops.pure rfl (Pure.idx1N sl32 (RdL.own 1 rfl) rfl rfl (by first | assumption | omega | (simp; omega))) ?_
          refine Ops.store (Stores.row1 1 rfl size2 rfl rfl rfl (by rw [List.length_set]; omega)) ?_
          refine Ops.nil ?_
          refine Run.blk ?_
          refine Run.region ?_
          refine Ops.pure rfl (Pure.add rfl rfl (by omega) (by omega)) ?_
          refine Ops.pure rfl (Pure.move rfl) ?_
          refine Ops.nil ?_
          refine Run.asrt ?_
          exact ⟨j + 1, _, ⟨⟨by omega, hLJ.step (by unfold cP; omega) (by unfold cP; omega) hlk5 hlk6⟩, by omega⟩, ⟨rfl, rfl, rfl, rfl, rfl, rfl, rfl, rfl, rfl, rfl, rfl, trivial⟩, Ext.trans (Ext.eq (by rw [← ints_setI, ← ints_setI])) (Ext.right [_] _)⟩
        · skip
          replace c47 := dF c47
          have hje : j = (prs a b l ((X : Int) + 1) y).length := by omega
          subst hje
          have hdone := hLJ.done hs hX hy1
          refine Run.exit rfl ?_
          refine Run.blk ?_
          refine Run.region ?_
          refine Ops.pure rfl (Pure.move rfl) ?_
          refine Ops.pure rfl (Pure.add rfl rfl (by omega) (by omega)) ?_
          refine Ops.pure rfl (Pure.assign rfl) ?_
          refine Ops.nil ?_
          refine Run.asrt ?_
          exact ⟨y + 2, lj, ⟨⟨⟨by omega, by omega⟩, hdone⟩, by omega⟩, ⟨rfl, rfl, rfl, rfl, rfl, rfl, rfl, rfl, trivial⟩, Ext.take 0 rfl (Ext.right [_] _)⟩
    · skip
      replace c37 := dF c37
      refine Run.exit rfl ?_
      refine Run.seq ?_
      refine Run.mid (fun s' L' => ∃ v68 v70, Sub ([(2, vk), (10, .pointer (some ⟨b10, 0, none⟩)), (11, v30), (18, v68), (19, v70)]) s' ∧ Ext ([.row 4 1 v70 (nB b) (bools (List.replicate (nB b) false)), .row 2 1 v68 (nB b) (ints (List.replicate (nB b) 0)), .row 2 1 v30 (2 * nB b) (ints ll), .box b10 2 [.int .i64 ((nB b : Nat) : Int)]]) L') ?_ ?_
      · skip
        refine Any.start follows ?_
        refine Any.take 0 rfl (by kernel_rfl) rfl (QOp.pure (Pure.ldB 1 rfl cell2 rfl rfl)) ?_
        refine Any.take 2 rfl (by kernel_rfl) rfl (QOp.pure (Pure.ldB 1 rfl cell2 rfl rfl)) ?_
        refine Any.two 1 3 (by kernel_rfl) ?_ ?_
        · skip
          refine OneL.loud rfl rfl (Loud.make sl32 rfl rfl (by omega) (by omega)) ?_
          rintro v68 _ rfl
          refine ⟨.inr (by first | exact Ext.right _ _ | exact Ext.right [_] _ | exact Ext.refl _), ?_⟩
          refine Any.take 4 rfl (by kernel_rfl) rfl (QOp.pure (Pure.assign rfl)) ?_
          refine Any.one 3 (by kernel_rfl) ?_
          refine OneL.loud rfl rfl (Loud.make sl113 rfl rfl (by omega) (by omega)) ?_
          rintro v70 _ rfl
          refine ⟨.inr (by first | exact Ext.right _ _ | exact Ext.right [_] _ | exact Ext.refl _), ?_⟩
          refine Any.take 5 rfl (by kernel_rfl) rfl (QOp.pure (Pure.assign rfl)) ?_
          refine Any.done (by kernel_rfl) ?_
          refine Run.asrt ?_
          rw [made_one _ rfl, made_one _ rfl]
          first
            | exact ⟨_, _, ⟨rfl, rfl, rfl, rfl, rfl, trivial⟩, by rw [bools, ints_rep, List.map_replicate]; exact Ext.take 0 rfl (Ext.take 0 rfl (Ext.take 0 rfl (Ext.take 0 rfl (Ext.nil _))))⟩
            | exact ⟨_, _, ⟨rfl, rfl, rfl, rfl, rfl, trivial⟩, by rw [bools, ints_rep, List.map_replicate]; exact Ext.take 1 rfl (Ext.take 0 rfl (Ext.take 0 rfl (Ext.take 0 rfl (Ext.nil _))))⟩
        · skip
          refine OneL.loud rfl rfl (Loud.make sl113 rfl rfl (by omega) (by omega)) ?_
          rintro v70 _ rfl
          refine ⟨.inr (by first | exact Ext.right _ _ | exact Ext.right [_] _ | exact Ext.refl _), ?_⟩
          refine Any.one 1 (by kernel_rfl) ?_
          refine OneL.loud rfl rfl (Loud.make sl32 rfl rfl (by omega) (by omega)) ?_
          rintro v68 _ rfl
          refine ⟨.inr (by first | exact Ext.right _ _ | exact Ext.right [_] _ | exact Ext.refl _), ?_⟩
          refine Any.take 4 rfl (by kernel_rfl) rfl (QOp.pure (Pure.assign rfl)) ?_
          refine Any.take 5 rfl (by kernel_rfl) rfl (QOp.pure (Pure.assign rfl)) ?_
          refine Any.done (by kernel_rfl) ?_
          refine Run.asrt ?_
          rw [made_one _ rfl, made_one _ rfl]
          first
            | exact ⟨_, _, ⟨rfl, rfl, rfl, rfl, rfl, trivial⟩, by rw [bools, ints_rep, List.map_replicate]; exact Ext.take 0 rfl (Ext.take 0 rfl (Ext.take 0 rfl (Ext.take 0 rfl (Ext.nil _))))⟩
            | exact ⟨_, _, ⟨rfl, rfl, rfl, rfl, rfl, trivial⟩, by rw [bools, ints_rep, List.map_replicate]; exact Ext.take 1 rfl (Ext.take 0 rfl (Ext.take 0 rfl (Ext.take 0 rfl (Ext.nil _))))⟩
      · rintro s' L' ⟨v68, v70, hs', hL'⟩
        refine Run.sub hs' hL' ?_
        clear hs' hL' s' L'
        have hLK : LK a b l X ll := hLI.full hs hX (by omega)
        have hill : (ints ll).length = 2 * nB b := by rw [ints, List.length_map]; exact hLK.1
        have hlll := hLK.1
        refine Run.seq ?_
        refine Run.seq ?_
        refine Run.region ?_
        refine Ops.pure rfl (Pure.ldB 3 rfl cell2 rfl rfl) ?_
        refine Ops.pure rfl (Pure.move rfl) ?_
        refine Ops.nil ?_
        refine Run.block ?_
        refine Run.loop3 (X := Nat) (Y := List Int) (Z := List Bool) (fun k ol sl => [(2, vk), (10, .pointer (some ⟨b10, 0, none⟩)), (11, v30), (18, v68), (19, v70), (71, .int .i64 (nB b)), (72, .int .i64 k)]) (fun k ol sl => [.row 4 1 v70 (nB b) (bools sl), .row 2 1 v68 (nB b) (ints ol), .row 2 1 v30 (2 * nB b) (ints ll), .box b10 2 [.int .i64 ((nB b : Nat) : Int)]]) (fun k ol sl => k ≤ nB b ∧ IO a b l X k ol ∧ Sn a b l X kl ll k sl) (fun k ol sl => nB b - k) 0 (List.replicate (nB b) 0) (List.replicate (nB b) false) ?_ ?_ ?_ ?_
        · exact ⟨Nat.zero_le _, ⟨by simp, fun j hj => by omega⟩, Sn.zero a b l X kl ll⟩
        · exact ⟨rfl, rfl, rfl, rfl, rfl, rfl, rfl, trivial⟩
        · exact Ext.refl _
        · intro k ol sl hinv2
          obtain ⟨hk1, hIO, hSn⟩ := hinv2
          have hol := hIO.1
          have hol2 : (ints ol).length = nB b := by rw [ints, List.length_map]; exact hIO.1
          have hsl1 := hSn.len
          have hsl2 : (bools sl).length = nB b := by rw [bools, List.length_map]; exact hSn.len
          refine Run.seq ?_
          refine Run.region ?_
          refine Ops.pure rfl (Pure.lss rfl rfl) ?_
          refine Ops.nil ?_
          refine Run.seq ?_
          refine Run.cond rfl (fun c73 => ?_) (fun c73 => ?_)
          · skip
            replace c73 := dT c73
            refine Run.skip ?_
            refine Run.seq ?_
            refine Run.block ?_
            refine Run.seq ?_
            refine Run.region ?_
            refine Ops.pure rfl (Pure.move rfl) ?_
            refine Ops.pure rfl (Pure.assign rfl) ?_
            refine Ops.nil ?_
            refine Run.seq ?_
            obtain ⟨T, hT1, hT2, hT3⟩ := aS_stop hs hX hKN hLK (show k < nB b by omega)
            have ha0 : ll.getD (((nB b : Nat) : Int) + (k : Int)).toNat 0 = (((aS kl ll (nB b) k 0) : Nat) : Int) := by
              rw [show (((nB b : Nat) : Int) + (k : Int)).toNat = nB b + k by omega]
              exact (gN_cast (hLK.2 (nB b + k) (by omega)).1).symm
            have hout := aS_out hs hX hKN hLK (show k < nB b by omega) hT1 hT2 hT3
            refine Run.region ?_
            refine Ops.pure rfl (Pure.move rfl) ?_
            refine Ops.pure rfl (Pure.ldB 3 rfl cell2 rfl rfl) ?_
            refine Ops.pure rfl (Pure.move rfl) ?_
            refine Ops.pure rfl (Pure.add rfl rfl (by omega) (by omega)) ?_
            refine Ops.pure rfl (Pure.idx1N sl32 (RdL.own 2 rfl) rfl rfl (by first | assumption | omega | (simp; omega))) ?_
            refine Ops.pure rfl (Pure.ld cell2 rfl (RdL.own 2 rfl) (by first | exact ints_get (by omega) | exact bools_get (by omega) | exact strs_get (by omega) | exact vals_get (by first | omega | (simp; omega)))) ?_
            refine Ops.pure rfl (Pure.assign rfl) ?_
            refine Ops.nil ?_
            refine Run.seq ?_
            refine Run.block ?_
            refine Run.loop2 (X := Nat) (Y := List Bool) (fun i s1 => [(2, vk), (10, .pointer (some ⟨b10, 0, none⟩)), (11, v30), (18, v68), (19, v70), (20, .int .i64 k), (21, .int .i64 (aS kl ll (nB b) k i)), (71, .int .i64 (nB b)), (72, .int .i64 k)]) (fun i s1 => [.row 4 1 v70 (nB b) (bools s1), .row 2 1 v68 (nB b) (ints ol), .row 2 1 v30 (2 * nB b) (ints ll), .box b10 2 [.int .i64 ((nB b : Nat) : Int)]]) (fun i s1 => i ≤ T ∧ Sm b kl ll k i sl s1) (fun i s1 => T - i) 0 sl ?_ ?_ ?_ ?_
            · exact ⟨Nat.zero_le _, Sm.zero hSn.len⟩
            · exact ⟨rfl, rfl, rfl, rfl, rfl, rfl, congrArg (fun z => some (Value.int .i64 z)) (ha0), rfl, rfl, trivial⟩
            · exact Ext.refl _
            · intro i s1 hinv3
              obtain ⟨hi1, hSm⟩ := hinv3
              have hs1 := hSm.1
              have hs2 : (bools s1).length = nB b := by rw [bools, List.length_map]; exact hSm.1
              refine Run.seq ?_
              refine Run.seq ?_
              refine Run.region ?_
              refine Ops.pure rfl (Pure.move rfl) ?_
              refine Ops.pure rfl (Pure.ldB 3 rfl cell2 rfl rfl) ?_
              refine Ops.pure rfl (Pure.lss rfl rfl) ?_
              refine Ops.nil ?_
              refine Run.cond rfl (fun c83 => ?_) (fun c83 => ?_)
              · skip
                replace c83 := dT c83
                have hai : (aS kl ll (nB b) k i) < nB b := by omega
                have hiT : i < T := by
                  rcases Nat.lt_or_ge i T with h | h
                  · exact h
                  · have e : i = T := by omega
                    rw [e] at hai
                    omega
                have hkn := hKN.2 _ hai
                have hgk : kl.getD (aS kl ll (nB b) k i) 0 = ((gN kl (aS kl ll (nB b) k i) : Nat) : Int) := (gN_cast hkn.1).symm
                have hl0 := (hLK.2 (gN kl (aS kl ll (nB b) k i)) (by omega)).1
                have hgl : ll.getD (gN kl (aS kl ll (nB b) k i)) 0 = (((aS kl ll (nB b) k (i + 1)) : Nat) : Int) := (gN_cast hl0).symm
                refine Run.skip ?_
                refine Run.block ?_
                refine Run.seq ?_
                refine Run.region ?_
                refine Ops.pure rfl (Pure.move rfl) ?_
                refine Ops.pure rfl (Pure.move rfl) ?_
                refine Ops.pure rfl (Pure.move rfl) ?_
                refine Ops.pure rfl (Pure.move rfl) ?_
                refine Ops.pure rfl (Pure.move rfl) ?_
                refine Ops.pure rfl (Pure.idx1N sl32 (RdL.old hvk) rfl rfl (by first | assumption | omega | (simp; omega))) ?_
                refine Ops.pure rfl (Pure.ld cell2 rfl (RdL.old hvk) (by first | exact ints_get (by omega) | exact bools_get (by omega) | exact strs_get (by omega) | exact vals_get (by first | omega | (simp; omega)))) ?_
                refine Ops.pure rfl (Pure.idx1N sl113 (RdL.own 0 rfl) rfl rfl (by first | assumption | omega | (simp; omega))) ?_
                refine Ops.store (Stores.row1 0 rfl size4 rfl rfl rfl (by first | assumption | omega | (simp; omega))) ?_
                refine Ops.pure rfl (Pure.idx1 sl113 (RdL.own 0 rfl) rfl rfl (by first | assumption | omega | (simp; omega)) (by first | assumption | omega | (simp; omega))) ?_
                refine Ops.store (Stores.row1 0 rfl size4 rfl rfl rfl (by rw [List.length_set]; omega)) ?_
                refine Ops.nil ?_
                refine Run.region ?_
                refine Ops.pure rfl (Pure.move rfl) ?_
                refine Ops.pure rfl (Pure.move rfl) ?_
                refine Ops.pure rfl (Pure.move rfl) ?_
                refine Ops.pure rfl (Pure.idx1N sl32 (RdL.old hvk) rfl rfl (by first | assumption | omega | (simp; omega))) ?_
                refine Ops.pure rfl (Pure.ld cell2 rfl (RdL.old hvk) (by first | exact ints_get (by omega) | exact bools_get (by omega) | exact strs_get (by omega) | exact vals_get (by first | omega | (simp; omega)))) ?_
                refine Ops.pure rfl (Pure.idx1 sl32 (RdL.own 2 rfl) rfl rfl (by first | assumption | omega | (simp; omega)) (by first | assumption | omega | (simp; omega))) ?_
                refine Ops.pure rfl (Pure.ld cell2 rfl (RdL.own 2 rfl) (by first | exact ints_get (by omega) | exact bools_get (by omega) | exact strs_get (by omega) | exact vals_get (by first | omega | (simp; omega)))) ?_
                refine Ops.pure rfl (Pure.assign rfl) ?_
                refine Ops.nil ?_
                refine Run.blk ?_
                refine Run.asrt ?_
                refine ⟨i + 1, _, ⟨⟨by omega, hSm.succ hai hkn.2.1⟩, by omega⟩, ⟨rfl, rfl, rfl, rfl, rfl, rfl, congrArg (fun z => some (Value.int .i64 z)) (hgl), rfl, rfl, trivial⟩, Ext.eq (by rw [bools, List.map_set, List.map_set]; rfl)⟩
              · skip
                replace c83 := dF c83
                have hiT : i = T := by
                  rcases Nat.lt_or_ge i T with h | h
                  · have := hT1 i h
                    omega
                  · omega
                subst hiT
                have hoc : (((aS kl ll (nB b) k i) : Nat) : Int) - ((nB b : Nat) : Int) = (((aS kl ll (nB b) k i) - nB b : Nat) : Int) := by omega
                refine Run.exit rfl ?_
                refine Run.region ?_
                refine Ops.pure rfl (Pure.move rfl) ?_
                refine Ops.pure rfl (Pure.move rfl) ?_
                refine Ops.pure rfl (Pure.move rfl) ?_
                refine Ops.pure rfl (Pure.ldB 3 rfl cell2 rfl rfl) ?_
                refine Ops.pure rfl (Pure.sub rfl rfl (by omega) (by omega)) ?_
                refine Ops.pure rfl (Pure.idx1N sl32 (RdL.own 1 rfl) rfl rfl (by first | assumption | omega | (simp; omega))) ?_
                refine Ops.store (Stores.row1 1 rfl size2 rfl rfl rfl (by omega)) ?_
                refine Ops.nil ?_
                refine Run.blk ?_
                refine Run.region ?_
                refine Ops.pure rfl (Pure.add rfl rfl (by omega) (by omega)) ?_
                refine Ops.pure rfl (Pure.move rfl) ?_
                refine Ops.nil ?_
                refine Run.asrt ?_
                refine ⟨k + 1, _, s1, ⟨⟨by omega, hIO.step (by omega) hout, hSn.step hs hX hKN hLK (by omega) hSm hT1 hT2⟩, by omega⟩, ⟨rfl, rfl, rfl, rfl, rfl, rfl, rfl, trivial⟩, Ext.eq (by rw [hoc, ← ints_setI]; rfl)⟩
          · skip
            replace c73 := dF c73
            refine Run.exit rfl ?_
            refine Run.seq ?_
            have e : k = nB b := by omega
            subst e
            have hL := hSn.loc hs hX hKN hLK
            refine Run.region ?_
            refine Ops.pure rfl (Pure.assign rfl) ?_
            refine Ops.nil ?_
            refine Run.seq ?_
            refine Run.seq ?_
            refine Run.region ?_
            refine Ops.pure rfl (Pure.ldB 3 rfl cell2 rfl rfl) ?_
            refine Ops.pure rfl (Pure.move rfl) ?_
            refine Ops.nil ?_
            refine Run.block ?_
            refine Run.loop2 (X := Nat) (Y := List Bool) (fun k sc => [(2, vk), (11, v30), (18, v68), (19, v70), (22, .int .i64 ((nP (fun r => ¬ Mk a b l X (fun r => r < nB b ∧ sl.getD r false = false) r r) k : Nat) : Int)), (107, .int .i64 (nB b)), (108, .int .i64 k)]) (fun k sc => [.row 4 1 v70 (nB b) (bools sc), .row 2 1 v68 (nB b) (ints ol), .row 2 1 v30 (2 * nB b) (ints ll)]) (fun k sc => k ≤ nB b ∧ MkS a b l X (gN kl) (gN ll) (fun r => r < nB b ∧ sl.getD r false = false) k 0 sc) (fun k sc => nB b - k) 0 sl ?_ ?_ ?_ ?_
            · exact ⟨Nat.zero_le _, MkS.zero hSn.len (fun r hr => by cases sl.getD r false <;> simp [hr])⟩
            · exact ⟨rfl, rfl, rfl, rfl, rfl, rfl, rfl, trivial⟩
            · exact Ext.take 0 rfl (Ext.take 0 rfl (Ext.take 0 rfl (Ext.nil _)))
            · intro k sc hinv4
              obtain ⟨hk2, hmk⟩ := hinv4
              have hsc1 := hmk.1
              have hsc2 : (bools sc).length = nB b := by rw [bools, List.length_map]; exact hmk.1
              have hnp := nP_le (fun r => ¬ Mk a b l X (fun r => r < nB b ∧ sl.getD r false = false) r r) k
              refine Run.seq ?_
              refine Run.region ?_
              refine Ops.pure rfl (Pure.lss rfl rfl) ?_
              refine Ops.nil ?_
              refine Run.seq ?_
              refine Run.cond rfl (fun c109 => ?_) (fun c109 => ?_)
              · skip
                replace c109 := dT c109
                refine Run.skip ?_
                refine Run.seq ?_
                refine Run.block ?_
                refine Run.seq ?_
                refine Run.region ?_
                refine Ops.pure rfl (Pure.move rfl) ?_
                refine Ops.pure rfl (Pure.assign rfl) ?_
                refine Ops.nil ?_
                refine Run.seq ?_
                refine Run.seq ?_
                refine Run.region ?_
                refine Ops.pure rfl (Pure.move rfl) ?_
                refine Ops.pure rfl (Pure.move rfl) ?_
                refine Ops.pure rfl (Pure.idx1N sl113 (RdL.own 0 rfl) rfl rfl (by first | assumption | omega | (simp; omega))) ?_
                refine Ops.pure rfl (Pure.ld cell4 rfl (RdL.own 0 rfl) (by first | exact ints_get (by omega) | exact bools_get (by omega) | exact strs_get (by omega) | exact vals_get (by first | omega | (simp; omega)))) ?_
                refine Ops.nil ?_
                refine Run.cond rfl (fun c114 => ?_) (fun c114 => ?_)
                · skip
                  skip
                  refine Run.exit rfl ?_
                  refine Run.region ?_
                  refine Ops.pure rfl (Pure.add rfl rfl (by omega) (by omega)) ?_
                  refine Ops.pure rfl (Pure.move rfl) ?_
                  refine Ops.nil ?_
                  refine Run.asrt ?_
                  first
                    | exact ⟨k + 1, sc, ⟨⟨by omega, (hmk.skip (by omega) c114).1⟩, by omega⟩, ⟨rfl, rfl, rfl, rfl, by rw [(hmk.skip (by omega) c114).2]; rfl, rfl, rfl, trivial⟩, Ext.refl _⟩
                    | (refine ⟨k + 1, s1, ⟨⟨by omega, hdone⟩, by omega⟩, ⟨rfl, rfl, rfl, rfl, ?_, rfl, rfl, trivial⟩, Ext.refl _⟩
                       rw [hfirst.2]
                       rfl)
                · skip
                  skip
                  refine Run.skip ?_
                  refine Run.seq ?_
                  have hfirst := hmk.first (by omega) c114
                  have hVk : (fun r => r < nB b ∧ sl.getD r false = false) k := Classical.not_not.1 fun hn => hfirst.1 (.inl hn)
                  obtain ⟨p, hp1, hp2, hp3⟩ := hL.period hVk
                  refine Run.region ?_
                  refine Ops.pure rfl (Pure.move rfl) ?_
                  refine Ops.pure rfl (Pure.add rfl rfl (by omega) (by omega)) ?_
                  refine Ops.pure rfl (Pure.assign rfl) ?_
                  refine Ops.nil ?_
                  refine Run.seq ?_
                  refine Run.region ?_
                  refine Ops.pure rfl (Pure.move rfl) ?_
                  refine Ops.pure rfl (Pure.assign rfl) ?_
                  refine Ops.nil ?_
                  refine Run.block ?_
                  refine Run.loop2 (X := Nat) (Y := List Bool) (fun i s1 => [(2, vk), (11, v30), (18, v68), (19, v70), (22, .int .i64 (((nP (fun r => ¬ Mk a b l X (fun r => r < nB b ∧ sl.getD r false = false) r r) k : Nat) : Int) + 1)), (24, .int .i64 (gS (gN kl) (gN ll) k i)), (107, .int .i64 (nB b)), (108, .int .i64 k)]) (fun i s1 => [.row 4 1 v70 (nB b) (bools s1), .row 2 1 v68 (nB b) (ints ol), .row 2 1 v30 (2 * nB b) (ints ll)]) (fun i s1 => i ≤ p ∧ MkS a b l X (gN kl) (gN ll) (fun r => r < nB b ∧ sl.getD r false = false) k i s1) (fun i s1 => p - i) 0 sc ?_ ?_ ?_ ?_
                  · exact ⟨Nat.zero_le _, hmk⟩
                  · exact ⟨rfl, rfl, rfl, rfl, rfl, rfl, rfl, rfl, trivial⟩
                  · exact Ext.refl _
                  · intro i s1 hinv5
                    obtain ⟨hi1, hmi⟩ := hinv5
                    have hs1 := hmi.1
                    have hs2 : (bools s1).length = nB b := by rw [bools, List.length_map]; exact hmi.1
                    have hgv := hL.gV hVk i
                    have hg1 := hgv.1
                    have hg2 := (hL.vk _ hgv).1
                    have hat := hmi.at hL hfirst.1 hp1 hp2 hp3 hi1
                    have hk0 := (hKN.2 _ hg1).1
                    have hgk : kl.getD (gS (gN kl) (gN ll) k i) 0 = ((gN kl (gS (gN kl) (gN ll) k i) : Nat) : Int) := (gN_cast hk0).symm
                    have hl0 := (hLK.2 (gN kl (gS (gN kl) (gN ll) k i)) (by omega)).1
                    have hgl : ll.getD (gN kl (gS (gN kl) (gN ll) k i)) 0 = ((gS (gN kl) (gN ll) k (i + 1) : Nat) : Int) := (gN_cast hl0).symm
                    refine Run.seq ?_
                    refine Run.seq ?_
                    refine Run.region ?_
                    refine Ops.pure rfl (Pure.move rfl) ?_
                    refine Ops.pure rfl (Pure.move rfl) ?_
                    refine Ops.pure rfl (Pure.idx1N sl113 (RdL.own 0 rfl) rfl rfl (by first | assumption | omega | (simp; omega))) ?_
                    refine Ops.pure rfl (Pure.ld cell4 rfl (RdL.own 0 rfl) (by first | exact ints_get (by omega) | exact bools_get (by omega) | exact strs_get (by omega) | exact vals_get (by first | omega | (simp; omega)))) ?_
                    refine Ops.pure rfl (Pure.not rfl) ?_
                    refine Ops.nil ?_
                    refine Run.cond rfl (fun c122 => ?_) (fun c122 => ?_)
                    · skip
                      replace c122 := bT c122
                      have hlt : i < p := by
                        rcases Nat.lt_or_ge i p with h | h
                        · exact h
                        · have h2 := hat.2 (by omega)
                          rw [c122] at h2
                          cases h2
                      refine Run.skip ?_
                      refine Run.seq ?_
                      refine Run.block ?_
                      refine Run.region ?_
                      refine Ops.pure rfl (Pure.move rfl) ?_
                      refine Ops.pure rfl (Pure.move rfl) ?_
                      refine Ops.pure rfl (Pure.move rfl) ?_
                      refine Ops.pure rfl (Pure.move rfl) ?_
                      refine Ops.pure rfl (Pure.move rfl) ?_
                      refine Ops.pure rfl (Pure.idx1N sl32 (RdL.old hvk) rfl rfl (by first | assumption | omega | (simp; omega))) ?_
                      refine Ops.pure rfl (Pure.ld cell2 rfl (RdL.old hvk) (by first | exact ints_get (by omega) | exact bools_get (by omega) | exact strs_get (by omega) | exact vals_get (by first | omega | (simp; omega)))) ?_
                      refine Ops.pure rfl (Pure.idx1N sl113 (RdL.own 0 rfl) rfl rfl (by first | assumption | omega | (simp; omega))) ?_
                      refine Ops.store (Stores.row1 0 rfl size4 rfl rfl rfl (by first | assumption | omega | (simp; omega))) ?_
                      refine Ops.pure rfl (Pure.idx1 sl113 (RdL.own 0 rfl) rfl rfl (by first | assumption | omega | (simp; omega)) (by first | assumption | omega | (simp; omega))) ?_
                      refine Ops.store (Stores.row1 0 rfl size4 rfl rfl rfl (by rw [List.length_set]; omega)) ?_
                      refine Ops.nil ?_
                      refine Run.blk ?_
                      refine Run.region ?_
                      refine Ops.pure rfl (Pure.move rfl) ?_
                      refine Ops.pure rfl (Pure.move rfl) ?_
                      refine Ops.pure rfl (Pure.move rfl) ?_
                      refine Ops.pure rfl (Pure.idx1N sl32 (RdL.old hvk) rfl rfl (by first | assumption | omega | (simp; omega))) ?_
                      refine Ops.pure rfl (Pure.ld cell2 rfl (RdL.old hvk) (by first | exact ints_get (by omega) | exact bools_get (by omega) | exact strs_get (by omega) | exact vals_get (by first | omega | (simp; omega)))) ?_
                      refine Ops.pure rfl (Pure.idx1 sl32 (RdL.own 2 rfl) rfl rfl (by first | assumption | omega | (simp; omega)) (by first | assumption | omega | (simp; omega))) ?_
                      refine Ops.pure rfl (Pure.ld cell2 rfl (RdL.own 2 rfl) (by first | exact ints_get (by omega) | exact bools_get (by omega) | exact strs_get (by omega) | exact vals_get (by first | omega | (simp; omega)))) ?_
                      refine Ops.pure rfl (Pure.assign rfl) ?_
                      refine Ops.nil ?_
                      refine Run.asrt ?_
                      refine ⟨i + 1, _, ⟨⟨by omega, hmi.step hL hfirst.1⟩, by omega⟩, ⟨rfl, rfl, rfl, rfl, rfl, congrArg (fun z => some (Value.int .i64 z)) (hgl), rfl, rfl, trivial⟩, Ext.eq (by rw [bools, List.map_set, List.map_set]; rfl)⟩
                    · skip
                      replace c122 := bF c122
                      have hie := hat.1 c122
                      subst hie
                      have hdone := hmi.done hL hfirst.1 hp1 hp2
                      refine Run.exit rfl ?_
                      refine Run.blk ?_
                      refine Run.region ?_
                      refine Ops.pure rfl (Pure.add rfl rfl (by omega) (by omega)) ?_
                      refine Ops.pure rfl (Pure.move rfl) ?_
                      refine Ops.nil ?_
                      refine Run.asrt ?_
                      first
                        | exact ⟨k + 1, sc, ⟨⟨by omega, (hmk.skip (by omega) c114).1⟩, by omega⟩, ⟨rfl, rfl, rfl, rfl, by rw [(hmk.skip (by omega) c114).2]; rfl, rfl, rfl, trivial⟩, Ext.refl _⟩
                        | (refine ⟨k + 1, s1, ⟨⟨by omega, hdone⟩, by omega⟩, ⟨rfl, rfl, rfl, rfl, ?_, rfl, rfl, trivial⟩, Ext.refl _⟩
                           rw [hfirst.2]
                           rfl)
              · skip
                replace c109 := dF c109
                refine Run.exit rfl ?_
                refine Run.seq ?_
                refine Run.region ?_
                refine Ops.pure rfl (Pure.move rfl) ?_
                refine Ops.pure rfl (Pure.move rfl) ?_
                refine Ops.pure rfl (Pure.assign rfl) ?_
                refine Ops.pure rfl (Pure.assign rfl) ?_
                refine Ops.nil ?_
                have e2 : k = nB b := by omega
                subst e2
                refine Run.ext_ (Ext.take 1 rfl (Ext.nil _)) ?_
                refine Run.ret2 rfl rfl rfl ?_
                rw [hSn.closed hs hX hKN hLK]
                exact ⟨v68, ol, rfl, KN_next hs hX hIO.1 hIO.2, rfl⟩

set_option maxRecDepth 4000 in
/-- (impl.Panel).nextColumn -/
theorem f_i_Panel_nextColumn (w : World) (a : Int) (b : Int) (v : Value) (l : List Int) (vk : Value) (kl : List Int) (X : Nat) (c : Int) (hv : Rd w v 1 l.length (ints l)) (hk : okP a b l = true) (hvk : Rd w vk 1 (nB b) (ints kl)) (hKN : KN a b l X kl) (hX : (X : Int) + 1 < 2 * a) (hc0 : 0 ≤ c) (hc1 : c ≤ 100000) : Ret Try.prog 207 [.agg #[.int .i64 a, .int .i64 b, v], .int .i64 X, .agg #[vk, .int .i64 c]] w (fun u L => ∃ y ol, y.oneCell' = true ∧ u = .agg #[y, .int .i64 (c + ((nP (fun r => CP a b l (X * nB b + r)) (nB b) : Nat) : Int))] ∧ KN a b l (X + 1) ol ∧ L = [.row 2 1 y (nB b) (ints ol)]) := by
  have hs := okP_size hk
  obtain ⟨hs1, hs2, hs3, hs4⟩ := id hs
  have hnB := nB_eq hs3
  have hli := okP_inn hk
  have hib := (inn_eq hs).2.1
  have hvk1 := hvk.one
  have hnp := nP_le (fun r => CP a b l (X * nB b + r)) (nB b)
  refine Ret.enter Try.func207 rfl Try.ntmps207 rfl ?_
  refine Run.seq ?_
  refine Run.region ?_
  refine Ops.go rfl (Loud.box rfl rfl) ?_
  rintro _ _ ⟨b3, rfl, rfl⟩
  refine Ops.go rfl (Loud.box rfl rfl) ?_
  rintro _ _ ⟨b5, rfl, rfl⟩
  refine Ops.go rfl (Loud.alloc zero159 rfl) ?_
  rintro _ _ ⟨b6, rfl, rfl⟩
  refine Ops.nil ?_
  refine Run.seq ?_
  refine Run.region ?_
  refine Ops.pure rfl (Pure.ldBA 2 rfl cell35 rfl rfl rfl) ?_
  refine Ops.pure rfl (Pure.move rfl) ?_
  refine Ops.pure rfl (Pure.add rfl rfl (by omega) (by omega)) ?_
  refine Ops.pure rfl (Pure.fieldAddrB fld159_0 rfl) ?_
  refine Ops.pure rfl (Pure.ldB 1 rfl cell32 rfl rfl) ?_
  refine Ops.go rfl (Loud.callR fn225 rfl (fun w hw => f_i_Panel_passColumn w a b v l vk kl X (RdL.old hv w hw) hk (RdL.old hvk w hw) hKN hX)) ?_
  rintro v15 _ ⟨L15, hQ15, rfl⟩
  obtain ⟨x15, ol15, rfl, hkn15, rfl⟩ := hQ15
  refine Ops.pure rfl (Pure.move rfl) ?_
  refine Ops.pure rfl (Pure.extract rfl rfl) ?_
  refine Ops.pure rfl (Pure.extract rfl rfl) ?_
  refine Ops.pure rfl (Pure.assign rfl) ?_
  refine Ops.pure rfl (Pure.assign rfl) ?_
  refine Ops.nil ?_
  refine Run.seq ?_
  refine Run.have_ (fun w hw => row_one 0 hw rfl) (fun hy => ?_)
  refine Run.region ?_
  refine Ops.pure rfl (Pure.move rfl) ?_
  refine Ops.pure rfl (Pure.fieldAddrB fld159_1 rfl) ?_
  refine Ops.pure rfl (Pure.ldB 2 rfl cell2 rfl rfl) ?_
  refine Ops.pure rfl (Pure.move rfl) ?_
  refine Ops.pure rfl (Pure.add rfl rfl (by omega) (by omega)) ?_
  refine Ops.pure rfl (Pure.build rfl (bld159_2 _ _ (by first | rfl | assumption) (by first | rfl | assumption))) ?_
  refine Ops.store (Stores.box 1 rfl rfl rfl size159 (one2 hy rfl) rfl rfl) ?_
  refine Ops.nil ?_
  refine Run.retCx 1 rfl rfl rfl cell159 rfl (Ext.take 0 rfl (Ext.nil _)) ?_
  exact ⟨_, _, hy, rfl, hkn15, rfl⟩

set_option maxRecDepth 4000 in
/-- (impl.Panel).columns -/
theorem f_i_Panel_columns (w : World) (a : Int) (b : Int) (v : Value) (l : List Int) (hv : Rd w v 1 l.length (ints l)) (hk : okP a b l = true) : Ret Try.prog 157 [.agg #[.int .i64 a, .int .i64 b, v]] w (fun u L => ∃ (k : Nat) (vk : Value) (kl : List Int) (xs : List Value), (k : Int) + 1 = 2 * a ∧ (KN a b l k kl ∧ xs.length = 2 * (k + 1) ∧ (xs.drop (k * 2)).take 2 = [vk, .int .i64 ((nP (CP a b l) (k * nB b) : Nat) : Int)] ∧ vk.oneCell' = true) ∧ L = [.row 159 2 u (k + 1) xs, .row 2 1 vk (nB b) (ints kl)]) := by
  have hs := okP_size hk
  obtain ⟨hs1, hs2, hs3, hs4⟩ := id hs
  have hnB := nB_eq hs3
  have hli := okP_inn hk
  have hib := (inn_eq hs).2.1
  refine Ret.enter Try.func157 rfl Try.ntmps157 rfl ?_
  refine Run.seq ?_
  refine Run.region ?_
  refine Ops.go rfl (Loud.box rfl rfl) ?_
  rintro _ _ ⟨b1, rfl, rfl⟩
  refine Ops.pure rfl (Pure.assign rfl) ?_
  refine Ops.nil ?_
  refine Run.seq ?_
  refine Run.region ?_
  refine Ops.pure rfl (Pure.fieldAddrB fld35_1 rfl) ?_
  refine Ops.pure rfl (Pure.ldB 0 rfl cell2 rfl rfl) ?_
  refine Ops.pure rfl (Pure.mul rfl rfl (by omega) (by omega)) ?_
  rw [← hnB.1]
  refine Ops.go rfl (Loud.callR fn159 rfl (fun w hw => f_i_neighbours w (nB b) (by omega))) ?_
  rintro v8 _ ⟨L8, hQ8, rfl⟩
  subst hQ8
  refine Ops.have_ (fun w hw => row_one 0 hw rfl) (fun h8 => ?_)
  refine Ops.pure rfl (Pure.build rfl (bld159_p0 _ (by first | rfl | assumption))) ?_
  refine Ops.go rfl (Loud.litA sl156 rfl rfl rfl) ?_
  rintro v10 _ rfl
  refine Ops.pure rfl (Pure.assign rfl) ?_
  refine Ops.nil ?_
  refine Run.seq ?_
  refine Run.seq ?_
  refine Run.region ?_
  refine Ops.pure rfl (Pure.fieldAddrB fld35_0 rfl) ?_
  refine Ops.pure rfl (Pure.ldB 2 rfl cell2 rfl rfl) ?_
  refine Ops.pure rfl (Pure.mul rfl rfl (by omega) (by omega)) ?_
  refine Ops.pure rfl (Pure.sub rfl rfl (by omega) (by omega)) ?_
  refine Ops.pure rfl (Pure.move rfl) ?_
  refine Ops.nil ?_
  refine Run.block ?_
  refine Run.loop4 (X := Nat) (Y := Value) (Z := Value) (V := List Int × List Value) (fun k vo vk z => [(1, .pointer (some ⟨b1, 0, none⟩)), (3, vo), (14, .int .i64 (2 * a - 1)), (15, .int .i64 k)]) (fun k vo vk z => [.row 159 2 vo (k + 1) z.2, .row 2 1 vk (nB b) (ints z.1), .box b1 35 [.int .i64 a, .int .i64 b, v]]) (fun k vo vk z => (k : Int) + 1 ≤ 2 * a ∧ KN a b l k z.1 ∧ z.2.length = 2 * (k + 1) ∧ (z.2.drop (k * 2)).take 2 = [vk, .int .i64 ((nP (CP a b l) (k * nB b) : Nat) : Int)] ∧ vk.oneCell' = true) (fun k vo vk z => (2 * a).toNat - k) 0 v10 v8 (nbL (nB b), [v8, .int .i64 0]) ?_ ?_ ?_ ?_
  · exact ⟨by omega, KN_zero hs, rfl, by rw [Nat.zero_mul, Nat.zero_mul]; rfl, h8⟩
  · exact ⟨rfl, rfl, rfl, rfl, trivial⟩
  · exact Ext.refl _
  · intro k vo vk z hinv0
    obtain ⟨hk1, hKN, hxl, hseg, hvk1⟩ := hinv0
    have hnp := nP_le (CP a b l) (k * nB b)
    have hkb : k * nB b ≤ 16 * 16 := Nat.mul_le_mul (by omega) (by omega)
    refine Run.seq ?_
    refine Run.region ?_
    refine Ops.pure rfl (Pure.lss rfl rfl) ?_
    refine Ops.nil ?_
    refine Run.seq ?_
    refine Run.cond rfl (fun c16 => ?_) (fun c16 => ?_)
    · skip
      replace c16 := dT c16
      refine Run.skip ?_
      refine Run.seq ?_
      refine Run.block ?_
      refine Run.seq ?_
      refine Run.region ?_
      refine Ops.pure rfl (Pure.move rfl) ?_
      refine Ops.pure rfl (Pure.assign rfl) ?_
      refine Ops.nil ?_
      refine Any.start follows ?_
      refine Any.take 0 rfl (by kernel_rfl) rfl (QOp.pure (Pure.move rfl)) ?_
      refine Any.take 1 rfl (by kernel_rfl) rfl (QOp.pure (Pure.ldBA 2 rfl cell35 rfl rfl rfl)) ?_
      refine Any.take 2 rfl (by kernel_rfl) rfl (QOp.pure (Pure.move rfl)) ?_
      refine Any.take 3 rfl (by kernel_rfl) rfl (QOp.pure (Pure.move rfl)) ?_
      refine Any.take 4 rfl (by kernel_rfl) rfl (QOp.pure (Pure.move rfl)) ?_
      refine Any.take 5 rfl (by kernel_rfl) rfl (QOp.pure (Pure.idxN sl156 (RdL.own 0 rfl) rfl rfl (by first | assumption | omega | (simp; omega)))) ?_
      refine Any.take 6 rfl (by kernel_rfl) rfl (QOp.pure (Pure.ldA cell159 rfl (RdL.own 0 rfl) hseg rfl (by decide))) ?_
      refine Any.one 7 (by kernel_rfl) ?_
      refine OneL.loud rfl rfl (Loud.callR fn207 rfl (fun w hw => f_i_Panel_nextColumn w a b v l vk z.1 k ((nP (CP a b l) (k * nB b) : Nat) : Int) (RdL.old hv w hw) hk (RdL.own 1 rfl w hw) hKN (by omega) (by omega) (by omega))) ?_
      rintro v25 _ ⟨L25, hQ25, rfl⟩
      obtain ⟨y25, ol25, hy25, rfl, hkn25, rfl⟩ := hQ25
      refine ⟨.inl (by kernel_rfl), ?_⟩
      refine Any.one 8 (by kernel_rfl) ?_
      refine OneL.loud rfl rfl (Loud.litA sl156 rfl rfl rfl) ?_
      rintro v26 _ rfl
      refine ⟨.inl (by kernel_rfl), ?_⟩
      refine Any.one 9 (by kernel_rfl) ?_
      refine OneL.loud rfl rfl (Loud.append 2 rfl sl156 rfl rfl (RdL.own 0 rfl) (by exact one2 hy25 rfl) (by omega) (by omega)) ?_
      rintro v27 _ rfl
      refine ⟨.inl (by kernel_rfl), ?_⟩
      refine Any.take 10 rfl (by kernel_rfl) rfl (QOp.pure (Pure.assign rfl)) ?_
      refine Any.done (by kernel_rfl) ?_
      refine Run.blk ?_
      refine Run.region ?_
      refine Ops.pure rfl (Pure.add rfl rfl (by omega) (by omega)) ?_
      refine Ops.pure rfl (Pure.move rfl) ?_
      refine Ops.nil ?_
      refine Run.asrt ?_
      refine ⟨k + 1, v27, y25, (ol25, _), ⟨⟨by omega, hkn25, ?_, ?_, hy25⟩, by omega⟩, ⟨rfl, rfl, rfl, rfl, trivial⟩, Ext.take 2 rfl (Ext.take 1 rfl (Ext.take 2 rfl (Ext.nil _)))⟩
      · show (z.2 ++ _).length = _
        rw [List.length_append, hxl]
        rfl
      · show ((z.2 ++ _).drop _).take 2 = _
        rw [List.drop_append, List.drop_of_length_le (by omega), List.nil_append, show (k + 1) * 2 - z.2.length = 0 by omega, nP_col]
        rfl
    · skip
      replace c16 := dF c16
      refine Run.exit rfl ?_
      refine Run.seq ?_
      refine Run.region ?_
      refine Ops.pure rfl (Pure.move rfl) ?_
      refine Ops.pure rfl (Pure.assign rfl) ?_
      refine Ops.nil ?_
      refine Run.ext_ (Ext.take 0 rfl (Ext.take 0 rfl (Ext.nil _))) ?_
      refine Run.ret1 rfl rfl ?_
      exact ⟨k, vk, z.1, z.2, by omega, ⟨hKN, hxl, hseg, hvk1⟩, rfl⟩

set_option maxRecDepth 4000 in
/-- impl.CountByColumns -/
theorem f_i_CountByColumns (w : World) (a : Int) (b : Int) (v : Value) (l : List Int) (hv : Rd w v 1 l.length (ints l)) (hk : okP a b l = true) : RetV Try.prog 80 [.agg #[.int .i64 a, .int .i64 b, v]] w (.tuple #[.int .i64 (cnt a b l : Int), .int .i64 0]) := by
  have hs := okP_size hk
  obtain ⟨hs1, hs2, hs3, hs4⟩ := id hs
  have hnB := nB_eq hs3
  have hli := okP_inn hk
  have hib := (inn_eq hs).2.1
  refine Ret.enter Try.func80 rfl Try.ntmps80 rfl ?_
  refine Run.seq ?_
  refine Run.region ?_
  refine Ops.go rfl (Loud.box rfl rfl) ?_
  rintro _ _ ⟨b1, rfl, rfl⟩
  refine Ops.pure rfl (Pure.assign rfl) ?_
  refine Ops.pure rfl (Pure.assign rfl) ?_
  refine Ops.nil ?_
  refine Run.seq ?_
  refine Run.seq ?_
  refine Run.region ?_
  refine Ops.pure rfl (Pure.ldBA 0 rfl cell35 rfl rfl rfl) ?_
  refine Ops.q rfl (QOp.call fn96 rfl (fun w hw => f_i_ValidPanel w _ _ _ _ (by exact RdL.old (by assumption) w hw) (by omega) (by omega) (by omega) (by omega) (by omega))) ?_
  refine Ops.pure rfl (Pure.not rfl) ?_
  refine Ops.nil ?_
  refine Run.condEF rfl ((by simp [hk])) ?_
  refine Run.skip ?_
  refine Run.seq ?_
  refine Run.region ?_
  refine Ops.pure rfl (Pure.ldBA 0 rfl cell35 rfl rfl rfl) ?_
  refine Ops.go rfl (Loud.callR fn157 rfl (fun w hw => f_i_Panel_columns w a b v l (RdL.old hv w hw) hk)) ?_
  rintro v10 _ ⟨L10, hQ10, rfl⟩
  obtain ⟨k10, vk10, kl10, xs10, hka10, ⟨hkn10, hxl10, hsg10, hvo10⟩, rfl⟩ := hQ10
  refine Ops.pure rfl (Pure.assign rfl) ?_
  refine Ops.nil ?_
  refine Run.seq ?_
  have hnp := nP_le (CP a b l) (k10 * nB b)
  have hkb : k10 * nB b ≤ 16 * 16 := Nat.mul_le_mul (by omega) (by omega)
  have hLoc := Loc_last (l := l) hs hka10 hkn10
  have hlast := last_count hs hka10 hkn10
  have hnp2 := nP_le (fun r => ¬ Mk a b l k10 (fun r => r < nB b) r r) (nB b)
  refine Run.region ?_
  refine Ops.pure rfl (Pure.move rfl) ?_
  refine Ops.pure rfl (Pure.move rfl) ?_
  refine Ops.pure rfl (Pure.len sl156 (RdL.own 0 rfl) rfl) ?_
  refine Ops.pure rfl (Pure.sub rfl rfl (by omega) (by omega)) ?_
  rw [show ((k10 + 1 : Nat) : Int) - 1 = (k10 : Int) by omega]
  refine Ops.pure rfl (Pure.idxN sl156 (RdL.own 0 rfl) rfl rfl (by first | assumption | omega | (simp; omega))) ?_
  refine Ops.pure rfl (Pure.ldA cell159 rfl (RdL.own 0 rfl) hsg10 rfl (by decide)) ?_
  refine Ops.go rfl (Loud.alloc zero159 rfl) ?_
  rintro _ _ ⟨b5, rfl, rfl⟩
  refine Ops.store (Stores.box 0 rfl rfl rfl size159 (one2 hvo10 rfl) rfl rfl) ?_
  refine Ops.nil ?_
  refine Run.seq ?_
  refine Any.start follows ?_
  refine Any.take 0 rfl (by kernel_rfl) rfl (QOp.pure (Pure.fieldAddrB fld159_1 rfl)) ?_
  refine Any.take 1 rfl (by kernel_rfl) rfl (QOp.pure (Pure.ldB 0 rfl cell2 rfl rfl)) ?_
  refine Any.take 2 rfl (by kernel_rfl) rfl (QOp.pure (Pure.fieldAddrB fld159_0 rfl)) ?_
  refine Any.take 3 rfl (by kernel_rfl) rfl (QOp.pure (Pure.ldB 0 rfl cell32 rfl rfl)) ?_
  refine Any.take 4 rfl (by kernel_rfl) rfl (QOp.pure (Pure.fieldAddrB fld35_1 rfl)) ?_
  refine Any.take 5 rfl (by kernel_rfl) rfl (QOp.pure (Pure.ldB 3 rfl cell2 rfl rfl)) ?_
  refine Any.take 6 rfl (by kernel_rfl) rfl (QOp.pure (Pure.mul rfl rfl (by omega) (by omega))) ?_
  refine Any.one 7 (by kernel_rfl) ?_
  rw [← hnB.1]
  refine OneL.loud rfl rfl (Loud.callR fn159 rfl (fun w hw => f_i_neighbours w (nB b) (by omega))) ?_
  rintro v24 _ ⟨L24, hQ24, rfl⟩
  subst hQ24
  refine ⟨.inr (by first | exact Ext.right _ _ | exact Ext.right [_] _ | exact Ext.refl _), ?_⟩
  refine Any.take 8 rfl (by kernel_rfl) rfl (QOp.call fn158 rfl (fun w hw => f_i_loops w vk10 v24 kl10 (nbL (nB b)) a b l k10 (RdL.own 3 rfl w hw) (RdL.own 0 rfl w hw) hLoc (fun r hr => (hkn10.2 r hr).1) (fun r hr => by rw [nbL_get hr]; omega) hkn10.1 (length_nbL _) (by omega))) ?_
  refine Any.take 9 rfl (by kernel_rfl) rfl (QOp.pure (Pure.add rfl rfl (by omega) (by omega))) ?_
  refine Any.take 10 rfl (by kernel_rfl) rfl (QOp.pure (Pure.assign rfl)) ?_
  refine Any.take 11 rfl (by kernel_rfl) rfl (QOp.pure (Pure.assign rfl)) ?_
  refine Any.done (by kernel_rfl) ?_
  refine Run.ret2 rfl rfl rfl ?_
  rw [← hlast]
  rfl

end Go.Proofs.Ytmfinopdokkjcaa
