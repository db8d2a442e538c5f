/- Contracts of functions, printed by program from annotations. -/
import Derived.Test.YtmfinopdokkjcaaTrc3
import Derived.Test.YtmfinopdokkjcaaPWith
namespace Go.Proofs.Ytmfinopdokkjcaa
open Go Go.AW Go.RowKit
set_option linter.unusedVariables false
set_option linter.unusedSimpArgs false

theorem pdig_bd (m : Nat) : ∀ (j : Nat) (x : Int), x ∈ pdig m j → 0 ≤ x ∧ x ≤ 2
  | 0, x, h => by simp [pdig] at h
  | j + 1, x, h => by
    simp only [pdig, List.mem_cons] at h
    rcases h with rfl | h
    · have := Nat.mod_lt (m / p3 j) (show 0 < 3 by omega)
      omega
    · exact pdig_bd m j x h
theorem okP_pdig {a b : Int} (hs : SizeOk a b) (m : Nat) : okP a b (pdig m (inn a b)) = true := by
  have hl := length_pdig m (inn a b)
  refine okP_true (k := inn a b) hs hl (by omega) fun j hj => ?_
  exact pdig_bd m (inn a b) _ (mem_of_getD (by omega) rfl)
/-- the number of the curves of the panel with a number -/
abbrev cntN (a b : Int) (m : Nat) : Nat := cnt a b (pdig m (inn a b))
theorem cntN_bd {a b : Int} (hs : SizeOk a b) (m : Nat) : 1 ≤ cntN a b m ∧ cntN a b m ≤ 256 := by
  have h := cnt_pos (l := pdig m (inn a b)) hs.1 hs.2.2.1
  have h2 := segN_le hs
  exact ⟨h.1, Nat.le_trans h.2 h2.1⟩
def grow (t : List Int) (c : Nat) : List Int := t ++ List.replicate (c + 1 - t.length) 0
theorem length_grow (t : List Int) (c : Nat) : (grow t c).length = max t.length (c + 1) := by unfold grow; rw [List.length_append, List.length_replicate]; omega
/-- one more with c curves -/
def bump (t : List Int) (c : Nat) : List Int := (grow t c).set c ((grow t c).getD c 0 + 1)
theorem length_bump (t : List Int) (c : Nat) : (bump t c).length = max t.length (c + 1) := by unfold bump; rw [List.length_set, length_grow]
def tabTo (a b : Int) : Nat → List Int
  | 0 => []
  | m + 1 => bump (tabTo a b m) (cntN a b m)
theorem length_tab {a b : Int} (hs : SizeOk a b) : ∀ m, (tabTo a b m).length ≤ 257
  | 0 => by simp [tabTo]
  | m + 1 => by
    have h1 := length_tab hs m
    have h2 := cntN_bd hs m
    show (bump (tabTo a b m) (cntN a b m)).length ≤ 257
    rw [length_bump]
    omega
theorem grow_mem {t : List Int} {c : Nat} {x : Int} (h : x ∈ grow t c) : x ∈ t ∨ x = 0 := by
  unfold grow at h
  rcases List.mem_append.1 h with h | h
  · exact .inl h
  · exact .inr (List.eq_of_mem_replicate h)
theorem tab_mem {a b : Int} : ∀ (m : Nat) (x : Int), x ∈ tabTo a b m → 0 ≤ x ∧ x ≤ m
  | 0, x, h => by simp [tabTo] at h
  | m + 1, x, h => by
    have ih := tab_mem (a := a) (b := b) m
    have hg : ∀ y, y ∈ grow (tabTo a b m) (cntN a b m) → 0 ≤ y ∧ y ≤ m := fun y hy => by
      rcases grow_mem hy with h | rfl
      · exact ih y h
      · omega
    have h' : x ∈ (grow (tabTo a b m) (cntN a b m)).set (cntN a b m) ((grow (tabTo a b m) (cntN a b m)).getD (cntN a b m) 0 + 1) := h
    rcases List.mem_or_eq_of_mem_set h' with h | rfl
    · have := hg x h; omega
    · have := hg _ (mem_of_getD (l := grow (tabTo a b m) (cntN a b m)) (k := cntN a b m) (by rw [length_grow]; omega) rfl); omega
theorem tab_bd {a b : Int} {m k : Nat} (h : k < (tabTo a b m).length) : 0 ≤ (tabTo a b m).getD k 0 ∧ (tabTo a b m).getD k 0 ≤ m := tab_mem m _ (mem_of_getD h rfl)
theorem grow_at {a b : Int} {m c : Nat} : 0 ≤ (grow (tabTo a b m) c).getD c 0 ∧ (grow (tabTo a b m) c).getD c 0 ≤ m := by
  rcases grow_mem (mem_of_getD (l := grow (tabTo a b m) c) (k := c) (by rw [length_grow]; omega) rfl) with h | h
  · exact tab_mem m _ h
  · rw [h]; omega
theorem p3_pos (k : Nat) : 1 ≤ p3 k := p3_mono (Nat.zero_le k)
theorem many_pos (a b : Int) : 1 ≤ many a b := by have := p3_pos (inn a b); unfold many; omega
def tabE (a b : Int) : List Int := if pcE a b = 0 then tabTo a b (many a b) else []
theorem tabE_bad {a b : Int} (h : ¬ pcE a b = 0) : tabE a b = [] := by unfold tabE; rw [if_neg h]
theorem tabE_ok {a b : Int} (h : pcE a b = 0) : tabE a b = tabTo a b (many a b) := by unfold tabE; rw [if_pos h]
theorem tabE_size (a b : Int) : (tabE a b).length ≤ 257 := by
  by_cases h : pcE a b = 0
  · rw [tabE_ok h]; exact length_tab (pc_zero h).1 _
  · rw [tabE_bad h]; simp
def sumTo (t : List Int) : Nat → Int
  | 0 => 0
  | k + 1 => sumTo t k + (k : Int) * t.getD k 0
theorem term_bd {a b : Int} {m k : Nat} (hs : SizeOk a b) (hm : m ≤ 2500) (h : k < (tabTo a b m).length) : 0 ≤ (k : Int) * (tabTo a b m).getD k 0 ∧ (k : Int) * (tabTo a b m).getD k 0 ≤ 1000000 := by
  have h1 := tab_bd h
  have h2 := length_tab hs m
  have := mul_bd (a := (k : Int)) (b := (tabTo a b m).getD k 0) (A := 400) (B := 2500) (by omega) (by omega) h1.1 (by omega)
  omega
theorem sumTo_bd {a b : Int} {m : Nat} (hs : SizeOk a b) (hm : m ≤ 2500) : ∀ k, k ≤ (tabTo a b m).length → 0 ≤ sumTo (tabTo a b m) k ∧ sumTo (tabTo a b m) k ≤ (k : Int) * 1000000
  | 0, _ => ⟨Int.le_refl _, by simp [sumTo]⟩
  | k + 1, h => by
    have h1 := sumTo_bd hs hm k (by omega)
    have h2 := term_bd hs hm (k := k) (by omega)
    show 0 ≤ sumTo (tabTo a b m) k + (k : Int) * (tabTo a b m).getD k 0 ∧ sumTo (tabTo a b m) k + (k : Int) * (tabTo a b m).getD k 0 ≤ _
    omega
def meanC (a b : Int) : Int := if pcE a b = 0 then 1000 * sumTo (tabTo a b (many a b)) (tabTo a b (many a b)).length / (many a b : Int) else 0
theorem meanC_bad {a b : Int} (h : ¬ pcE a b = 0) : meanC a b = 0 := by unfold meanC; rw [if_neg h]
theorem meanC_ok {a b : Int} (h : pcE a b = 0) : meanC a b = 1000 * sumTo (tabTo a b (many a b)) (tabTo a b (many a b)).length / (many a b : Int) := by unfold meanC; rw [if_pos h]

set_option maxRecDepth 4000 in
/-- impl.curveTable -/
theorem f_i_curveTable (w : World) (a : Int) (b : Int) (m : Nat) (hs : SizeOk a b) (hm : m ≤ 2500) : Ret Try.prog 124 [.int .i64 a, .int .i64 b, .int .i64 m] w (fun u L => L = [.row 2 1 u (tabTo a b m).length (ints (tabTo a b m))]) := by
  have hmp := many_pos a b
  obtain ⟨hs1, hs2, hs3, hs4⟩ := id hs
  refine Ret.enter Try.func124 rfl Try.ntmps124 rfl ?_
  refine Run.seq ?_
  refine Run.region ?_
  refine Ops.pure rfl (Pure.assign rfl) ?_
  refine Ops.nil ?_
  refine Run.seq ?_
  refine Run.region ?_
  refine Ops.go rfl (Loud.lit sl32 rfl rfl rfl (by simp [Value.oneCell'])) ?_
  rintro v10 _ rfl
  refine Ops.pure rfl (Pure.assign rfl) ?_
  refine Ops.nil ?_
  refine Run.seq ?_
  refine Run.seq ?_
  refine Run.region ?_
  refine Ops.pure rfl (Pure.move rfl) ?_
  refine Ops.pure rfl (Pure.move rfl) ?_
  refine Ops.nil ?_
  refine Run.block ?_
  refine Run.loop2 (X := Nat) (Y := Value) (fun k vo => [(0, .int .i64 a), (1, .int .i64 b), (7, vo), (11, .int .i64 m), (12, .int .i64 k)]) (fun k vo => [.row 2 1 vo (tabTo a b k).length (ints (tabTo a b k))]) (fun k vo => k ≤ m) (fun k vo => m - k) 0 v10 ?_ ?_ ?_ ?_
  · exact Nat.zero_le _
  · exact ⟨rfl, rfl, rfl, rfl, rfl, trivial⟩
  · exact Ext.eq rfl
  · intro k vo hinv0
    have hcb := cntN_bd hs k
    have htl := length_tab hs k
    refine Run.seq ?_
    refine Run.region ?_
    refine Ops.pure rfl (Pure.lss rfl rfl) ?_
    refine Ops.nil ?_
    refine Run.seq ?_
    refine Run.cond rfl (fun c13 => ?_) (fun c13 => ?_)
    · skip
      replace c13 := dT c13
      refine Run.skip ?_
      refine Run.seq ?_
      refine Run.block ?_
      refine Run.seq ?_
      refine Run.region ?_
      refine Ops.pure rfl (Pure.move rfl) ?_
      refine Ops.pure rfl (Pure.assign rfl) ?_
      refine Ops.nil ?_
      refine Run.seq ?_
      refine Run.region ?_
      refine Ops.pure rfl (Pure.move rfl) ?_
      refine Ops.pure rfl (Pure.move rfl) ?_
      refine Ops.pure rfl (Pure.move rfl) ?_
      refine Ops.go rfl (Loud.callR fn114 rfl (fun w hw => f_i_panelWith w _ _ _ (by assumption) (by omega))) ?_
      rintro v18 _ ⟨L18, hQ18, rfl⟩
      obtain ⟨x18, h18, rfl, rfl⟩ := hQ18
      refine Ops.q rfl (QOp.call fn121 rfl (fun w hw => f_i_countCurves w a b x18 (pdig k (inn a b)) (by rw [length_pdig]; exact RdL.own 0 rfl w hw) (okP_pdig hs k))) ?_
      refine Ops.pure rfl (Pure.assign rfl) ?_
      refine Ops.nil ?_
      refine Run.seq ?_
      refine Run.block ?_
      refine Run.loop2 (X := Nat) (Y := Value) (fun j vq => [(0, .int .i64 a), (1, .int .i64 b), (7, vq), (9, .int .i64 (cntN a b k : Int)), (11, .int .i64 m), (12, .int .i64 k)]) (fun j vq => [.row 2 1 vq ((tabTo a b k).length + j) (ints (tabTo a b k ++ List.replicate j 0))]) (fun j vq => j ≤ cntN a b k + 1 - (tabTo a b k).length) (fun j vq => cntN a b k + 1 - (tabTo a b k).length - j) 0 vo ?_ ?_ ?_ ?_
      · exact Nat.zero_le _
      · exact ⟨rfl, rfl, rfl, rfl, rfl, rfl, trivial⟩
      · exact Ext.take 1 (by rw [show List.replicate 0 (0 : Int) = [] from rfl, List.append_nil]; rfl) (Ext.nil _)
      · intro j vq hinv1
        have hgl : (tabTo a b k ++ List.replicate j 0).length = (tabTo a b k).length + j := by rw [List.length_append, List.length_replicate]
        refine Run.seq ?_
        refine Run.seq ?_
        refine Run.region ?_
        refine Ops.pure rfl (Pure.move rfl) ?_
        refine Ops.pure rfl (Pure.len sl32 (RdL.own 0 rfl) rfl) ?_
        refine Ops.pure rfl (Pure.move rfl) ?_
        refine Ops.pure rfl (Pure.leq rfl rfl) ?_
        refine Ops.nil ?_
        refine Run.cond rfl (fun c23 => ?_) (fun c23 => ?_)
        · skip
          replace c23 := dT c23
          refine Run.skip ?_
          refine Run.block ?_
          refine Run.region ?_
          refine Ops.pure rfl (Pure.move rfl) ?_
          refine Ops.go rfl (Loud.lit sl32 rfl rfl rfl (by simp [Value.oneCell'])) ?_
          rintro v25 _ rfl
          refine Ops.go rfl (Loud.append 1 rfl sl32 rfl rfl (RdL.own 0 rfl) (by simp [Value.oneCell']) (by omega) (by omega)) ?_
          rintro v26 _ rfl
          refine Ops.pure rfl (Pure.assign rfl) ?_
          refine Ops.nil ?_
          refine Run.blk ?_
          refine Run.asrt ?_
          refine ⟨j + 1, v26, ⟨by omega, by omega⟩, ⟨rfl, rfl, rfl, rfl, rfl, rfl, trivial⟩, Ext.trans (Ext.eq ?_) (Ext.take 1 rfl (Ext.nil _))⟩
          rw [List.replicate_succ', ← List.append_assoc, ints, List.map_append]
          try rfl
        · skip
          replace c23 := dF c23
          refine Run.exit rfl ?_
          have hjj : j = cntN a b k + 1 - (tabTo a b k).length := by omega
          have hgr : (tabTo a b k ++ List.replicate j 0) = grow (tabTo a b k) (cntN a b k) := by unfold grow; rw [hjj]
          have hga := grow_at (a := a) (b := b) (m := k) (c := cntN a b k)
          rw [← hgr] at hga
          have hgl2 : (ints (tabTo a b k ++ List.replicate j 0)).length = (tabTo a b k).length + j := by rw [ints, List.length_map]; exact hgl
          refine Run.region ?_
          refine Ops.pure rfl (Pure.move rfl) ?_
          refine Ops.pure rfl (Pure.move rfl) ?_
          refine Ops.pure rfl (Pure.idx1N sl32 (RdL.own 0 rfl) rfl rfl (by first | assumption | omega | (simp; omega))) ?_
          refine Ops.pure rfl (Pure.ld cell2 rfl (RdL.own 0 rfl) (by first | exact ints_get (by omega) | exact bools_get (by omega) | exact strs_get (by omega) | exact vals_get (by first | omega | (simp; omega)))) ?_
          refine Ops.pure rfl (Pure.add rfl rfl (by omega) (by omega)) ?_
          refine Ops.pure rfl (Pure.idx1N sl32 (RdL.own 0 rfl) rfl rfl (by first | assumption | omega | (simp; omega))) ?_
          refine Ops.store (Stores.row1 0 rfl size2 rfl rfl rfl (by first | assumption | omega | (simp; omega))) ?_
          refine Ops.nil ?_
          refine Run.blk ?_
          refine Run.region ?_
          refine Ops.pure rfl (Pure.add rfl rfl (by omega) (by omega)) ?_
          refine Ops.pure rfl (Pure.move rfl) ?_
          refine Ops.nil ?_
          refine Run.asrt ?_
          refine ⟨k + 1, vq, ⟨by omega, by omega⟩, ⟨rfl, rfl, rfl, rfl, rfl, trivial⟩, Ext.trans (Ext.eq ?_) (Ext.take 0 rfl (Ext.nil _))⟩
          show [Ent.row _ _ _ (bump (tabTo a b k) (cntN a b k)).length (ints (bump (tabTo a b k) (cntN a b k)))] = _
          rw [length_bump, show max (tabTo a b k).length (cntN a b k + 1) = (tabTo a b k).length + j by omega]
          unfold bump
          rw [← ints_setI, ← hgr]
    · skip
      replace c13 := dF c13
      refine Run.exit rfl ?_
      refine Run.seq ?_
      refine Run.region ?_
      refine Ops.pure rfl (Pure.move rfl) ?_
      refine Ops.pure rfl (Pure.assign rfl) ?_
      refine Ops.nil ?_
      refine Run.ret1 rfl rfl ?_
      have e : k = m := by omega
      subst e
      rfl

set_option maxRecDepth 4000 in
/-- spec.l12Table -/
theorem f_s_l12Table (w : World) (a : Int) (b : Int) (hs : SizeOk a b) (hm : many a b ≤ 2500) : Ret Try.prog 125 [.int .i64 a, .int .i64 b] w (fun u L => L = [.row 2 1 u (tabTo a b (many a b)).length (ints (tabTo a b (many a b)))]) := by
  have hmp := many_pos a b
  obtain ⟨hs1, hs2, hs3, hs4⟩ := id hs
  refine Ret.enter Try.func125 rfl Try.ntmps125 rfl ?_
  refine Run.seq ?_
  refine Run.region ?_
  refine Ops.pure rfl (Pure.assign rfl) ?_
  refine Ops.nil ?_
  refine Run.seq ?_
  refine Run.region ?_
  refine Ops.go rfl (Loud.lit sl32 rfl rfl rfl (by simp [Value.oneCell'])) ?_
  rintro v9 _ rfl
  refine Ops.pure rfl (Pure.assign rfl) ?_
  refine Ops.nil ?_
  refine Run.seq ?_
  refine Run.seq ?_
  refine Run.region ?_
  refine Ops.pure rfl (Pure.assign rfl) ?_
  refine Ops.nil ?_
  refine Run.block ?_
  refine Run.loop2 (X := Nat) (Y := Value) (fun k vo => [(0, .int .i64 a), (1, .int .i64 b), (5, vo), (6, .int .i64 k)]) (fun k vo => [.row 2 1 vo (tabTo a b k).length (ints (tabTo a b k))]) (fun k vo => k ≤ many a b) (fun k vo => many a b - k) 0 v9 ?_ ?_ ?_ ?_
  · exact Nat.zero_le _
  · exact ⟨rfl, rfl, rfl, rfl, trivial⟩
  · exact Ext.eq rfl
  · intro k vo hinv0
    have hcb := cntN_bd hs k
    have htl := length_tab hs k
    refine Run.seq ?_
    refine Run.seq ?_
    refine Run.region ?_
    refine Ops.pure rfl (Pure.move rfl) ?_
    refine Ops.pure rfl (Pure.move rfl) ?_
    refine Ops.pure rfl (Pure.move rfl) ?_
    refine Ops.q rfl (QOp.call fn108 rfl (fun w hw => f_s_l12Many w _ _ (by assumption))) ?_
    refine Ops.pure rfl (Pure.lss rfl rfl) ?_
    refine Ops.nil ?_
    refine Run.cond rfl (fun c14 => ?_) (fun c14 => ?_)
    · skip
      replace c14 := dT c14
      refine Run.skip ?_
      refine Run.seq ?_
      refine Run.block ?_
      refine Run.seq ?_
      refine Run.region ?_
      refine Ops.pure rfl (Pure.move rfl) ?_
      refine Ops.pure rfl (Pure.move rfl) ?_
      refine Ops.pure rfl (Pure.move rfl) ?_
      refine Ops.go rfl (Loud.callR fn109 rfl (fun w hw => f_s_l12At w _ _ _ (by assumption) (by omega))) ?_
      rintro v20 _ ⟨L20, hQ20, rfl⟩
      obtain ⟨x20, h20, rfl, rfl⟩ := hQ20
      refine Ops.go rfl (Loud.alloc zero35 rfl) ?_
      rintro _ _ ⟨b7, rfl, rfl⟩
      refine Ops.store (Stores.box 0 rfl rfl rfl size35 (one3 h20) rfl rfl) ?_
      refine Ops.nil ?_
      refine Run.seq ?_
      refine Run.region ?_
      refine Ops.q rfl (QOp.call fn122 rfl (fun w hw => f_s_l04Count w _ a b x20 (pdig k (inn a b)) (RdL.boxM 0 rfl rfl w hw) (by rw [length_pdig]; exact RdL.own 1 rfl w hw) (okP_pdig hs k))) ?_
      refine Ops.pure rfl (Pure.assign rfl) ?_
      refine Ops.nil ?_
      refine Run.seq ?_
      refine Run.block ?_
      refine Run.loop2 (X := Nat) (Y := Value) (fun j vq => [(0, .int .i64 a), (1, .int .i64 b), (5, vq), (6, .int .i64 k), (8, .int .i64 (cntN a b k : Int))]) (fun j vq => [.row 2 1 vq ((tabTo a b k).length + j) (ints (tabTo a b k ++ List.replicate j 0))]) (fun j vq => j ≤ cntN a b k + 1 - (tabTo a b k).length) (fun j vq => cntN a b k + 1 - (tabTo a b k).length - j) 0 vo ?_ ?_ ?_ ?_
      · exact Nat.zero_le _
      · exact ⟨rfl, rfl, rfl, rfl, rfl, trivial⟩
      · exact Ext.take 2 (by rw [show List.replicate 0 (0 : Int) = [] from rfl, List.append_nil]; rfl) (Ext.nil _)
      · intro j vq hinv1
        have hgl : (tabTo a b k ++ List.replicate j 0).length = (tabTo a b k).length + j := by rw [List.length_append, List.length_replicate]
        refine Run.seq ?_
        refine Run.seq ?_
        refine Run.region ?_
        refine Ops.pure rfl (Pure.move rfl) ?_
        refine Ops.pure rfl (Pure.len sl32 (RdL.own 0 rfl) rfl) ?_
        refine Ops.pure rfl (Pure.move rfl) ?_
        refine Ops.pure rfl (Pure.leq rfl rfl) ?_
        refine Ops.nil ?_
        refine Run.cond rfl (fun c25 => ?_) (fun c25 => ?_)
        · skip
          replace c25 := dT c25
          refine Run.skip ?_
          refine Run.block ?_
          refine Run.region ?_
          refine Ops.pure rfl (Pure.move rfl) ?_
          refine Ops.go rfl (Loud.lit sl32 rfl rfl rfl (by simp [Value.oneCell'])) ?_
          rintro v27 _ rfl
          refine Ops.go rfl (Loud.append 1 rfl sl32 rfl rfl (RdL.own 0 rfl) (by simp [Value.oneCell']) (by omega) (by omega)) ?_
          rintro v28 _ rfl
          refine Ops.pure rfl (Pure.assign rfl) ?_
          refine Ops.nil ?_
          refine Run.blk ?_
          refine Run.asrt ?_
          refine ⟨j + 1, v28, ⟨by omega, by omega⟩, ⟨rfl, rfl, rfl, rfl, rfl, trivial⟩, Ext.trans (Ext.eq ?_) (Ext.take 1 rfl (Ext.nil _))⟩
          rw [List.replicate_succ', ← List.append_assoc, ints, List.map_append]
          try rfl
        · skip
          replace c25 := dF c25
          refine Run.exit rfl ?_
          have hjj : j = cntN a b k + 1 - (tabTo a b k).length := by omega
          have hgr : (tabTo a b k ++ List.replicate j 0) = grow (tabTo a b k) (cntN a b k) := by unfold grow; rw [hjj]
          have hga := grow_at (a := a) (b := b) (m := k) (c := cntN a b k)
          rw [← hgr] at hga
          have hgl2 : (ints (tabTo a b k ++ List.replicate j 0)).length = (tabTo a b k).length + j := by rw [ints, List.length_map]; exact hgl
          refine Run.region ?_
          refine Ops.pure rfl (Pure.move rfl) ?_
          refine Ops.pure rfl (Pure.move rfl) ?_
          refine Ops.pure rfl (Pure.idx1N sl32 (RdL.own 0 rfl) rfl rfl (by first | assumption | omega | (simp; omega))) ?_
          refine Ops.pure rfl (Pure.ld cell2 rfl (RdL.own 0 rfl) (by first | exact ints_get (by omega) | exact bools_get (by omega) | exact strs_get (by omega) | exact vals_get (by first | omega | (simp; omega)))) ?_
          refine Ops.pure rfl (Pure.add rfl rfl (by omega) (by omega)) ?_
          refine Ops.pure rfl (Pure.idx1N sl32 (RdL.own 0 rfl) rfl rfl (by first | assumption | omega | (simp; omega))) ?_
          refine Ops.store (Stores.row1 0 rfl size2 rfl rfl rfl (by first | assumption | omega | (simp; omega))) ?_
          refine Ops.nil ?_
          refine Run.blk ?_
          refine Run.region ?_
          refine Ops.pure rfl (Pure.move rfl) ?_
          refine Ops.pure rfl (Pure.add rfl rfl (by omega) (by omega)) ?_
          refine Ops.pure rfl (Pure.assign rfl) ?_
          refine Ops.nil ?_
          refine Run.asrt ?_
          refine ⟨k + 1, vq, ⟨by omega, by omega⟩, ⟨rfl, rfl, rfl, rfl, trivial⟩, Ext.trans (Ext.eq ?_) (Ext.take 0 rfl (Ext.nil _))⟩
          show [Ent.row _ _ _ (bump (tabTo a b k) (cntN a b k)).length (ints (bump (tabTo a b k) (cntN a b k)))] = _
          rw [length_bump, show max (tabTo a b k).length (cntN a b k + 1) = (tabTo a b k).length + j by omega]
          unfold bump
          rw [← ints_setI, ← hgr]
    · skip
      replace c14 := dF c14
      refine Run.exit rfl ?_
      refine Run.seq ?_
      refine Run.region ?_
      refine Ops.pure rfl (Pure.move rfl) ?_
      refine Ops.pure rfl (Pure.assign rfl) ?_
      refine Ops.nil ?_
      refine Run.ret1 rfl rfl ?_
      have e : k = many a b := by omega
      subst e
      rfl

set_option maxRecDepth 4000 in
/-- impl.CurveTable -/
theorem f_i_CurveTable (w : World) (a : Int) (b : Int) (a0 : -9223372036854775808 ≤ a) (a1 : a ≤ 9223372036854775807) (b0 : -9223372036854775808 ≤ b) (b1 : b ≤ 9223372036854775807) : Ret Try.prog 47 [.int .i64 a, .int .i64 b] w (retI (tabE a b) (pcE a b)) := by
  refine Ret.enter Try.func47 rfl Try.ntmps47 rfl ?_
  refine Run.seq ?_
  refine Run.region ?_
  refine Ops.pure rfl (Pure.assign rfl) ?_
  refine Ops.pure rfl (Pure.assign rfl) ?_
  refine Ops.nil ?_
  refine Run.seq ?_
  refine Run.region ?_
  refine Ops.pure rfl (Pure.move rfl) ?_
  refine Ops.pure rfl (Pure.move rfl) ?_
  refine Ops.q rfl (QOp.call fn111 rfl (fun w hw => f_i_panelCount w _ _ (by assumption) (by assumption) (by assumption) (by assumption))) ?_
  refine Ops.pure rfl (Pure.move rfl) ?_
  refine Ops.pure rfl (Pure.extract rfl rfl) ?_
  refine Ops.pure rfl (Pure.extract rfl rfl) ?_
  refine Ops.pure rfl (Pure.assign rfl) ?_
  refine Ops.pure rfl (Pure.assign rfl) ?_
  refine Ops.nil ?_
  refine Run.seq ?_
  refine Run.seq ?_
  refine Run.region ?_
  refine Ops.pure rfl (Pure.move rfl) ?_
  refine Ops.pure rfl (Pure.neq rfl rfl) ?_
  refine Ops.nil ?_
  refine Run.cond rfl (fun c15 => ?_) (fun c15 => ?_)
  · skip
    replace c15 := nT c15
    refine Run.seq ?_
    refine Run.region ?_
    refine Ops.pure rfl (Pure.move rfl) ?_
    refine Ops.pure rfl (Pure.assign rfl) ?_
    refine Ops.pure rfl (Pure.assign rfl) ?_
    refine Ops.nil ?_
    refine Run.addNil 2 1 ?_
    refine Run.ext_ (Ext.take 0 rfl (Ext.nil _)) ?_
    refine Run.ret2 rfl rfl rfl ?_
    exact retI_nil (tabE_bad c15)
  · skip
    replace c15 := nF c15
    obtain ⟨hs, hmm, hpn⟩ := pc_zero c15
    refine Run.skip ?_
    refine Run.seq ?_
    rw [hpn]
    refine Run.region ?_
    refine Ops.pure rfl (Pure.move rfl) ?_
    refine Ops.pure rfl (Pure.move rfl) ?_
    refine Ops.pure rfl (Pure.move rfl) ?_
    refine Ops.go rfl (Loud.callR fn124 rfl (fun w hw => f_i_curveTable w a b (many a b) hs hmm)) ?_
    rintro v20 _ ⟨L20, hQ20, rfl⟩
    subst hQ20
    refine Ops.pure rfl (Pure.assign rfl) ?_
    refine Ops.pure rfl (Pure.assign rfl) ?_
    refine Ops.nil ?_
    refine Run.ret2 rfl rfl rfl ?_
    rw [tabE_ok c15, c15]
    exact ⟨_, rfl, rfl⟩

set_option maxRecDepth 4000 in
/-- spec.CurveTable -/
theorem f_s_CurveTable (w : World) (a : Int) (b : Int) (a0 : -9223372036854775808 ≤ a) (a1 : a ≤ 9223372036854775807) (b0 : -9223372036854775808 ≤ b) (b1 : b ≤ 9223372036854775807) : Ret Try.prog 48 [.int .i64 a, .int .i64 b] w (retI (tabE a b) (pcE a b)) := by
  refine Ret.enter Try.func48 rfl Try.ntmps48 rfl ?_
  refine Run.seq ?_
  refine Run.region ?_
  refine Ops.pure rfl (Pure.assign rfl) ?_
  refine Ops.pure rfl (Pure.assign rfl) ?_
  refine Ops.nil ?_
  refine Run.seq ?_
  refine Run.region ?_
  refine Ops.pure rfl (Pure.move rfl) ?_
  refine Ops.pure rfl (Pure.move rfl) ?_
  refine Ops.q rfl (QOp.call fn107 rfl (fun w hw => f_s_l12Code w _ _ (by assumption) (by assumption) (by assumption) (by assumption))) ?_
  refine Ops.pure rfl (Pure.assign rfl) ?_
  refine Ops.nil ?_
  refine Run.seq ?_
  refine Run.seq ?_
  refine Run.region ?_
  refine Ops.pure rfl (Pure.move rfl) ?_
  refine Ops.pure rfl (Pure.neq rfl rfl) ?_
  refine Ops.nil ?_
  refine Run.cond rfl (fun c11 => ?_) (fun c11 => ?_)
  · skip
    replace c11 := nT c11
    refine Run.seq ?_
    refine Run.region ?_
    refine Ops.pure rfl (Pure.move rfl) ?_
    refine Ops.pure rfl (Pure.assign rfl) ?_
    refine Ops.pure rfl (Pure.assign rfl) ?_
    refine Ops.nil ?_
    refine Run.addNil 2 1 ?_
    refine Run.ext_ (Ext.take 0 rfl (Ext.nil _)) ?_
    refine Run.ret2 rfl rfl rfl ?_
    exact retI_nil (tabE_bad c11)
  · skip
    replace c11 := nF c11
    obtain ⟨hs, hmm, hpn⟩ := pc_zero c11
    refine Run.skip ?_
    refine Run.seq ?_
    refine Run.region ?_
    refine Ops.pure rfl (Pure.move rfl) ?_
    refine Ops.pure rfl (Pure.move rfl) ?_
    refine Ops.go rfl (Loud.callR fn125 rfl (fun w hw => f_s_l12Table w _ _ (by assumption) (by assumption))) ?_
    rintro v15 _ ⟨L15, hQ15, rfl⟩
    subst hQ15
    refine Ops.pure rfl (Pure.assign rfl) ?_
    refine Ops.pure rfl (Pure.assign rfl) ?_
    refine Ops.nil ?_
    refine Run.ret2 rfl rfl rfl ?_
    rw [tabE_ok c11, c11]
    exact ⟨_, rfl, rfl⟩

set_option maxRecDepth 4000 in
/-- impl.MeanCurves -/
theorem f_i_MeanCurves (w : World) (a : Int) (b : Int) (a0 : -9223372036854775808 ≤ a) (a1 : a ≤ 9223372036854775807) (b0 : -9223372036854775808 ≤ b) (b1 : b ≤ 9223372036854775807) : RetV Try.prog 51 [.int .i64 a, .int .i64 b] w (.tuple #[.int .i64 (meanC a b), .int .i64 (pcE a b)]) := by
  refine Ret.enter Try.func51 rfl Try.ntmps51 rfl ?_
  refine Run.seq ?_
  refine Run.region ?_
  refine Ops.pure rfl (Pure.assign rfl) ?_
  refine Ops.pure rfl (Pure.assign rfl) ?_
  refine Ops.nil ?_
  refine Run.seq ?_
  refine Run.region ?_
  refine Ops.pure rfl (Pure.move rfl) ?_
  refine Ops.pure rfl (Pure.move rfl) ?_
  refine Ops.q rfl (QOp.call fn111 rfl (fun w hw => f_i_panelCount w _ _ (by assumption) (by assumption) (by assumption) (by assumption))) ?_
  refine Ops.pure rfl (Pure.move rfl) ?_
  refine Ops.pure rfl (Pure.extract rfl rfl) ?_
  refine Ops.pure rfl (Pure.extract rfl rfl) ?_
  refine Ops.pure rfl (Pure.assign rfl) ?_
  refine Ops.pure rfl (Pure.assign rfl) ?_
  refine Ops.nil ?_
  refine Run.seq ?_
  refine Run.seq ?_
  refine Run.region ?_
  refine Ops.pure rfl (Pure.move rfl) ?_
  refine Ops.pure rfl (Pure.neq rfl rfl) ?_
  refine Ops.nil ?_
  refine Run.cond rfl (fun c18 => ?_) (fun c18 => ?_)
  · skip
    replace c18 := nT c18
    refine Run.seq ?_
    refine Run.region ?_
    refine Ops.pure rfl (Pure.move rfl) ?_
    refine Ops.pure rfl (Pure.assign rfl) ?_
    refine Ops.pure rfl (Pure.assign rfl) ?_
    refine Ops.nil ?_
    refine Run.ret2 rfl rfl rfl ?_
    rw [meanC_bad c18]
    try rfl
  · skip
    replace c18 := nF c18
    obtain ⟨hs, hmm, hpn⟩ := pc_zero c18
    have hmp := many_pos a b
    rw [hpn]
    refine Run.skip ?_
    refine Run.seq ?_
    refine Run.region ?_
    refine Ops.pure rfl (Pure.assign rfl) ?_
    refine Ops.nil ?_
    refine Run.seq ?_
    refine Run.seq ?_
    refine Run.region ?_
    refine Ops.pure rfl (Pure.move rfl) ?_
    refine Ops.pure rfl (Pure.move rfl) ?_
    refine Ops.pure rfl (Pure.move rfl) ?_
    refine Ops.go rfl (Loud.callR fn124 rfl (fun w hw => f_i_curveTable w a b (many a b) hs hmm)) ?_
    rintro v23 _ ⟨L23, hQ23, rfl⟩
    subst hQ23
    refine Ops.pure rfl (Pure.len sl32 (RdL.own 0 rfl) rfl) ?_
    refine Ops.pure rfl (Pure.move rfl) ?_
    refine Ops.nil ?_
    refine Run.block ?_
    refine Run.loop (X := Nat) (fun k => [(6, .int .i64 (many a b : Int)), (8, .int .i64 (sumTo (tabTo a b (many a b)) k)), (23, v23), (24, .int .i64 (tabTo a b (many a b)).length), (25, .int .i64 k)]) (fun k => [.row 2 1 v23 (tabTo a b (many a b)).length (ints (tabTo a b (many a b)))]) (fun k => k ≤ (tabTo a b (many a b)).length) (fun k => (tabTo a b (many a b)).length - k) 0 ?_ ?_ ?_ ?_
    · exact Nat.zero_le _
    · exact ⟨rfl, rfl, rfl, rfl, rfl, trivial⟩
    · exact Ext.eq rfl
    · intro k hinv0
      have hsb := sumTo_bd hs hmm k hinv0
      have htb := fun h => term_bd hs hmm (k := k) h
      have htl := length_tab hs (many a b)
      refine Run.seq ?_
      refine Run.region ?_
      refine Ops.pure rfl (Pure.lss rfl rfl) ?_
      refine Ops.nil ?_
      refine Run.seq ?_
      refine Run.cond rfl (fun c26 => ?_) (fun c26 => ?_)
      · skip
        replace c26 := dT c26
        refine Run.skip ?_
        refine Run.seq ?_
        refine Run.block ?_
        refine Run.seq ?_
        refine Run.region ?_
        refine Ops.pure rfl (Pure.move rfl) ?_
        refine Ops.pure rfl (Pure.idx1N sl32 (RdL.own 0 rfl) rfl rfl (by first | assumption | omega | (simp; omega))) ?_
        refine Ops.pure rfl (Pure.ld cell2 rfl (RdL.own 0 rfl) (by first | exact ints_get (by omega) | exact bools_get (by omega) | exact strs_get (by omega) | exact vals_get (by first | omega | (simp; omega)))) ?_
        refine Ops.pure rfl (Pure.assign rfl) ?_
        refine Ops.pure rfl (Pure.assign rfl) ?_
        refine Ops.nil ?_
        have htb2 := htb (by omega)
        refine Run.region ?_
        refine Ops.pure rfl (Pure.move rfl) ?_
        refine Ops.pure rfl (Pure.move rfl) ?_
        refine Ops.pure rfl (Pure.move rfl) ?_
        refine Ops.pure rfl (Pure.mul rfl rfl (by omega) (by omega)) ?_
        refine Ops.pure rfl (Pure.add rfl rfl (by omega) (by omega)) ?_
        refine Ops.pure rfl (Pure.assign rfl) ?_
        refine Ops.nil ?_
        refine Run.blk ?_
        refine Run.region ?_
        refine Ops.pure rfl (Pure.add rfl rfl (by omega) (by omega)) ?_
        refine Ops.pure rfl (Pure.move rfl) ?_
        refine Ops.nil ?_
        refine Run.asrt ?_
        exact ⟨k + 1, ⟨by omega, by omega⟩, ⟨rfl, rfl, rfl, rfl, rfl, trivial⟩, Ext.refl _⟩
      · skip
        replace c26 := dF c26
        refine Run.exit rfl ?_
        refine Run.seq ?_
        refine Run.region ?_
        refine Ops.pure rfl (Pure.move rfl) ?_
        refine Ops.pure rfl (Pure.mul rfl rfl (by omega) (by omega)) ?_
        refine Ops.pure rfl (Pure.move rfl) ?_
        refine Ops.pure rfl (Pure.quo rfl rfl (by omega) (by omega) (by omega)) ?_
        refine Ops.pure rfl (Pure.assign rfl) ?_
        refine Ops.pure rfl (Pure.assign rfl) ?_
        refine Ops.nil ?_
        refine Run.ret2 rfl rfl rfl ?_
        have e : k = (tabTo a b (many a b)).length := by omega
        subst e
        rw [meanC_ok c18, c18]

set_option maxRecDepth 4000 in
/-- spec.MeanCurves -/
theorem f_s_MeanCurves (w : World) (a : Int) (b : Int) (a0 : -9223372036854775808 ≤ a) (a1 : a ≤ 9223372036854775807) (b0 : -9223372036854775808 ≤ b) (b1 : b ≤ 9223372036854775807) : RetV Try.prog 52 [.int .i64 a, .int .i64 b] w (.tuple #[.int .i64 (meanC a b), .int .i64 (pcE a b)]) := by
  refine Ret.enter Try.func52 rfl Try.ntmps52 rfl ?_
  refine Run.seq ?_
  refine Run.region ?_
  refine Ops.pure rfl (Pure.assign rfl) ?_
  refine Ops.pure rfl (Pure.assign rfl) ?_
  refine Ops.nil ?_
  refine Run.seq ?_
  refine Run.region ?_
  refine Ops.pure rfl (Pure.move rfl) ?_
  refine Ops.pure rfl (Pure.move rfl) ?_
  refine Ops.q rfl (QOp.call fn107 rfl (fun w hw => f_s_l12Code w _ _ (by assumption) (by assumption) (by assumption) (by assumption))) ?_
  refine Ops.pure rfl (Pure.assign rfl) ?_
  refine Ops.nil ?_
  refine Run.seq ?_
  refine Run.seq ?_
  refine Run.region ?_
  refine Ops.pure rfl (Pure.move rfl) ?_
  refine Ops.pure rfl (Pure.neq rfl rfl) ?_
  refine Ops.nil ?_
  refine Run.cond rfl (fun c14 => ?_) (fun c14 => ?_)
  · skip
    replace c14 := nT c14
    refine Run.seq ?_
    refine Run.region ?_
    refine Ops.pure rfl (Pure.move rfl) ?_
    refine Ops.pure rfl (Pure.assign rfl) ?_
    refine Ops.pure rfl (Pure.assign rfl) ?_
    refine Ops.nil ?_
    refine Run.ret2 rfl rfl rfl ?_
    rw [meanC_bad c14]
    try rfl
  · skip
    replace c14 := nF c14
    obtain ⟨hs, hmm, hpn⟩ := pc_zero c14
    have hmp := many_pos a b
    refine Run.skip ?_
    refine Run.seq ?_
    refine Run.region ?_
    refine Ops.pure rfl (Pure.move rfl) ?_
    refine Ops.pure rfl (Pure.move rfl) ?_
    refine Ops.go rfl (Loud.callR fn125 rfl (fun w hw => f_s_l12Table w _ _ (by assumption) (by assumption))) ?_
    rintro v18 _ ⟨L18, hQ18, rfl⟩
    subst hQ18
    refine Ops.pure rfl (Pure.assign rfl) ?_
    refine Ops.nil ?_
    refine Run.seq ?_
    refine Run.region ?_
    refine Ops.pure rfl (Pure.assign rfl) ?_
    refine Ops.nil ?_
    refine Run.seq ?_
    refine Run.seq ?_
    refine Run.region ?_
    refine Ops.pure rfl (Pure.assign rfl) ?_
    refine Ops.nil ?_
    refine Run.block ?_
    refine Run.loop (X := Nat) (fun k => [(0, .int .i64 a), (1, .int .i64 b), (7, v18), (8, .int .i64 (sumTo (tabTo a b (many a b)) k)), (9, .int .i64 k)]) (fun k => [.row 2 1 v18 (tabTo a b (many a b)).length (ints (tabTo a b (many a b)))]) (fun k => k ≤ (tabTo a b (many a b)).length) (fun k => (tabTo a b (many a b)).length - k) 0 ?_ ?_ ?_ ?_
    · exact Nat.zero_le _
    · exact ⟨rfl, rfl, rfl, rfl, rfl, trivial⟩
    · exact Ext.eq rfl
    · intro k hinv0
      have hsb := sumTo_bd hs hmm k hinv0
      have htb := fun h => term_bd hs hmm (k := k) h
      have htl := length_tab hs (many a b)
      refine Run.seq ?_
      refine Run.seq ?_
      refine Run.region ?_
      refine Ops.pure rfl (Pure.move rfl) ?_
      refine Ops.pure rfl (Pure.move rfl) ?_
      refine Ops.pure rfl (Pure.len sl32 (RdL.own 0 rfl) rfl) ?_
      refine Ops.pure rfl (Pure.lss rfl rfl) ?_
      refine Ops.nil ?_
      refine Run.cond rfl (fun c22 => ?_) (fun c22 => ?_)
      · skip
        replace c22 := dT c22
        refine Run.skip ?_
        refine Run.seq ?_
        refine Run.block ?_
        have htb2 := htb (by omega)
        refine Run.region ?_
        refine Ops.pure rfl (Pure.move rfl) ?_
        refine Ops.pure rfl (Pure.move rfl) ?_
        refine Ops.pure rfl (Pure.move rfl) ?_
        refine Ops.pure rfl (Pure.move rfl) ?_
        refine Ops.pure rfl (Pure.idx1N sl32 (RdL.own 0 rfl) rfl rfl (by first | assumption | omega | (simp; omega))) ?_
        refine Ops.pure rfl (Pure.ld cell2 rfl (RdL.own 0 rfl) (by first | exact ints_get (by omega) | exact bools_get (by omega) | exact strs_get (by omega) | exact vals_get (by first | omega | (simp; omega)))) ?_
        refine Ops.pure rfl (Pure.mul rfl rfl (by omega) (by omega)) ?_
        refine Ops.pure rfl (Pure.add rfl rfl (by omega) (by omega)) ?_
        refine Ops.pure rfl (Pure.assign rfl) ?_
        refine Ops.nil ?_
        refine Run.blk ?_
        refine Run.region ?_
        refine Ops.pure rfl (Pure.move rfl) ?_
        refine Ops.pure rfl (Pure.add rfl rfl (by omega) (by omega)) ?_
        refine Ops.pure rfl (Pure.assign rfl) ?_
        refine Ops.nil ?_
        refine Run.asrt ?_
        exact ⟨k + 1, ⟨by omega, by omega⟩, ⟨rfl, rfl, rfl, rfl, rfl, trivial⟩, Ext.refl _⟩
      · skip
        replace c22 := dF c22
        refine Run.exit rfl ?_
        refine Run.seq ?_
        refine Run.region ?_
        refine Ops.pure rfl (Pure.move rfl) ?_
        refine Ops.pure rfl (Pure.mul rfl rfl (by omega) (by omega)) ?_
        refine Ops.pure rfl (Pure.move rfl) ?_
        refine Ops.pure rfl (Pure.move rfl) ?_
        refine Ops.q rfl (QOp.call fn108 rfl (fun w hw => f_s_l12Many w _ _ (by assumption))) ?_
        refine Ops.pure rfl (Pure.quo rfl rfl (by omega) (by omega) (by omega)) ?_
        refine Ops.pure rfl (Pure.assign rfl) ?_
        refine Ops.pure rfl (Pure.assign rfl) ?_
        refine Ops.nil ?_
        refine Run.ret2 rfl rfl rfl ?_
        have e : k = (tabTo a b (many a b)).length := by omega
        subst e
        rw [meanC_ok c14, c14]

end Go.Proofs.Ytmfinopdokkjcaa
