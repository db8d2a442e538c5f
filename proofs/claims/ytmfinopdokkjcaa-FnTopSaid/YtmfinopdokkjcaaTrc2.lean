/- Contracts of functions, printed by program from annotations. -/
import Derived.Test.YtmfinopdokkjcaaTrc
namespace Go.Proofs.Ytmfinopdokkjcaa
open Go Go.AW Go.RowKit
set_option linter.unusedVariables false
set_option linter.unusedSimpArgs false

/-- The inner rows of a slice of slices. -/
def innerG {α : Type} (t m : Nat) (enc : α → List Value) (us : List Value) (ls : List (List α)) : List Ent := List.zipWith (fun x (c : List α) => .row t m x c.length (c.flatMap enc)) us ls
theorem innerG_snoc {α : Type} {t m : Nat} {enc : α → List Value} {us : List Value} {ls : List (List α)} {u : Value} {c : List α} (h : us.length = ls.length) : innerG t m enc (us ++ [u]) (ls ++ [c]) = innerG t m enc us ls ++ [.row t m u c.length (c.flatMap enc)] := by
  unfold innerG
  rw [List.zipWith_append h]
  rfl
theorem Ext.snoc2 (x r y : Ent) (I : List Ent) : Ext (I ++ [r]) (x :: r :: y :: I) := ⟨[x, y], by
  rw [List.append_assoc]
  show (I ++ [r, x, y]).Perm (x :: r :: y :: I)
  refine List.perm_append_comm.trans ?_
  exact List.Perm.swap x r (y :: I)⟩
theorem innerG_mem {α : Type} {t m : Nat} {enc : α → List Value} {us : List Value} {ls : List (List α)} (h : us.length = ls.length) {i : Nat} (hi : i < ls.length) : Ent.row t m (us.getD i undef) (ls.getD i []).length ((ls.getD i []).flatMap enc) ∈ innerG t m enc us ls := by
  rw [List.mem_iff_getElem?]
  exact ⟨i, by simp [innerG, List.getElem?_zipWith, List.getD, List.getElem?_eq_getElem hi, List.getElem?_eq_getElem (show i < us.length by omega)]⟩
/-- the owners at first: none, up to place k -/
def initO (n k : Nat) : List Int := List.replicate k (-1) ++ List.replicate (n - k) 0
theorem length_initO {n k : Nat} (h : k ≤ n) : (initO n k).length = n := by unfold initO; rw [List.length_append, List.length_replicate, List.length_replicate]; omega
theorem initO_step {n k : Nat} (h : k < n) : (ints (initO n k)).set k (.int .i64 (-1)) = ints (initO n (k + 1)) := by
  have e : initO n (k + 1) = (initO n k).set k (-1) := by
    unfold initO
    have e1 : List.replicate (k + 1) (-1 : Int) = List.replicate k (-1) ++ [-1] := List.replicate_succ'
    rw [List.set_append, if_neg (by simp), List.length_replicate, Nat.sub_self, show n - k = (n - (k + 1)) + 1 by omega, e1, List.append_assoc]
    rfl
  rw [e, ints, ints, List.map_set]
theorem initO_full (n : Nat) : initO n n = List.replicate n (-1) := by unfold initO; rw [Nat.sub_self]; simp
theorem ints_rep (n : Nat) (x : Int) : ints (List.replicate n x) = List.replicate n (.int .i64 x) := by simp [ints]
theorem ints_setI (l : List Int) (k : Nat) (x : Int) : (ints l).set k (.int .i64 x) = ints (l.set k x) := by rw [ints, ints, List.map_set]
theorem mem_orbTo {a b : Int} {l : List Int} {w v : Wk} {k : Nat} : v ∈ orbTo a b l w k ↔ ∃ j, j < k ∧ v = itr (stp a b l) j w := by
  unfold orbTo
  rw [List.mem_map]
  constructor
  · rintro ⟨j, hj, rfl⟩; exact ⟨j, List.mem_range.1 hj, rfl⟩
  · rintro ⟨j, hj, rfl⟩; exact ⟨j, List.mem_range.2 hj, rfl⟩
theorem trace_at {a b : Int} {l : List Int} {K : Nat} {ow : List Int} {cs : List (List Wk)} (h : TI a b l K ow cs) (hs : SizeOk a b) (hK : K < segN a b) (hk : ow.getD K 0 < 0) {i : Nat} (hi : i ≤ per a b l (wkAt b K)) :
    ((paint b cs.length ow (orbTo a b l (wkAt b K) i)).getD (sg b (itr (stp a b l) i (wkAt b K))).toNat 0 < 0 → i < per a b l (wkAt b K)) ∧
    (¬ (paint b cs.length ow (orbTo a b l (wkAt b K) i)).getD (sg b (itr (stp a b l) i (wkAt b K))).toNat 0 < 0 → i = per a b l (wkAt b K)) := by
  obtain ⟨ha, _, hb, _⟩ := hs
  have hn := segN_pos ha hb
  obtain ⟨hw, hsK⟩ := wkAt_spec (a := a) (k := (K : Int)) hb (by omega) (by omega)
  obtain ⟨p1, p2, p3, p4⟩ := per_spec (l := l) ha hb hw
  rcases Nat.lt_or_ge i (per a b l (wkAt b K)) with h1 | h1
  · have e : (paint b cs.length ow (orbTo a b l (wkAt b K) i)).getD (sg b (itr (stp a b l) i (wkAt b K))).toNat 0 = ow.getD (sg b (itr (stp a b l) i (wkAt b K))).toNat 0 := paint_out (fun v hv e => by
      obtain ⟨j, hj, rfl⟩ := mem_orbTo.1 hv
      have b1 := sg_bd (VW_itr (l := l) ha hb hw j)
      have b2 := sg_bd (VW_itr (l := l) ha hb hw i)
      exact per_sg ha hb hw hj h1 (by omega))
    have := h.unowned ha hb hK hk i
    rw [e]
    exact ⟨fun _ => h1, fun hh => absurd this hh⟩
  · have ei : i = per a b l (wkAt b K) := by omega
    subst ei
    have b1 := sg_bd hw
    have e : (paint b cs.length ow (orbTo a b l (wkAt b K) (per a b l (wkAt b K)))).getD (sg b (itr (stp a b l) (per a b l (wkAt b K)) (wkAt b K))).toNat 0 = cs.length := by
      rw [p1]
      exact paint_in (by rw [h.len]; omega) ⟨wkAt b K, mem_orbTo.2 ⟨0, by omega, rfl⟩, rfl⟩
    rw [e]
    exact ⟨fun hh => by omega, fun _ => rfl⟩
theorem VW_at {a b : Int} {l : List Int} {K : Nat} (hs : SizeOk a b) (hK : K < segN a b) (i : Nat) : VW a b (itr (stp a b l) i (wkAt b K)) ∧ 0 ≤ sg b (itr (stp a b l) i (wkAt b K)) ∧ sg b (itr (stp a b l) i (wkAt b K)) < segN a b := by
  obtain ⟨ha, _, hb, _⟩ := hs
  have hn := segN_pos ha hb
  obtain ⟨hw, hsK⟩ := wkAt_spec (a := a) (k := (K : Int)) hb (by omega) (by omega)
  have h1 := VW_itr (l := l) ha hb hw i
  have h2 := sg_bd h1
  exact ⟨h1, h2.1, by omega⟩
theorem per_at {a b : Int} {l : List Int} {w : Wk} (hs : SizeOk a b) (hw : VW a b w) : itr (stp a b l) (per a b l w) w = w ∧ 1 ≤ per a b l w ∧ per a b l w ≤ segN a b ∧ ∀ j, 1 ≤ j → j < per a b l w → itr (stp a b l) j w ≠ w := per_spec hs.1 hs.2.2.1 hw
theorem orb_eq (a b : Int) (l : List Int) (w : Wk) : orb a b l w = orbTo a b l w (per a b l w) := rfl

set_option maxRecDepth 4000 in
/-- (impl.Panel).trace -/
theorem f_i_Panel_trace (w : World) (a : Int) (b : Int) (v : Value) (l : List Int) (hv : Rd w v 1 l.length (ints l)) (hk : okP a b l = true) : Ret Try.prog 97 [.agg #[.int .i64 a, .int .i64 b, v]] w (fun u L => ∃ x y us, us.length = cnt a b l ∧ u = .tuple #[x, y] ∧ L = .row 2 1 y (segN a b) (ints (ownL a b l)) :: .row 105 1 x (cnt a b l) us :: innerG 167 4 encW us (curL a b l)) := by
  have hs := okP_size hk
  obtain ⟨hs1, hs2, hs3, hs4⟩ := id hs
  have hsl := segN_le hs
  refine Ret.enter Try.func97 rfl Try.ntmps97 rfl ?_
  refine Run.seq ?_
  refine Run.region ?_
  refine Ops.go rfl (Loud.box rfl rfl) ?_
  rintro _ _ ⟨b1, rfl, rfl⟩
  refine Ops.pure rfl (Pure.assign rfl) ?_
  refine Ops.pure rfl (Pure.assign rfl) ?_
  refine Ops.nil ?_
  refine Run.seq ?_
  refine Run.region ?_
  refine Ops.go rfl (Loud.lit sl102 rfl rfl rfl (by simp [Value.oneCell'])) ?_
  rintro v10 _ rfl
  refine Ops.pure rfl (Pure.assign rfl) ?_
  refine Ops.nil ?_
  refine Run.seq ?_
  refine Run.region ?_
  refine Ops.pure rfl (Pure.ldBA 1 rfl cell35 rfl rfl rfl) ?_
  refine Ops.q rfl (QOp.call fn154 rfl (fun w hw => f_i_Panel_segments w _ _ _ (by assumption))) ?_
  refine Ops.go rfl (Loud.makeI sl32 rfl rfl (by omega) (by omega) (by omega)) ?_
  rintro v13 _ rfl
  refine Ops.pure rfl (Pure.assign rfl) ?_
  refine Ops.nil ?_
  refine Run.seq ?_
  refine Run.seq ?_
  refine Run.region ?_
  refine Ops.pure rfl (Pure.move rfl) ?_
  refine Ops.pure rfl (Pure.len sl32 (RdL.own 0 rfl) rfl) ?_
  refine Ops.pure rfl (Pure.move rfl) ?_
  refine Ops.nil ?_
  refine Run.block ?_
  refine Run.loop (X := Nat) (fun k => [(1, .pointer (some ⟨b1, 0, none⟩)), (4, v10), (5, v13), (15, .int .i64 (segN a b)), (16, .int .i64 k)]) (fun k => [.row 2 1 v13 (segN a b) (ints (initO (segN a b) k)), .row 105 1 v10 0 [], .box b1 35 [.int .i64 a, .int .i64 b, v]]) (fun k => k ≤ segN a b) (fun k => segN a b - k) 0 ?_ ?_ ?_ ?_
  · exact Nat.zero_le _
  · exact ⟨rfl, rfl, rfl, rfl, rfl, trivial⟩
  · exact Ext.eq (by unfold initO; rw [Nat.sub_zero, show List.replicate 0 (-1 : Int) = [] from rfl, List.nil_append, ints_rep]; rw [made_one _ rfl]; rfl)
  · intro k hinv0
    have hil : (ints (initO (segN a b) k)).length = segN a b := by rw [ints, List.length_map]; exact length_initO hinv0
    refine Run.seq ?_
    refine Run.region ?_
    refine Ops.pure rfl (Pure.lss rfl rfl) ?_
    refine Ops.nil ?_
    refine Run.seq ?_
    refine Run.cond rfl (fun c17 => ?_) (fun c17 => ?_)
    · skip
      replace c17 := dT c17
      refine Run.skip ?_
      refine Run.seq ?_
      refine Run.block ?_
      refine Run.seq ?_
      refine Run.region ?_
      refine Ops.pure rfl (Pure.move rfl) ?_
      refine Ops.pure rfl (Pure.assign rfl) ?_
      refine Ops.nil ?_
      refine Run.region ?_
      refine Ops.pure rfl (Pure.move rfl) ?_
      refine Ops.pure rfl (Pure.move rfl) ?_
      refine Ops.pure rfl (Pure.idx1N sl32 (RdL.own 0 rfl) rfl rfl (by first | assumption | omega | (simp; omega))) ?_
      refine Ops.store (Stores.row1 0 rfl size2 rfl rfl rfl (by first | assumption | omega | (simp; omega))) ?_
      refine Ops.nil ?_
      refine Run.blk ?_
      refine Run.region ?_
      refine Ops.pure rfl (Pure.add rfl rfl (by omega) (by omega)) ?_
      refine Ops.pure rfl (Pure.move rfl) ?_
      refine Ops.nil ?_
      refine Run.asrt ?_
      exact ⟨k + 1, ⟨by omega, by omega⟩, ⟨rfl, rfl, rfl, rfl, rfl, trivial⟩, Ext.eq (by rw [← initO_step (by omega)]; rfl)⟩
    · skip
      replace c17 := dF c17
      refine Run.exit rfl ?_
      refine Run.seq ?_
      refine Run.seq ?_
      refine Run.region ?_
      refine Ops.pure rfl (Pure.ldBA 2 rfl cell35 rfl rfl rfl) ?_
      refine Ops.q rfl (QOp.call fn154 rfl (fun w hw => f_i_Panel_segments w _ _ _ (by assumption))) ?_
      refine Ops.pure rfl (Pure.move rfl) ?_
      refine Ops.nil ?_
      refine Run.block ?_
      refine Run.loop3 (X := Nat) (Y := Value) (Z := List Value) (fun k vc us => [(1, .pointer (some ⟨b1, 0, none⟩)), (4, vc), (5, v13), (24, .int .i64 (4 * a * b)), (25, .int .i64 k)]) (fun k vc us => .row 2 1 v13 (segN a b) (ints ((tr a b l k).1)) :: .row 105 1 vc (tr a b l k).2.length us :: .box b1 35 [.int .i64 a, .int .i64 b, v] :: innerG 167 4 encW us (tr a b l k).2) (fun k vc us => k ≤ segN a b ∧ us.length = (tr a b l k).2.length) (fun k vc us => segN a b - k) 0 v10 [] ?_ ?_ ?_ ?_
      · exact ⟨Nat.zero_le _, rfl⟩
      · exact ⟨rfl, rfl, rfl, rfl, rfl, trivial⟩
      · exact Ext.eq (by rw [show k = segN a b by omega, initO_full]; rfl)
      · intro k vc us hinv1
        obtain ⟨hk1, hus⟩ := hinv1
        refine Run.seq ?_
        refine Run.region ?_
        refine Ops.pure rfl (Pure.lss rfl rfl) ?_
        refine Ops.nil ?_
        refine Run.seq ?_
        refine Run.cond rfl (fun c26 => ?_) (fun c26 => ?_)
        · skip
          replace c26 := dT c26
          refine Run.skip ?_
          refine Run.seq ?_
          refine Run.block ?_
          refine Run.seq ?_
          have hTI := tr_TI (l := l) hs1 hs3 k (by omega)
          have hlo : (ints (tr a b l k).1).length = segN a b := by rw [ints, List.length_map]; exact hTI.len
          have hlo2 := hTI.len
          have hcn := hTI.cnt
          refine Run.region ?_
          refine Ops.pure rfl (Pure.move rfl) ?_
          refine Ops.pure rfl (Pure.assign rfl) ?_
          refine Ops.nil ?_
          refine Run.seq ?_
          refine Run.seq ?_
          refine Run.region ?_
          refine Ops.pure rfl (Pure.move rfl) ?_
          refine Ops.pure rfl (Pure.move rfl) ?_
          refine Ops.pure rfl (Pure.idx1N sl32 (RdL.own 0 rfl) rfl rfl (by first | assumption | omega | (simp; omega))) ?_
          refine Ops.pure rfl (Pure.ld cell2 rfl (RdL.own 0 rfl) (by first | exact ints_get (by omega) | exact bools_get (by omega) | exact strs_get (by omega) | exact vals_get (by first | omega | (simp; omega)))) ?_
          refine Ops.pure rfl (Pure.geq rfl rfl) ?_
          refine Ops.nil ?_
          refine Run.cond rfl (fun c32 => ?_) (fun c32 => ?_)
          · skip
            replace c32 := dT c32
            refine Run.exit rfl ?_
            refine Run.region ?_
            refine Ops.pure rfl (Pure.add rfl rfl (by omega) (by omega)) ?_
            refine Ops.pure rfl (Pure.move rfl) ?_
            refine Ops.nil ?_
            refine Run.asrt ?_
            first
              | exact ⟨k + 1, vc, us, ⟨⟨by omega, by rw [tr_keep c32]; exact hus⟩, by omega⟩, ⟨rfl, rfl, rfl, rfl, rfl, trivial⟩, Ext.eq (by rw [tr_keep c32])⟩
              | (refine ⟨k + 1, v65, us ++ [vw], ⟨⟨by omega, by rw [tr_add c32, List.length_append, List.length_append, hus]; rfl⟩, by omega⟩, ⟨rfl, rfl, rfl, rfl, rfl, trivial⟩, ?_⟩
                 rw [tr_add c32, orb_eq, ← hper]
                 refine Ext.take 3 rfl (Ext.take 3 (by rw [List.length_append]; rfl) (Ext.take 3 rfl ?_))
                 rw [innerG_snoc hus, length_orbTo]
                 exact Ext.snoc2 _ _ _ _)
          · skip
            replace c32 := dF c32
            refine Run.skip ?_
            refine Run.seq ?_
            refine Run.region ?_
            refine Ops.go rfl (Loud.lit0 sl105) ?_
            rintro v33 _ rfl
            refine Ops.pure rfl (Pure.assign rfl) ?_
            refine Ops.nil ?_
            refine Run.seq ?_
            refine Run.seq ?_
            refine Run.region ?_
            refine Ops.pure rfl (Pure.ldBA 3 rfl cell35 rfl rfl rfl) ?_
            refine Ops.pure rfl (Pure.move rfl) ?_
            refine Ops.q rfl (QOp.call fn172 rfl (fun w hw => f_i_Panel_walker w _ _ _ _ (by assumption) (by omega) (by omega))) ?_
            refine Ops.go rfl (Loud.alloc zero167 rfl) ?_
            rintro _ _ ⟨b9, rfl, rfl⟩
            refine Ops.store (Stores.box 0 rfl rfl rfl size167 (allOne rfl) rfl rfl) ?_
            refine Ops.nil ?_
            refine Run.block ?_
            refine Run.loop3 (X := Nat) (Y := Value) (Z := Nat) (fun i vw bw => [(1, .pointer (some ⟨b1, 0, none⟩)), (4, vc), (5, v13), (8, vw), (9, .pointer (some ⟨bw, 0, none⟩)), (24, .int .i64 (4 * a * b)), (25, .int .i64 k)]) (fun i vw bw => .row 167 4 vw i ((orbTo a b l (wkAt b k) i).flatMap encW) :: .box bw 167 (encW (itr (stp a b l) i (wkAt b k))) :: .row 2 1 v13 (segN a b) (ints (paint b (tr a b l k).2.length (tr a b l k).1 (orbTo a b l (wkAt b k) i))) :: .row 105 1 vc (tr a b l k).2.length us :: .box b1 35 [.int .i64 a, .int .i64 b, v] :: innerG 167 4 encW us (tr a b l k).2) (fun i vw bw => i ≤ per a b l (wkAt b k)) (fun i vw bw => per a b l (wkAt b k) - i) 0 v33 b9 ?_ ?_ ?_ ?_
            · exact Nat.zero_le _
            · exact ⟨rfl, rfl, rfl, rfl, rfl, rfl, rfl, trivial⟩
            · exact Ext.take 1 rfl (Ext.take 0 rfl (Ext.refl _))
            · intro i vw bw hinv2
              have hat := trace_at hTI hs (by omega) (by omega) hinv2
              obtain ⟨hvi, hs0, hsN⟩ := VW_at (l := l) (K := k) hs (by omega) i
              have hpl : (ints (paint b (tr a b l k).2.length (tr a b l k).1 (orbTo a b l (wkAt b k) i))).length = segN a b := by rw [ints, List.length_map, length_paint]; exact hTI.len
              have hpl2 : (paint b (tr a b l k).2.length (tr a b l k).1 (orbTo a b l (wkAt b k) i)).length = segN a b := by rw [length_paint]; exact hTI.len
              have hpb : per a b l (wkAt b k) ≤ segN a b := (per_at (l := l) hs (show VW a b (wkAt b k) from (VW_at (l := l) (K := k) hs (by omega) 0).1)).2.2.1
              refine Run.seq ?_
              refine Run.seq ?_
              refine Run.region ?_
              refine Ops.pure rfl (Pure.move rfl) ?_
              refine Ops.pure rfl (Pure.ldBA 4 rfl cell35 rfl rfl rfl) ?_
              refine Ops.pure rfl (Pure.ldBA 1 rfl cell167 rfl rfl rfl) ?_
              refine Ops.q rfl (QOp.call fn173 rfl (fun w hw => (f_i_Panel_segment w a b v _ _ _ _ hs hvi).cong (show _ = Value.int .i64 (sg b (itr (stp a b l) i (wkAt b k))) from rfl))) ?_
              refine Ops.pure rfl (Pure.idx1 sl32 (RdL.own 2 rfl) rfl rfl (by first | assumption | omega | (simp; omega)) (by first | assumption | omega | (simp; omega))) ?_
              refine Ops.pure rfl (Pure.ld cell2 rfl (RdL.own 2 rfl) (by first | exact ints_get (by omega) | exact bools_get (by omega) | exact strs_get (by omega) | exact vals_get (by first | omega | (simp; omega)))) ?_
              refine Ops.pure rfl (Pure.lss rfl rfl) ?_
              refine Ops.nil ?_
              refine Run.cond rfl (fun c43 => ?_) (fun c43 => ?_)
              · skip
                replace c43 := dT c43
                have hilt := hat.1 c43
                refine Run.skip ?_
                refine Run.seq ?_
                refine Run.block ?_
                refine Run.seq ?_
                refine Run.region ?_
                refine Ops.pure rfl (Pure.move rfl) ?_
                refine Ops.pure rfl (Pure.ldBA 4 rfl cell35 rfl rfl rfl) ?_
                refine Ops.pure rfl (Pure.ldBA 1 rfl cell167 rfl rfl rfl) ?_
                refine Ops.q rfl (QOp.call fn173 rfl (fun w hw => (f_i_Panel_segment w a b v _ _ _ _ hs hvi).cong (show _ = Value.int .i64 (sg b (itr (stp a b l) i (wkAt b k))) from rfl))) ?_
                refine Ops.pure rfl (Pure.move rfl) ?_
                refine Ops.pure rfl (Pure.len sl102 (RdL.own 3 rfl) rfl) ?_
                refine Ops.pure rfl (Pure.idx1 sl32 (RdL.own 2 rfl) rfl rfl (by first | assumption | omega | (simp; omega)) (by first | assumption | omega | (simp; omega))) ?_
                refine Ops.store (Stores.row1 2 rfl size2 rfl rfl rfl (by first | assumption | omega | (simp; omega))) ?_
                refine Ops.nil ?_
                refine Run.region ?_
                refine Ops.pure rfl (Pure.move rfl) ?_
                refine Ops.pure rfl (Pure.ldBA 1 rfl cell167 rfl rfl rfl) ?_
                refine Ops.go rfl (Loud.litA sl105 rfl rfl rfl) ?_
                rintro v59 _ rfl
                refine Ops.go rfl (Loud.append 1 rfl sl105 rfl rfl (RdL.own 0 rfl) (by simp [Value.oneCell']) (by omega) (by omega)) ?_
                rintro v60 _ rfl
                refine Ops.pure rfl (Pure.assign rfl) ?_
                refine Ops.nil ?_
                refine Run.blk ?_
                refine Run.seq ?_
                refine Run.seq ?_
                refine Run.region ?_
                refine Ops.pure rfl (Pure.ldBA 2 rfl cell167 rfl rfl rfl) ?_
                refine Ops.nil ?_
                refine Run.region ?_
                refine Ops.go rfl (Loud.alloc zero167 rfl) ?_
                rintro _ _ ⟨b9, rfl, rfl⟩
                refine Ops.store (Stores.box 0 rfl rfl rfl size167 (allOne rfl) rfl rfl) ?_
                refine Ops.nil ?_
                refine Run.region ?_
                refine Ops.pure rfl (Pure.ldBA 6 rfl cell35 rfl rfl rfl) ?_
                refine Ops.pure rfl (Pure.ldBA 0 rfl cell167 rfl rfl rfl) ?_
                refine Ops.go rfl (Loud.callR fn174 rfl (fun w hw => (f_i_Panel_step w a b v l _ _ _ _ (RdL.old hv w hw) hk hvi))) ?_
                rintro v47 _ ⟨L47, hQ47, rfl⟩
                obtain ⟨f47, rfl, rfl⟩ := hQ47
                refine Ops.pure rfl (Pure.move rfl) ?_
                refine Ops.pure rfl (Pure.extract rfl rfl) ?_
                refine Ops.pure rfl (Pure.extract rfl rfl) ?_
                refine Ops.store (Stores.box 0 rfl rfl rfl size167 (allOne rfl) rfl rfl) ?_
                refine Ops.nil ?_
                refine Run.asrt ?_
                refine ⟨i + 1, v60, b9, ⟨by have := hat.1 c43; omega, by have := hat.1 c43; omega⟩, ⟨rfl, rfl, rfl, rfl, rfl, rfl, rfl, trivial⟩, ?_⟩
                rw [orbTo_succ, paint_snoc, List.flatMap_append, ← ints_setI]
                refine Ext.take 2 rfl (Ext.take 0 rfl (Ext.take 2 rfl (Ext.take 2 rfl (Ext.take 2 rfl (Ext.right [_, _] _)))))
              · skip
                replace c43 := dF c43
                have hper := hat.2 c43
                refine Run.exit rfl ?_
                refine Run.have_ (fun w hw => row_one 0 hw rfl) (fun hvw => ?_)
                refine Run.region ?_
                refine Ops.pure rfl (Pure.move rfl) ?_
                refine Ops.pure rfl (Pure.move rfl) ?_
                refine Ops.go rfl (Loud.lit sl102 rfl rfl rfl (by simp [hvw])) ?_
                rintro v64 _ rfl
                refine Ops.go rfl (Loud.append 4 rfl sl102 rfl rfl (RdL.own 0 rfl) (by simp [hvw]) (by omega) (by omega)) ?_
                rintro v65 _ rfl
                refine Ops.pure rfl (Pure.assign rfl) ?_
                refine Ops.nil ?_
                refine Run.blk ?_
                refine Run.region ?_
                refine Ops.pure rfl (Pure.add rfl rfl (by omega) (by omega)) ?_
                refine Ops.pure rfl (Pure.move rfl) ?_
                refine Ops.nil ?_
                refine Run.asrt ?_
                first
                  | exact ⟨k + 1, vc, us, ⟨⟨by omega, by rw [tr_keep c32]; exact hus⟩, by omega⟩, ⟨rfl, rfl, rfl, rfl, rfl, trivial⟩, Ext.eq (by rw [tr_keep c32])⟩
                  | (refine ⟨k + 1, v65, us ++ [vw], ⟨⟨by omega, by rw [tr_add c32, List.length_append, List.length_append, hus]; rfl⟩, by omega⟩, ⟨rfl, rfl, rfl, rfl, rfl, trivial⟩, ?_⟩
                     rw [tr_add c32, orb_eq, ← hper]
                     refine Ext.take 3 rfl (Ext.take 3 (by rw [List.length_append]; rfl) (Ext.take 3 rfl ?_))
                     rw [innerG_snoc hus, length_orbTo]
                     exact Ext.snoc2 _ _ _ _)
        · skip
          replace c26 := dF c26
          refine Run.exit rfl ?_
          refine Run.seq ?_
          refine Run.region ?_
          refine Ops.pure rfl (Pure.move rfl) ?_
          refine Ops.pure rfl (Pure.move rfl) ?_
          refine Ops.pure rfl (Pure.assign rfl) ?_
          refine Ops.pure rfl (Pure.assign rfl) ?_
          refine Ops.nil ?_
          have e : k = segN a b := by omega
          subst e
          refine Run.ext_ (Ext.take 0 rfl (Ext.take 0 rfl (Ext.right [_] _))) ?_
          refine Run.ret2 rfl rfl rfl ?_
          exact ⟨_, _, us, hus, rfl, rfl⟩

set_option maxRecDepth 4000 in
/-- impl.countCurves -/
theorem f_i_countCurves (w : World) (a : Int) (b : Int) (v : Value) (l : List Int) (hv : Rd w v 1 l.length (ints l)) (hk : okP a b l = true) : RetV Try.prog 121 [.agg #[.int .i64 a, .int .i64 b, v]] w (.int .i64 (cnt a b l : Int)) := by
  refine Ret.enter Try.func121 rfl Try.ntmps121 rfl ?_
  refine Run.seq ?_
  refine Run.region ?_
  refine Ops.go rfl (Loud.box rfl rfl) ?_
  rintro _ _ ⟨b1, rfl, rfl⟩
  refine Ops.pure rfl (Pure.assign rfl) ?_
  refine Ops.nil ?_
  refine Run.seq ?_
  refine Run.region ?_
  refine Ops.pure rfl (Pure.ldBA 0 rfl cell35 rfl rfl rfl) ?_
  refine Ops.go rfl (Loud.callR fn97 rfl (fun w hw => f_i_Panel_trace w _ _ _ _ (by exact RdL.old (by assumption) w hw) (by assumption))) ?_
  rintro v7 _ ⟨L7, hQ7, rfl⟩
  obtain ⟨x7, y7, us7, hus7, rfl, rfl⟩ := hQ7
  refine Ops.pure rfl (Pure.move rfl) ?_
  refine Ops.pure rfl (Pure.extract rfl rfl) ?_
  refine Ops.pure rfl (Pure.extract rfl rfl) ?_
  refine Ops.pure rfl (Pure.assign rfl) ?_
  refine Ops.pure rfl (Pure.assign rfl) ?_
  refine Ops.nil ?_
  refine Run.seq ?_
  refine Run.region ?_
  refine Ops.pure rfl (Pure.move rfl) ?_
  refine Ops.pure rfl (Pure.len sl102 (RdL.own 1 rfl) rfl) ?_
  refine Ops.pure rfl (Pure.assign rfl) ?_
  refine Ops.nil ?_
  refine Run.ret1 rfl rfl ?_
  rfl

end Go.Proofs.Ytmfinopdokkjcaa
