/- Contracts of functions, printed by program from annotations. -/
import Derived.Test.YtkplanpcmkbfiaaCrsM
import Derived.Test.YtkplanpcmkbfiaaDrw2
import Derived.Test.YtkplanpcmkbfiaaPtL
import Derived.Test.YtkplanpcmkbfiaaPss2
namespace Go.Proofs.Ytkplanpcmkbfiaa
open Go Go.AW Go.RowKit
set_option linter.unusedVariables false
set_option linter.unusedSimpArgs false

theorem zeros_get {l : List Int} : ∀ {n j : Nat}, j < n → l.getD j 0 = 0 → (zeros l n).getD (zlen l j) 0 = (j : Int)
  | 0, _, h, _ => absurd h (Nat.not_lt_zero _)
  | n + 1, j, h, h0 => by
    rcases Nat.lt_or_ge j n with h1 | h1
    · have h2 := zlen_mono (l := l) (i := j + 1) (j := n) h1
      rw [zlen_yes h0] at h2
      by_cases hn : l.getD n 0 = 0
      · rw [zeros_yes hn, getD_app (by exact h2)]
        exact zeros_get h1 h0
      · rw [zeros_no hn]
        exact zeros_get h1 h0
    · have e : j = n := by omega
      subst e
      rw [zeros_yes h0]
      unfold zlen
      simp only [List.getD, List.getElem?_append_right (Nat.le_refl _), Nat.sub_self, List.getElem?_cons_zero, Option.getD_some]
/-- the k-th crossing -/
theorem cross_at {a b : Int} {l : List Int} (hk : okP a b l = true) {k : Nat} (h : k < (zeros l l.length).length) : ∃ j : Nat, j < l.length ∧ (zeros l l.length).getD k 0 = (j : Int) ∧ PtOk a b (ptX a j) (ptY a j) ∧ CrAt a b l (ptX a j) (ptY a j) ∧ zlen l (num a (ptX a j) (ptY a j)).toNat = k := by
  obtain ⟨j, h1, h2, h3⟩ := zlen_find (l := l) (n := l.length) (x := k) h
  have hs := okP_size hk
  have hli := okP_inn hk
  obtain ⟨p1, p2, p3⟩ := pt_spec (k := (j : Int)) hs (by omega) (by omega)
  refine ⟨j, h1, by rw [← h3]; exact zeros_get h1 h2, p1, ⟨p2, by rw [p3, Int.toNat_natCast]; exact h2⟩, by rw [p3, Int.toNat_natCast]; exact h3⟩
theorem slp_out {x : Int} (h : (!decide (slp x = 1)) = true) : (!decide (slp x = -1)) = false := by
  rcases slp_bd x with e | e
  · rw [e] at h; exact absurd h (by decide)
  · rw [e]; rfl
theorem preP_up {a b : Int} {l : List Int} (c : Nat) : ∀ d, c + d ≤ cnt a b l → (preP a b l c).Sublist (preP a b l (c + d))
  | 0, _ => List.Sublist.refl _
  | d + 1, h => by
    refine List.Sublist.trans (preP_up c d (by omega)) ?_
    rw [← Nat.add_assoc, preP_succ (by omega)]
    exact List.sublist_append_left ..
theorem preP_sub {a b : Int} {l : List Int} {c : Nat} (h : c ≤ cnt a b l) : (preP a b l c).Sublist (allP a b l) := by
  have h1 := preP_up (a := a) (b := b) (l := l) c (cnt a b l - c) (by omega)
  rwa [show c + (cnt a b l - c) = cnt a b l by omega, preP_all] at h1
theorem cntO_le {a b : Int} {l : List Int} (hk : okP a b l = true) {c j q : Nat} (hc : c < cnt a b l) (o : Bool) (hq : q < (zeros l l.length).length) : 0 ≤ (cntO (preP a b l c ++ (pasL a b l ((curL a b l).getD c [])).take j) o (zeros l l.length).length).getD q 0 ∧ (cntO (preP a b l c ++ (pasL a b l ((curL a b l).getD c [])).take j) o (zeros l l.length).length).getD q 0 ≤ 1 := by
  rw [cntO_get hq]
  have h1 := allP_count hk (x := q) hq o
  have h2 : (preP a b l c ++ (pasL a b l ((curL a b l).getD c [])).take j).Sublist (allP a b l) := by
    refine List.Sublist.trans ?_ (preP_sub (c := c + 1) hc)
    rw [preP_succ hc]
    exact List.Sublist.append_left (List.take_sublist ..) _
  have h3 := h2.count_le ((q : Int), o)
  omega

set_option maxRecDepth 4000 in
/-- spec.CountCurves -/
theorem f_s_CountCurves (w : World) (a : Int) (b : Int) (v : Value) (l : List Int) (hv : Rd w v 1 l.length (ints l)) (hl : l.length ≤ 1073741824) (hk : okP a b l = true) : RetV Try.prog 33 [.agg #[.int .i64 a, .int .i64 b, v]] w (.tuple #[.int .i64 (cnt a b l : Int), .int .i64 0]) := by
  have hs := okP_size hk
  obtain ⟨hs1, hs2, hs3, hs4⟩ := id hs
  refine Ret.enter Try.func33 rfl Try.ntmps33 rfl ?_
  refine Run.seq ?_
  refine Run.region ?_
  refine Ops.go rfl (Loud.box rfl rfl) ?_
  rintro _ _ ⟨b1, rfl, rfl⟩
  refine Ops.pure rfl (Pure.assign rfl) ?_
  refine Ops.pure rfl (Pure.assign rfl) ?_
  refine Ops.nil ?_
  refine Run.seq ?_
  refine Run.seq ?_
  refine Run.region ?_
  refine Ops.q rfl (QOp.call fn84 rfl (fun w hw => f_s_l02Ok w _ _ _ _ _ (by exact RdL.boxM 0 rfl rfl w hw) (by exact RdL.old (by assumption) w hw) (by assumption) (by omega) (by omega) (by omega) (by omega))) ?_
  refine Ops.pure rfl (Pure.not rfl) ?_
  refine Ops.nil ?_
  refine Run.condEF rfl ((by rw [hk]; rfl)) ?_
  refine Run.skip ?_
  refine Run.seq ?_
  refine Run.region ?_
  refine Ops.q rfl (QOp.call fn85 rfl (fun w hw => f_s_l04Count w _ _ _ _ _ (by exact RdL.boxM 0 rfl rfl w hw) (by exact RdL.old (by assumption) w hw) (by assumption))) ?_
  refine Ops.pure rfl (Pure.assign rfl) ?_
  refine Ops.pure rfl (Pure.assign rfl) ?_
  refine Ops.nil ?_
  refine Run.ret2 rfl rfl rfl ?_
  rfl

set_option maxRecDepth 4000 in
/-- spec.PointAt -/
theorem f_s_PointAt (w : World) (a : Int) (b : Int) (v : Value) (l : List Int) (k : Nat) (hv : Rd w v 1 l.length (ints l)) (hl : l.length ≤ 1073741824) (hk : okP a b l = true) (hkl : k < l.length) : RetV Try.prog 63 [.agg #[.int .i64 a, .int .i64 b, v], .int .i64 k] w (.tuple #[.agg #[.int .i64 (ptX a k), .int .i64 (ptY a k)], .int .i64 0]) := by
  have hs := okP_size hk
  obtain ⟨hs1, hs2, hs3, hs4⟩ := id hs
  have hli := okP_inn hk
  refine Ret.enter Try.func63 rfl Try.ntmps63 rfl ?_
  refine Run.seq ?_
  refine Run.region ?_
  refine Ops.go rfl (Loud.box rfl rfl) ?_
  rintro _ _ ⟨b2, rfl, rfl⟩
  refine Ops.go rfl (Loud.alloc zero55 rfl) ?_
  rintro _ _ ⟨b4, rfl, rfl⟩
  refine Ops.pure rfl (Pure.assign rfl) ?_
  refine Ops.nil ?_
  refine Run.seq ?_
  refine Run.seq ?_
  refine Run.region ?_
  refine Ops.q rfl (QOp.call fn84 rfl (fun w hw => f_s_l02Ok w _ _ _ _ _ (by exact RdL.boxM 1 rfl rfl w hw) (by exact RdL.old (by assumption) w hw) (by assumption) (by omega) (by omega) (by omega) (by omega))) ?_
  refine Ops.pure rfl (Pure.not rfl) ?_
  refine Ops.nil ?_
  refine Run.condEF rfl ((by rw [hk]; rfl)) ?_
  refine Run.skip ?_
  refine Run.seq ?_
  refine Run.seq ?_
  refine Run.region ?_
  refine Ops.pure rfl (Pure.move rfl) ?_
  refine Ops.pure rfl (Pure.fieldAddrB fld28_2 rfl) ?_
  refine Ops.pure rfl (Pure.ldB 1 rfl cell22 rfl rfl) ?_
  refine Ops.pure rfl (Pure.len sl22 (RdL.old hv) rfl) ?_
  refine Ops.pure rfl (Pure.sub rfl rfl (by omega) (by omega)) ?_
  refine Ops.q rfl (QOp.call fn121 rfl (fun w hw => f_s_l00In w _ _ _)) ?_
  refine Ops.pure rfl (Pure.not rfl) ?_
  refine Ops.nil ?_
  refine Run.condEF rfl ((by rw [decide_eq_true (by omega)]; rfl)) ?_
  refine Run.skip ?_
  refine Run.seq ?_
  refine Run.region ?_
  refine Ops.pure rfl (Pure.move rfl) ?_
  refine Ops.q rfl (QOp.call fn115 rfl (fun w hw => f_s_l02Point w _ a b v k (RdL.boxM 1 rfl rfl w hw) hs (by omega))) ?_
  refine Ops.store (Stores.box 0 rfl rfl rfl size55 (allOne rfl) rfl rfl) ?_
  refine Ops.pure rfl (Pure.assign rfl) ?_
  refine Ops.nil ?_
  refine Run.retC1x 0 rfl rfl rfl rfl cell55 rfl (Ext.nil _) ?_
  rfl

set_option maxRecDepth 4000 in
/-- laws.FnCrossings -/
theorem f_l_FnCrossings (w : World) (vc : Value) (co : List Int) (hc : Rd w vc 1 co.length (AW.bytes co)) (hcl : co.length ≤ 9223372036854775807) (hb : ∀ x ∈ co, 0 ≤ x ∧ x ≤ 255) : RetV Try.prog 12 [vc] w (.bool true) := by
  refine Ret.enter Try.func12 rfl Try.ntmps12 rfl ?_
  refine Run.seq ?_
  refine Run.region ?_
  refine Ops.pure rfl (Pure.assign rfl) ?_
  refine Ops.nil ?_
  refine Run.seq ?_
  refine Run.seq ?_
  refine Run.region ?_
  refine Ops.pure rfl (Pure.move rfl) ?_
  refine Ops.q rfl (QOp.call fn31 rfl (fun w hw => f_l_a2Long w vc _ _ _ 0 [] (RdL.old hc w hw) (Rd_nil w 1))) ?_
  refine Ops.nil ?_
  refine Run.cond rfl (fun c28 => ?_) (fun c28 => ?_)
  · skip
    replace c28 := dT c28
    refine Run.seq ?_
    refine Run.region ?_
    refine Ops.pure rfl (Pure.assign rfl) ?_
    refine Ops.nil ?_
    refine Run.ret1 rfl rfl ?_
    rfl
  · skip
    replace c28 := dF c28
    have hcl2 : co.length ≤ 1000000000 := by omega
    refine Run.skip ?_
    refine Run.seq ?_
    refine Run.region ?_
    refine Ops.pure rfl (Pure.move rfl) ?_
    refine Ops.go rfl (Loud.callR fn60 rfl (fun w hw => f_s_A2Panel w vc co (RdL.old hc w hw) hb hcl2)) ?_
    rintro v30 _ ⟨L30, hQ30, rfl⟩
    obtain ⟨a30, c30, l30, x30, ha30, hA30, hc30, hC30, hk30, h30, rfl, rfl⟩ := hQ30
    refine Ops.go rfl (Loud.alloc zero28 rfl) ?_
    rintro _ _ ⟨b3, rfl, rfl⟩
    refine Ops.store (Stores.box 0 rfl rfl rfl size28 (one3 h30) rfl rfl) ?_
    refine Ops.nil ?_
    refine Run.seq ?_
    have hs : SizeOk a30 c30 := okP_size hk30
    have hli := okP_inn hk30
    have hib := (inn_eq hs).2.1
    have hzl := length_zeros l30 l30.length
    have hsl := segN_le hs
    have hcp := cnt_pos (l := l30) hs.1 hs.2.2.1
    refine Run.region ?_
    refine Ops.pure rfl (Pure.ldBA 0 rfl cell28 rfl rfl rfl) ?_
    refine Ops.go rfl (Loud.callR fn61 rfl (fun w hw => f_i_CrossingsOf w a30 c30 x30 l30 (RdL.own 1 rfl w hw) (by omega) (by omega) (by omega) (by omega) (by omega))) ?_
    rintro v33 _ ⟨L33, hQ33, rfl⟩
    rw [(crC_ok hk30).1, (crC_ok hk30).2] at hQ33
    obtain ⟨x33, rfl, rfl⟩ := hQ33
    refine Ops.pure rfl (Pure.move rfl) ?_
    refine Ops.pure rfl (Pure.extract rfl rfl) ?_
    refine Ops.pure rfl (Pure.extract rfl rfl) ?_
    refine Ops.pure rfl (Pure.assign rfl) ?_
    refine Ops.pure rfl (Pure.assign rfl) ?_
    refine Ops.nil ?_
    refine Run.seq ?_
    refine Run.region ?_
    refine Ops.pure rfl (Pure.ldBA 1 rfl cell28 rfl rfl rfl) ?_
    refine Ops.q rfl (QOp.call fn33 rfl (fun w hw => f_s_CountCurves w a30 c30 x30 l30 (RdL.own 2 rfl w hw) (by omega) hk30)) ?_
    refine Ops.pure rfl (Pure.move rfl) ?_
    refine Ops.pure rfl (Pure.extract rfl rfl) ?_
    refine Ops.pure rfl (Pure.extract rfl rfl) ?_
    refine Ops.pure rfl (Pure.assign rfl) ?_
    refine Ops.pure rfl (Pure.assign rfl) ?_
    refine Ops.nil ?_
    refine Run.seq ?_
    refine Run.region ?_
    refine Ops.pure rfl (Pure.ldBA 1 rfl cell28 rfl rfl rfl) ?_
    refine Ops.go rfl (Loud.callR fn62 rfl (fun w hw => f_s_CrossingsOf w a30 c30 x30 l30 (RdL.own 2 rfl w hw) (by omega) (by omega) (by omega) (by omega) (by omega))) ?_
    rintro v43 _ ⟨L43, hQ43, rfl⟩
    rw [(crC_ok hk30).1, (crC_ok hk30).2] at hQ43
    obtain ⟨x43, rfl, rfl⟩ := hQ43
    refine Ops.pure rfl (Pure.move rfl) ?_
    refine Ops.pure rfl (Pure.extract rfl rfl) ?_
    refine Ops.pure rfl (Pure.extract rfl rfl) ?_
    refine Ops.pure rfl (Pure.assign rfl) ?_
    refine Ops.pure rfl (Pure.assign rfl) ?_
    refine Ops.nil ?_
    refine Run.seq ?_
    refine Run.seq ?_
    refine Run.region ?_
    refine Ops.pure rfl (Pure.move rfl) ?_
    refine Ops.pure rfl (Pure.neq rfl rfl) ?_
    refine Ops.pure rfl (Pure.move rfl) ?_
    refine Ops.guardY rfl rfl rfl (by simp) ?_
    refine Ops.pure rfl (Pure.move rfl) ?_
    refine Ops.guardY rfl rfl rfl (by simp) ?_
    refine Ops.pure rfl (Pure.neq rfl rfl) ?_
    refine Ops.pure rfl (Pure.pickF rfl (by simp) rfl) ?_
    refine Ops.pure rfl (Pure.move rfl) ?_
    refine Ops.guardY rfl rfl rfl (by simp) ?_
    refine Ops.pure rfl (Pure.move rfl) ?_
    refine Ops.guardY rfl rfl rfl (by simp) ?_
    refine Ops.pure rfl (Pure.len sl22 (RdL.own 1 rfl) rfl) ?_
    refine Ops.guardY rfl rfl rfl (by simp) ?_
    refine Ops.pure rfl (Pure.move rfl) ?_
    refine Ops.guardY rfl rfl rfl (by simp) ?_
    refine Ops.pure rfl (Pure.len sl22 (RdL.own 0 rfl) rfl) ?_
    refine Ops.guardY rfl rfl rfl (by simp) ?_
    refine Ops.pure rfl (Pure.neq rfl rfl) ?_
    refine Ops.pure rfl (Pure.pickF rfl (by simp) rfl) ?_
    refine Ops.nil ?_
    refine Run.condEF rfl (by simp) ?_
    refine Run.skip ?_
    refine Run.seq ?_
    refine Run.seq ?_
    refine Run.region ?_
    refine Ops.pure rfl (Pure.assign rfl) ?_
    refine Ops.nil ?_
    refine Run.block ?_
    refine Run.loop (X := Nat) (fun k => [(3, .pointer (some ⟨b3, 0, none⟩)), (4, x33), (6, .int .i64 (cnt a30 c30 l30 : Int)), (10, .int .i64 k)]) (fun k => [.box b3 28 [.int .i64 a30, .int .i64 c30, x30], .row 2 1 x33 (zeros l30 l30.length).length (ints (zeros l30 l30.length)), .row 2 1 x30 l30.length (ints l30)]) (fun k => k ≤ (zeros l30 l30.length).length) (fun k => (zeros l30 l30.length).length - k) 0 ?_ ?_ ?_ ?_
    · exact Nat.zero_le _
    · exact ⟨rfl, rfl, rfl, rfl, trivial⟩
    · exact Ext.take 2 rfl (Ext.take 1 rfl (Ext.take 1 rfl (Ext.nil _)))
    · intro k hinv0
      refine Run.seq ?_
      refine Run.seq ?_
      refine Run.region ?_
      refine Ops.pure rfl (Pure.move rfl) ?_
      refine Ops.pure rfl (Pure.move rfl) ?_
      refine Ops.pure rfl (Pure.len sl22 (RdL.own 1 rfl) rfl) ?_
      refine Ops.pure rfl (Pure.lss rfl rfl) ?_
      refine Ops.nil ?_
      refine Run.cond rfl (fun c62 => ?_) (fun c62 => ?_)
      · skip
        replace c62 := dT c62
        refine Run.skip ?_
        refine Run.seq ?_
        refine Run.block ?_
        refine Run.seq ?_
        obtain ⟨n, hn1, hn2, hn3, hn4, hn5⟩ := cross_at hk30 (show k < (zeros l30 l30.length).length by omega)
        have hcr0 := crE_ok hk30 hn3 hn4
        have hptb := ptOk_mid hs hn3
        refine Any.start follows ?_
        refine Any.take 0 rfl (by kernel_rfl) rfl (QOp.pure (Pure.ldBA 0 rfl cell28 rfl rfl rfl)) ?_
        refine Any.take 1 rfl (by kernel_rfl) rfl (QOp.pure (Pure.move rfl)) ?_
        refine Any.take 2 rfl (by kernel_rfl) rfl (QOp.pure (Pure.move rfl)) ?_
        refine Any.take 3 rfl (by kernel_rfl) rfl (QOp.pure (Pure.idx1N sl22 (RdL.own 1 rfl) rfl rfl (by first | assumption | omega | (simp; omega)))) ?_
        refine Any.take 4 rfl (by kernel_rfl) rfl (QOp.pure (Pure.ld cell2 rfl (RdL.own 1 rfl) (by first | exact ints_get (by omega) | exact bools_get (by omega) | exact strs_get (by omega) | exact vals_get (by first | omega | (simp; omega))))) ?_
        rw [hn2]
        refine Any.take 5 rfl (by kernel_rfl) rfl (QOp.call fn63 rfl (fun w hw => f_s_PointAt w a30 c30 x30 l30 n (RdL.own 2 rfl w hw) (by omega) hk30 hn1)) ?_
        refine Any.take 6 rfl (by kernel_rfl) rfl (QOp.pure (Pure.move rfl)) ?_
        refine Any.take 7 rfl (by kernel_rfl) rfl (QOp.pure (Pure.extract rfl rfl)) ?_
        refine Any.takeA 8 rfl (by kernel_rfl) rfl (fun _ => Pure.extract rfl rfl) ?_
        refine Any.one 9 (by kernel_rfl) ?_
        refine OneL.loud rfl rfl (Loud.alloc zero55 rfl) ?_
        rintro _ _ ⟨b11, rfl, rfl⟩
        refine ⟨.inr (by first | exact Ext.right _ _ | exact Ext.right [_] _ | exact Ext.refl _), ?_⟩
        refine Any.one 10 (by kernel_rfl) ?_
        refine OneL.store rfl (Stores.box 0 rfl rfl rfl size55 (allOne rfl) rfl rfl) (by kernel_rfl) ?_
        refine Any.take 11 rfl (by kernel_rfl) rfl (QOp.pure (Pure.assign rfl)) ?_
        refine Any.done (by kernel_rfl) ?_
        refine Run.seq ?_
        refine Run.region ?_
        refine Ops.pure rfl (Pure.ldBA 1 rfl cell28 rfl rfl rfl) ?_
        refine Ops.pure rfl (Pure.ldBA 0 rfl cell55 rfl rfl rfl) ?_
        refine Ops.q rfl (QOp.call fn64 rfl (fun w hw => (f_i_CrossingIndex w a30 c30 x30 l30 (ptX a30 n) (ptY a30 n) (RdL.own 3 rfl w hw) (by omega) (by omega) (by omega) (by omega) (by omega)).cong (show _ = Value.tuple #[.int .i64 (k : Int), .int .i64 0] by rw [ixE_ok hcr0, hcr0, hn5]))) ?_
        refine Ops.pure rfl (Pure.move rfl) ?_
        refine Ops.pure rfl (Pure.extract rfl rfl) ?_
        refine Ops.pure rfl (Pure.extract rfl rfl) ?_
        refine Ops.pure rfl (Pure.assign rfl) ?_
        refine Ops.pure rfl (Pure.assign rfl) ?_
        refine Ops.nil ?_
        refine Run.seq ?_
        refine Run.region ?_
        refine Ops.pure rfl (Pure.ldBA 1 rfl cell28 rfl rfl rfl) ?_
        refine Ops.pure rfl (Pure.ldBA 0 rfl cell55 rfl rfl rfl) ?_
        refine Ops.q rfl (QOp.call fn39 rfl (fun w hw => (f_i_OverSlope w a30 c30 x30 l30 (ptX a30 n) (ptY a30 n) (RdL.own 3 rfl w hw) (by omega) (by omega) (by omega) (by omega) (by omega)).cong (show _ = Value.tuple #[.int .i64 (slp (ptX a30 n)), .int .i64 0] by rw [slE_ok hcr0, hcr0]))) ?_
        refine Ops.pure rfl (Pure.move rfl) ?_
        refine Ops.pure rfl (Pure.extract rfl rfl) ?_
        refine Ops.pure rfl (Pure.extract rfl rfl) ?_
        refine Ops.pure rfl (Pure.assign rfl) ?_
        refine Ops.pure rfl (Pure.assign rfl) ?_
        refine Ops.nil ?_
        refine Run.seq ?_
        refine Run.region ?_
        refine Ops.pure rfl (Pure.move rfl) ?_
        refine Ops.pure rfl (Pure.neq rfl rfl) ?_
        refine Ops.pure rfl (Pure.move rfl) ?_
        refine Ops.guardY rfl rfl rfl (by simp) ?_
        refine Ops.pure rfl (Pure.move rfl) ?_
        refine Ops.guardY rfl rfl rfl (by simp) ?_
        refine Ops.pure rfl (Pure.neq rfl rfl) ?_
        refine Ops.pure rfl (Pure.pickF rfl (by simp) rfl) ?_
        refine Ops.pure rfl (Pure.move rfl) ?_
        refine Ops.guardY rfl rfl rfl (by simp) ?_
        refine Ops.pure rfl (Pure.move rfl) ?_
        refine Ops.guardY rfl rfl rfl (by simp) ?_
        refine Ops.pure rfl (Pure.move rfl) ?_
        refine Ops.guardY rfl rfl rfl (by simp) ?_
        refine Ops.pure rfl (Pure.neq rfl rfl) ?_
        refine Ops.pure rfl (Pure.pickF rfl (by simp) rfl) ?_
        refine Ops.pure rfl (Pure.move rfl) ?_
        refine Ops.guardY rfl rfl rfl (by simp) ?_
        refine Ops.pure rfl (Pure.move rfl) ?_
        refine Ops.guardY rfl rfl rfl (by simp) ?_
        refine Ops.pure rfl (Pure.neq rfl rfl) ?_
        refine Ops.pure rfl (Pure.pickF rfl (by simp) rfl) ?_
        refine Ops.pure rfl (Pure.move rfl) ?_
        refine Ops.guardY rfl rfl rfl (by simp) ?_
        refine Ops.pure rfl (Pure.move rfl) ?_
        refine Ops.guardY rfl rfl rfl (by simp) ?_
        refine Ops.pure rfl (Pure.neq rfl rfl) ?_
        refine Ops.guardY rfl rfl rfl (by simp) ?_
        refine Ops.pure rfl (Pure.move rfl) ?_
        refine Ops.guard rfl rfl rfl rfl (fun c104 => ?_) (fun c104 => ?_)
        · skip
          have c104' := nT c104
          refine Ops.pure rfl (Pure.move rfl) ?_
          refine Ops.guardY rfl rfl rfl c104 ?_
          refine Ops.pure rfl (Pure.neq rfl rfl) ?_
          refine Ops.guardY rfl rfl rfl (by simp) ?_
          refine Ops.pure rfl (Pure.pickT rfl c104 rfl) ?_
          refine Ops.pure rfl (Pure.pickF rfl (by simp) rfl) ?_
          refine Ops.pure rfl (Pure.move rfl) ?_
          refine Ops.guardY rfl rfl rfl (slp_out c104) ?_
          refine Ops.pure rfl (Pure.ldBA 1 rfl cell28 rfl rfl rfl) ?_
          refine Ops.guardY rfl rfl rfl (slp_out c104) ?_
          refine Ops.pure rfl (Pure.ldBA 0 rfl cell55 rfl rfl rfl) ?_
          refine Ops.guardY rfl rfl rfl (slp_out c104) ?_
          refine Ops.q rfl (QOp.call fn65 rfl (fun w hw => f_i_IsCrossing w a30 c30 x30 l30 (ptX a30 n) (ptY a30 n) (RdL.own 3 rfl w hw) (by omega) (by omega) (by omega) (by omega) (by omega))) ?_
          refine Ops.guardY rfl rfl rfl (slp_out c104) ?_
          refine Ops.pure rfl (Pure.not rfl) ?_
          refine Ops.pure rfl (Pure.pickF rfl (slp_out c104) rfl) ?_
          refine Ops.nil ?_
          refine Run.condEF rfl (by rw [decide_eq_true ⟨hk30, hn3, hn4⟩]; rfl) ?_
          refine Run.skip ?_
          refine Run.blk ?_
          refine Run.region ?_
          refine Ops.pure rfl (Pure.move rfl) ?_
          refine Ops.pure rfl (Pure.add rfl rfl (by omega) (by omega)) ?_
          refine Ops.pure rfl (Pure.assign rfl) ?_
          refine Ops.nil ?_
          refine Run.asrt ?_
          exact ⟨k + 1, ⟨by omega, by omega⟩, ⟨rfl, rfl, rfl, rfl, trivial⟩, Ext.right [_] _⟩
        · skip
          replace c104 := Bool.eq_false_of_ne c104
          have c104' := nF c104
          refine Ops.guardN rfl rfl rfl rfl (by rw [c104]; decide) ?_
          refine Ops.guardY rfl rfl rfl (by simp) ?_
          refine Ops.pure rfl (Pure.pickF rfl c104 rfl) ?_
          refine Ops.pure rfl (Pure.pickF rfl (by simp) rfl) ?_
          refine Ops.pure rfl (Pure.move rfl) ?_
          refine Ops.guardY rfl rfl rfl rfl ?_
          refine Ops.pure rfl (Pure.ldBA 1 rfl cell28 rfl rfl rfl) ?_
          refine Ops.guardY rfl rfl rfl rfl ?_
          refine Ops.pure rfl (Pure.ldBA 0 rfl cell55 rfl rfl rfl) ?_
          refine Ops.guardY rfl rfl rfl rfl ?_
          refine Ops.q rfl (QOp.call fn65 rfl (fun w hw => f_i_IsCrossing w a30 c30 x30 l30 (ptX a30 n) (ptY a30 n) (RdL.own 3 rfl w hw) (by omega) (by omega) (by omega) (by omega) (by omega))) ?_
          refine Ops.guardY rfl rfl rfl rfl ?_
          refine Ops.pure rfl (Pure.not rfl) ?_
          refine Ops.pure rfl (Pure.pickF rfl rfl rfl) ?_
          refine Ops.nil ?_
          refine Run.condEF rfl (by rw [decide_eq_true ⟨hk30, hn3, hn4⟩]; rfl) ?_
          refine Run.skip ?_
          refine Run.blk ?_
          refine Run.region ?_
          refine Ops.pure rfl (Pure.move rfl) ?_
          refine Ops.pure rfl (Pure.add rfl rfl (by omega) (by omega)) ?_
          refine Ops.pure rfl (Pure.assign rfl) ?_
          refine Ops.nil ?_
          refine Run.asrt ?_
          exact ⟨k + 1, ⟨by omega, by omega⟩, ⟨rfl, rfl, rfl, rfl, trivial⟩, Ext.right [_] _⟩
      · skip
        replace c62 := dF c62
        refine Run.exit rfl ?_
        refine Run.seq ?_
        refine Run.region ?_
        refine Ops.pure rfl (Pure.move rfl) ?_
        refine Ops.pure rfl (Pure.len sl22 (RdL.own 1 rfl) rfl) ?_
        refine Ops.go rfl (Loud.make sl22 rfl rfl (by omega) (by omega)) ?_
        rintro v117 _ rfl
        refine Ops.pure rfl (Pure.assign rfl) ?_
        refine Ops.nil ?_
        refine Run.seq ?_
        refine Run.region ?_
        refine Ops.pure rfl (Pure.move rfl) ?_
        refine Ops.pure rfl (Pure.len sl22 (RdL.own 2 rfl) rfl) ?_
        refine Ops.go rfl (Loud.make sl22 rfl rfl (by omega) (by omega)) ?_
        rintro v120 _ rfl
        refine Ops.pure rfl (Pure.assign rfl) ?_
        refine Ops.nil ?_
        refine Run.seq ?_
        refine Run.seq ?_
        refine Run.region ?_
        refine Ops.pure rfl (Pure.assign rfl) ?_
        refine Ops.nil ?_
        refine Run.block ?_
        refine Run.loop (X := Nat) (fun k => [(3, .pointer (some ⟨b3, 0, none⟩)), (4, x33), (6, .int .i64 (cnt a30 c30 l30 : Int)), (17, v117), (18, v120), (19, .int .i64 k)]) (fun k => [.row 2 1 v117 (zeros l30 l30.length).length (ints (cntO ((preP a30 c30 l30 k)) true (zeros l30 l30.length).length)), .row 2 1 v120 (zeros l30 l30.length).length (ints (cntO ((preP a30 c30 l30 k)) false (zeros l30 l30.length).length)), .box b3 28 [.int .i64 a30, .int .i64 c30, x30], .row 2 1 x33 (zeros l30 l30.length).length (ints (zeros l30 l30.length)), .row 2 1 x30 l30.length (ints l30)]) (fun k => k ≤ cnt a30 c30 l30) (fun k => cnt a30 c30 l30 - k) 0 ?_ ?_ ?_ ?_
        · exact Nat.zero_le _
        · exact ⟨rfl, rfl, rfl, rfl, rfl, rfl, trivial⟩
        · refine Ext.trans (Ext.eq ?_) (Ext.take 1 rfl (Ext.take 0 rfl (Ext.refl _)))
          rw [preP_zero, cntO_nil, cntO_nil, ints_rep, made_one _ rfl]
          rfl
        · intro k hinv1
          have hck : k < cnt a30 c30 l30 → 0 ≤ (k : Int) ∧ (k : Int) ≤ (cnt a30 c30 l30 : Int) - 1 := fun h => by omega
          refine Run.seq ?_
          refine Run.seq ?_
          refine Run.region ?_
          refine Ops.pure rfl (Pure.move rfl) ?_
          refine Ops.pure rfl (Pure.move rfl) ?_
          refine Ops.pure rfl (Pure.lss rfl rfl) ?_
          refine Ops.nil ?_
          refine Run.cond rfl (fun c123 => ?_) (fun c123 => ?_)
          · skip
            replace c123 := dT c123
            refine Run.skip ?_
            refine Run.seq ?_
            refine Run.block ?_
            refine Run.seq ?_
            have hkc : k < cnt a30 c30 l30 := by omega
            have hck := hck hkc
            have hcl3 : k < (curL a30 c30 l30).length := hkc
            have hhalf := cur_half hk30 hcl3
            have hpz := length_pasL a30 c30 l30 ((curL a30 c30 l30).getD k [])
            have hcz := cur_len (l := l30) hs hcl3
            refine Run.region ?_
            refine Ops.pure rfl (Pure.ldBA 2 rfl cell28 rfl rfl rfl) ?_
            refine Ops.pure rfl (Pure.move rfl) ?_
            refine Ops.go rfl (Loud.callR fn66 rfl (fun w hw => f_i_PassesOf w a30 c30 x30 l30 k (RdL.own 4 rfl w hw) (by omega) (by omega) (by omega) (by omega) (by omega) (by omega) (by omega))) ?_
            rintro v129 _ ⟨L129, hQ129, rfl⟩
            rw [(ps_ok hk30 hck).1, (ps_ok hk30 hck).2, Int.toNat_natCast] at hQ129
            obtain ⟨x129, rfl, rfl⟩ := hQ129
            refine Ops.pure rfl (Pure.move rfl) ?_
            refine Ops.pure rfl (Pure.extract rfl rfl) ?_
            refine Ops.pure rfl (Pure.extract rfl rfl) ?_
            refine Ops.pure rfl (Pure.assign rfl) ?_
            refine Ops.pure rfl (Pure.assign rfl) ?_
            refine Ops.nil ?_
            refine Run.seq ?_
            refine Run.region ?_
            refine Ops.pure rfl (Pure.ldBA 3 rfl cell28 rfl rfl rfl) ?_
            refine Ops.pure rfl (Pure.move rfl) ?_
            refine Ops.q rfl (QOp.call fn67 rfl (fun w hw => (f_i_CountOver w a30 c30 x30 l30 k (RdL.own 5 rfl w hw) (by omega) (by omega) (by omega) (by omega) (by omega) (by omega) (by omega)).cong (show _ = Value.tuple #[.int .i64 ((ovN (pasL a30 c30 l30 ((curL a30 c30 l30).getD k [])) (pasL a30 c30 l30 ((curL a30 c30 l30).getD k [])).length : Nat) : Int), .int .i64 0] by rw [(ps_ok hk30 hck).1, (ps_ok hk30 hck).2, Int.toNat_natCast]))) ?_
            refine Ops.pure rfl (Pure.move rfl) ?_
            refine Ops.pure rfl (Pure.extract rfl rfl) ?_
            refine Ops.pure rfl (Pure.extract rfl rfl) ?_
            refine Ops.pure rfl (Pure.assign rfl) ?_
            refine Ops.pure rfl (Pure.assign rfl) ?_
            refine Ops.nil ?_
            refine Run.seq ?_
            refine Run.seq ?_
            refine Run.region ?_
            refine Ops.pure rfl (Pure.move rfl) ?_
            refine Ops.pure rfl (Pure.neq rfl rfl) ?_
            refine Ops.pure rfl (Pure.move rfl) ?_
            refine Ops.guardY rfl rfl rfl (by simp) ?_
            refine Ops.pure rfl (Pure.move rfl) ?_
            refine Ops.guardY rfl rfl rfl (by simp) ?_
            refine Ops.pure rfl (Pure.neq rfl rfl) ?_
            refine Ops.pure rfl (Pure.pickF rfl (by simp) rfl) ?_
            refine Ops.pure rfl (Pure.move rfl) ?_
            refine Ops.guardY rfl rfl rfl (by simp) ?_
            refine Ops.pure rfl (Pure.move rfl) ?_
            refine Ops.guardY rfl rfl rfl (by simp) ?_
            refine Ops.pure rfl (Pure.mul rfl rfl (by omega) (by omega)) ?_
            refine Ops.guardY rfl rfl rfl (by simp) ?_
            refine Ops.pure rfl (Pure.move rfl) ?_
            refine Ops.guardY rfl rfl rfl (by simp) ?_
            refine Ops.pure rfl (Pure.len sl84 (RdL.own 0 rfl) rfl) ?_
            refine Ops.guardY rfl rfl rfl (by simp) ?_
            refine Ops.pure rfl (Pure.neq rfl rfl) ?_
            refine Ops.pure rfl (Pure.pickF rfl (by simp) rfl) ?_
            refine Ops.nil ?_
            refine Run.condEF rfl (by rw [decide_eq_true (by omega)]; rfl) ?_
            refine Run.skip ?_
            refine Run.seq ?_
            refine Run.region ?_
            refine Ops.pure rfl (Pure.assign rfl) ?_
            refine Ops.nil ?_
            refine Run.block ?_
            refine Run.loop (X := Nat) (fun j => [(3, .pointer (some ⟨b3, 0, none⟩)), (4, x33), (6, .int .i64 (cnt a30 c30 l30 : Int)), (17, v117), (18, v120), (19, .int .i64 k), (20, x129), (24, .int .i64 j)]) (fun j => [.row 2 1 v117 (zeros l30 l30.length).length (ints (cntO ((preP a30 c30 l30 k) ++ (pasL a30 c30 l30 ((curL a30 c30 l30).getD k [])).take j) true (zeros l30 l30.length).length)), .row 2 1 v120 (zeros l30 l30.length).length (ints (cntO ((preP a30 c30 l30 k) ++ (pasL a30 c30 l30 ((curL a30 c30 l30).getD k [])).take j) false (zeros l30 l30.length).length)), .row 89 2 x129 (pasL a30 c30 l30 ((curL a30 c30 l30).getD k [])).length (passes (pasL a30 c30 l30 ((curL a30 c30 l30).getD k []))), .box b3 28 [.int .i64 a30, .int .i64 c30, x30], .row 2 1 x33 (zeros l30 l30.length).length (ints (zeros l30 l30.length)), .row 2 1 x30 l30.length (ints l30)]) (fun j => j ≤ (pasL a30 c30 l30 ((curL a30 c30 l30).getD k [])).length) (fun j => (pasL a30 c30 l30 ((curL a30 c30 l30).getD k [])).length - j) 0 ?_ ?_ ?_ ?_
            · exact Nat.zero_le _
            · exact ⟨rfl, rfl, rfl, rfl, rfl, rfl, rfl, rfl, trivial⟩
            · refine Ext.trans (Ext.eq ?_) (Ext.take 1 rfl (Ext.take 1 rfl (Ext.take 0 rfl (Ext.refl _))))
              rw [List.take_zero, List.append_nil]
              rfl
            · intro j hinv2
              have hln : ∀ o, (ints (cntO ((preP a30 c30 l30 k) ++ (pasL a30 c30 l30 ((curL a30 c30 l30).getD k [])).take j) o (zeros l30 l30.length).length)).length = (zeros l30 l30.length).length := fun o => by rw [ints, List.length_map, length_cntO]
              have hl1 := hln true
              have hl0 := hln false
              have hm1 := length_cntO ((preP a30 c30 l30 k) ++ (pasL a30 c30 l30 ((curL a30 c30 l30).getD k [])).take j) true (zeros l30 l30.length).length
              have hm0 := length_cntO ((preP a30 c30 l30 k) ++ (pasL a30 c30 l30 ((curL a30 c30 l30).getD k [])).take j) false (zeros l30 l30.length).length
              refine Run.seq ?_
              refine Run.seq ?_
              refine Run.region ?_
              refine Ops.pure rfl (Pure.move rfl) ?_
              refine Ops.pure rfl (Pure.move rfl) ?_
              refine Ops.pure rfl (Pure.len sl84 (RdL.own 2 rfl) rfl) ?_
              refine Ops.pure rfl (Pure.lss rfl rfl) ?_
              refine Ops.nil ?_
              refine Run.cond rfl (fun c154 => ?_) (fun c154 => ?_)
              · skip
                replace c154 := dT c154
                refine Run.skip ?_
                refine Run.seq ?_
                refine Run.block ?_
                refine Run.seq ?_
                have hjP : j < (pasL a30 c30 l30 ((curL a30 c30 l30).getD k [])).length := by omega
                have hrg := pas_rng hk30 (cur_VW hs hcl3) (mem_getD (0, false) hjP)
                obtain ⟨q, hq⟩ := Int.eq_ofNat_of_zero_le hrg.1
                have hqz : q < (zeros l30 l30.length).length := by have := hrg.2; rw [hq] at this; exact Int.ofNat_lt.1 this
                obtain ⟨hb1, hb2⟩ := cntO_le hk30 (j := j) hkc true hqz
                obtain ⟨hb3, hb4⟩ := cntO_le hk30 (j := j) hkc false hqz
                refine Run.region ?_
                refine Ops.pure rfl (Pure.move rfl) ?_
                refine Ops.pure rfl (Pure.move rfl) ?_
                refine Ops.pure rfl (Pure.idxN sl84 (RdL.own 2 rfl) rfl rfl (by first | assumption | omega | (simp; omega))) ?_
                refine Ops.pure rfl (Pure.fieldAddr fld89_0 rfl (RdL.own 2 rfl) (by first | omega | (simp; omega))) ?_
                refine Ops.pure rfl (Pure.ld cell2 rfl (RdL.own 2 rfl) (fget encP_len (by omega) (0, false) rfl)) ?_
                refine Ops.pure rfl (Pure.assign rfl) ?_
                refine Ops.nil ?_
                refine Run.seq ?_
                refine Run.seq ?_
                rw [hq]
                refine Run.region ?_
                refine Ops.pure rfl (Pure.move rfl) ?_
                refine Ops.pure rfl (Pure.lss rfl rfl) ?_
                refine Ops.pure rfl (Pure.move rfl) ?_
                refine Ops.guardY rfl rfl rfl (decide_eq_false (by omega)) ?_
                refine Ops.pure rfl (Pure.move rfl) ?_
                refine Ops.guardY rfl rfl rfl (decide_eq_false (by omega)) ?_
                refine Ops.pure rfl (Pure.move rfl) ?_
                refine Ops.guardY rfl rfl rfl (decide_eq_false (by omega)) ?_
                refine Ops.pure rfl (Pure.len sl22 (RdL.own 4 rfl) rfl) ?_
                refine Ops.guardY rfl rfl rfl (decide_eq_false (by omega)) ?_
                refine Ops.pure rfl (Pure.geq rfl rfl) ?_
                refine Ops.pure rfl (Pure.pickF rfl (decide_eq_false (by omega)) rfl) ?_
                refine Ops.nil ?_
                refine Run.condEF rfl (decide_eq_false (by omega)) ?_
                refine Run.skip ?_
                refine Run.seq ?_
                refine Run.region ?_
                refine Ops.pure rfl (Pure.move rfl) ?_
                refine Ops.pure rfl (Pure.move rfl) ?_
                refine Ops.pure rfl (Pure.idxN sl84 (RdL.own 2 rfl) rfl rfl (by first | assumption | omega | (simp; omega))) ?_
                refine Ops.pure rfl (Pure.fieldAddr fld89_1 rfl (RdL.own 2 rfl) (by first | omega | (simp; omega))) ?_
                refine Ops.pure rfl (Pure.ld cell4 rfl (RdL.own 2 rfl) (fget encP_len (by omega) (0, false) rfl)) ?_
                refine Ops.nil ?_
                refine Run.cond rfl (fun c174 => ?_) (fun c174 => ?_)
                · skip
                  skip
                  refine Run.region ?_
                  refine Ops.pure rfl (Pure.move rfl) ?_
                  refine Ops.pure rfl (Pure.move rfl) ?_
                  refine Ops.pure rfl (Pure.idx1N sl22 (RdL.own 0 rfl) rfl rfl (by first | assumption | omega | (simp; omega))) ?_
                  refine Ops.pure rfl (Pure.ld cell2 rfl (RdL.own 0 rfl) (by first | exact ints_get (by omega) | exact bools_get (by omega) | exact strs_get (by omega) | exact vals_get (by first | omega | (simp; omega)))) ?_
                  refine Ops.pure rfl (Pure.add rfl rfl (by omega) (by omega)) ?_
                  refine Ops.pure rfl (Pure.idx1N sl22 (RdL.own 0 rfl) rfl rfl (by first | assumption | omega | (simp; omega))) ?_
                  refine Ops.store (Stores.row1 0 rfl size2 rfl rfl rfl (by first | assumption | omega | (simp; omega))) ?_
                  refine Ops.nil ?_
                  refine Run.blk ?_
                  refine Run.region ?_
                  refine Ops.pure rfl (Pure.move rfl) ?_
                  refine Ops.pure rfl (Pure.add rfl rfl (by omega) (by omega)) ?_
                  refine Ops.pure rfl (Pure.assign rfl) ?_
                  refine Ops.nil ?_
                  refine Run.asrt ?_
                  first
                    | (refine ⟨j + 1, ⟨by omega, by omega⟩, ⟨rfl, rfl, rfl, rfl, rfl, rfl, rfl, rfl, trivial⟩, Ext.eq ?_⟩
                       rw [take_snoc (0, false) hjP, show (pasL a30 c30 l30 ((curL a30 c30 l30).getD k [])).getD j (0, false) = ((q : Int), true) from Prod.ext hq c174, ← List.append_assoc, cntO_step hqz, cntO_other (by decide), ints_setI]
                       rfl)
                    | (refine ⟨j + 1, ⟨by omega, by omega⟩, ⟨rfl, rfl, rfl, rfl, rfl, rfl, rfl, rfl, trivial⟩, Ext.eq ?_⟩
                       rw [take_snoc (0, false) hjP, show (pasL a30 c30 l30 ((curL a30 c30 l30).getD k [])).getD j (0, false) = ((q : Int), false) from Prod.ext hq c174, ← List.append_assoc, cntO_other (by decide), cntO_step hqz, ints_setI]
                       rfl)
                · skip
                  skip
                  refine Run.region ?_
                  refine Ops.pure rfl (Pure.move rfl) ?_
                  refine Ops.pure rfl (Pure.move rfl) ?_
                  refine Ops.pure rfl (Pure.idx1N sl22 (RdL.own 1 rfl) rfl rfl (by first | assumption | omega | (simp; omega))) ?_
                  refine Ops.pure rfl (Pure.ld cell2 rfl (RdL.own 1 rfl) (by first | exact ints_get (by omega) | exact bools_get (by omega) | exact strs_get (by omega) | exact vals_get (by first | omega | (simp; omega)))) ?_
                  refine Ops.pure rfl (Pure.add rfl rfl (by omega) (by omega)) ?_
                  refine Ops.pure rfl (Pure.idx1N sl22 (RdL.own 1 rfl) rfl rfl (by first | assumption | omega | (simp; omega))) ?_
                  refine Ops.store (Stores.row1 1 rfl size2 rfl rfl rfl (by first | assumption | omega | (simp; omega))) ?_
                  refine Ops.nil ?_
                  refine Run.blk ?_
                  refine Run.region ?_
                  refine Ops.pure rfl (Pure.move rfl) ?_
                  refine Ops.pure rfl (Pure.add rfl rfl (by omega) (by omega)) ?_
                  refine Ops.pure rfl (Pure.assign rfl) ?_
                  refine Ops.nil ?_
                  refine Run.asrt ?_
                  first
                    | (refine ⟨j + 1, ⟨by omega, by omega⟩, ⟨rfl, rfl, rfl, rfl, rfl, rfl, rfl, rfl, trivial⟩, Ext.eq ?_⟩
                       rw [take_snoc (0, false) hjP, show (pasL a30 c30 l30 ((curL a30 c30 l30).getD k [])).getD j (0, false) = ((q : Int), true) from Prod.ext hq c174, ← List.append_assoc, cntO_step hqz, cntO_other (by decide), ints_setI]
                       rfl)
                    | (refine ⟨j + 1, ⟨by omega, by omega⟩, ⟨rfl, rfl, rfl, rfl, rfl, rfl, rfl, rfl, trivial⟩, Ext.eq ?_⟩
                       rw [take_snoc (0, false) hjP, show (pasL a30 c30 l30 ((curL a30 c30 l30).getD k [])).getD j (0, false) = ((q : Int), false) from Prod.ext hq c174, ← List.append_assoc, cntO_other (by decide), cntO_step hqz, ints_setI]
                       rfl)
              · skip
                replace c154 := dF c154
                refine Run.exit rfl ?_
                refine Run.blk ?_
                refine Run.region ?_
                refine Ops.pure rfl (Pure.move rfl) ?_
                refine Ops.pure rfl (Pure.add rfl rfl (by omega) (by omega)) ?_
                refine Ops.pure rfl (Pure.assign rfl) ?_
                refine Ops.nil ?_
                refine Run.asrt ?_
                have e : j = (pasL a30 c30 l30 ((curL a30 c30 l30).getD k [])).length := by omega
                refine ⟨k + 1, ⟨by omega, by omega⟩, ⟨rfl, rfl, rfl, rfl, rfl, rfl, trivial⟩, Ext.trans (Ext.eq ?_) (Ext.take 0 rfl (Ext.take 0 rfl (Ext.take 1 rfl (Ext.take 1 rfl (Ext.take 1 rfl (Ext.nil _))))))⟩
                rw [preP_succ hkc, e, List.take_length]
          · skip
            replace c123 := dF c123
            refine Run.exit rfl ?_
            refine Run.seq ?_
            refine Run.seq ?_
            refine Run.region ?_
            refine Ops.pure rfl (Pure.assign rfl) ?_
            refine Ops.nil ?_
            refine Run.block ?_
            refine Run.loop (X := Nat) (fun k => [(4, x33), (17, v117), (18, v120), (26, .int .i64 k)]) (fun k => [.row 2 1 v117 (zeros l30 l30.length).length (ints (cntO (allP a30 c30 l30) true (zeros l30 l30.length).length)), .row 2 1 v120 (zeros l30 l30.length).length (ints (cntO (allP a30 c30 l30) false (zeros l30 l30.length).length)), .row 2 1 x33 (zeros l30 l30.length).length (ints (zeros l30 l30.length))]) (fun k => k ≤ (zeros l30 l30.length).length) (fun k => (zeros l30 l30.length).length - k) 0 ?_ ?_ ?_ ?_
            · exact Nat.zero_le _
            · exact ⟨rfl, rfl, rfl, rfl, trivial⟩
            · have e : k = cnt a30 c30 l30 := by omega
              subst e
              rw [preP_all]
              exact Ext.take 0 rfl (Ext.take 0 rfl (Ext.take 1 rfl (Ext.nil _)))
            · intro k hinv3
              have hln : ∀ o, (ints (cntO (allP a30 c30 l30) o (zeros l30 l30.length).length)).length = (zeros l30 l30.length).length := fun o => by rw [ints, List.length_map, length_cntO]
              have hl1 := hln true
              have hl0 := hln false
              have hm1 := length_cntO (allP a30 c30 l30) true (zeros l30 l30.length).length
              have hm0 := length_cntO (allP a30 c30 l30) false (zeros l30 l30.length).length
              refine Run.seq ?_
              refine Run.seq ?_
              refine Run.region ?_
              refine Ops.pure rfl (Pure.move rfl) ?_
              refine Ops.pure rfl (Pure.move rfl) ?_
              refine Ops.pure rfl (Pure.len sl22 (RdL.own 2 rfl) rfl) ?_
              refine Ops.pure rfl (Pure.lss rfl rfl) ?_
              refine Ops.nil ?_
              refine Run.cond rfl (fun c190 => ?_) (fun c190 => ?_)
              · skip
                replace c190 := dT c190
                refine Run.skip ?_
                refine Run.seq ?_
                refine Run.block ?_
                refine Run.seq ?_
                have hkz : k < (zeros l30 l30.length).length := by omega
                have h1 : (cntO (allP a30 c30 l30) true (zeros l30 l30.length).length).getD k 0 = 1 := by rw [cntO_get hkz, allP_count hk30 hkz]; rfl
                have h2 : (cntO (allP a30 c30 l30) false (zeros l30 l30.length).length).getD k 0 = 1 := by rw [cntO_get hkz, allP_count hk30 hkz]; rfl
                refine Run.region ?_
                refine Ops.pure rfl (Pure.move rfl) ?_
                refine Ops.pure rfl (Pure.move rfl) ?_
                refine Ops.pure rfl (Pure.idx1N sl22 (RdL.own 0 rfl) rfl rfl (by first | assumption | omega | (simp; omega))) ?_
                refine Ops.pure rfl (Pure.ld cell2 rfl (RdL.own 0 rfl) (by first | exact ints_get (by omega) | exact bools_get (by omega) | exact strs_get (by omega) | exact vals_get (by first | omega | (simp; omega)))) ?_
                refine Ops.pure rfl (Pure.neq rfl rfl) ?_
                refine Ops.pure rfl (Pure.move rfl) ?_
                refine Ops.guardY rfl rfl rfl (by rw [h1]; rfl) ?_
                refine Ops.pure rfl (Pure.move rfl) ?_
                refine Ops.guardY rfl rfl rfl (by rw [h1]; rfl) ?_
                refine Ops.pure rfl (Pure.move rfl) ?_
                refine Ops.guardY rfl rfl rfl (by rw [h1]; rfl) ?_
                refine Ops.pure rfl (Pure.idx1N sl22 (RdL.own 1 rfl) rfl rfl (by first | assumption | omega | (simp; omega))) ?_
                refine Ops.guardY rfl rfl rfl (by rw [h1]; rfl) ?_
                refine Ops.pure rfl (Pure.ld cell2 rfl (RdL.own 1 rfl) (by first | exact ints_get (by omega) | exact bools_get (by omega) | exact strs_get (by omega) | exact vals_get (by first | omega | (simp; omega)))) ?_
                refine Ops.guardY rfl rfl rfl (by rw [h1]; rfl) ?_
                refine Ops.pure rfl (Pure.neq rfl rfl) ?_
                refine Ops.pure rfl (Pure.pickF rfl (by rw [h1]; rfl) rfl) ?_
                refine Ops.nil ?_
                refine Run.condEF rfl (by rw [h2]; rfl) ?_
                refine Run.skip ?_
                refine Run.blk ?_
                refine Run.region ?_
                refine Ops.pure rfl (Pure.move rfl) ?_
                refine Ops.pure rfl (Pure.add rfl rfl (by omega) (by omega)) ?_
                refine Ops.pure rfl (Pure.assign rfl) ?_
                refine Ops.nil ?_
                refine Run.asrt ?_
                exact ⟨k + 1, ⟨by omega, by omega⟩, ⟨rfl, rfl, rfl, rfl, trivial⟩, Ext.refl _⟩
              · skip
                replace c190 := dF c190
                refine Run.exit rfl ?_
                refine Run.seq ?_
                refine Run.region ?_
                refine Ops.pure rfl (Pure.assign rfl) ?_
                refine Ops.nil ?_
                refine Run.ret1 rfl rfl ?_
                rfl

end Go.Proofs.Ytkplanpcmkbfiaa
