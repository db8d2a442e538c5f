/- Contracts of functions, printed by program from annotations. -/
import Derived.Test.YtkplanpcmkbfiaaDrw
import Derived.Test.YtkplanpcmkbfiaaTrc
import Derived.Test.YtkplanpcmkbfiaaWlk
namespace Go.Proofs.Ytkplanpcmkbfiaa
open Go Go.AW Go.RowKit
set_option linter.unusedVariables false
set_option linter.unusedSimpArgs false

theorem _root_.Go.AW.Run.retCC {P : Program} {fn : Func} {w0 : World} {Q : Value → List Ent → Prop} {N : Nat} {k : List It} {s : Fr} {L L' : List Ent} {c T b t m c' T' b' t' m' : Nat} {cs cs' : List Value} (i j : Nat) (hr : fn.results = #[.cell c T, .cell c' T']) (hv : lk s c = some (.pointer (some ⟨b, 0, none⟩))) (hv' : lk s c' = some (.pointer (some ⟨b', 0, none⟩))) (hL : L[i]? = some (.box b t cs)) (hT : cellT P T = some (some m)) (hm : cs.length = m) (hL' : L[j]? = some (.box b' t' cs')) (hT' : cellT P T' = some (some m')) (hm' : cs'.length = m') (he : Ext L' L) (h : Q (.tuple #[.agg cs.toArray, .agg cs'.toArray]) L') :
    Run P N w0 (rp P fn w0 Q) (.code .ret :: k) s L :=
  Run.ret fun a w ha hw => bodyPost_ret (v := .tuple #[.agg cs.toArray, .agg cs'.toArray]) (by simp [results, hr, ha.slotG c _ hv, ha.slotG c' _ hv', asAddr, run_loadVar_box hw i hL hT hm, run_loadVar_box hw j hL' hT' hm']) ha.defers ⟨_, L', rfl, hw.ext he, h⟩
theorem Rd_nil (w : World) (m : Nat) : Rd w (.slice none 0 0) m 0 [] := ⟨by simp, none, 0, rfl, Nat.le_refl _, fun h => absurd h (by simp)⟩

set_option maxRecDepth 4000 in
/-- laws.a2Long -/
theorem f_l_a2Long (w : World) (v : Value) (n : Nat) (xs : List Value) (u : Value) (m : Nat) (ys : List Value) (hv : Rd w v 1 n xs) (hu : Rd w u 1 m ys) : RetV Try.prog 31 [v, u] w (.bool (decide (3000 < n ∨ 3000 < m))) := by
  refine Ret.enter Try.func31 rfl Try.ntmps31 rfl ?_
  refine Run.seq ?_
  refine Run.region ?_
  refine Ops.pure rfl (Pure.assign rfl) ?_
  refine Ops.nil ?_
  refine Run.seq ?_
  refine Run.region ?_
  refine Ops.pure rfl (Pure.move rfl) ?_
  refine Ops.pure rfl (Pure.len sl46 (RdL.old hv) rfl) ?_
  refine Ops.pure rfl (Pure.gtr rfl rfl) ?_
  refine Ops.pure rfl (Pure.move rfl) ?_
  refine Ops.guard rfl rfl rfl rfl (fun c8 => ?_) (fun c8 => ?_)
  · skip
    have c8' := dF c8
    refine Ops.pure rfl (Pure.move rfl) ?_
    refine Ops.guardY rfl rfl rfl c8 ?_
    refine Ops.pure rfl (Pure.len sl46 (RdL.old hu) rfl) ?_
    refine Ops.guardY rfl rfl rfl c8 ?_
    refine Ops.pure rfl (Pure.gtr rfl rfl) ?_
    refine Ops.pure rfl (Pure.pickF rfl c8 rfl) ?_
    refine Ops.pure rfl (Pure.assign rfl) ?_
    refine Ops.nil ?_
    refine Run.ret1 rfl rfl ?_
    first
      | rfl
      | (simp_all; done)
      | (simp only [Value.bool.injEq, decide_eq_decide]; omega)
      | (rw [decide_eq_true (by omega)])
      | (rw [decide_eq_false (by omega)])
  · skip
    replace c8 := Bool.eq_true_of_ne c8
    have c8' := dT c8
    refine Ops.guardN rfl rfl rfl rfl (by rw [c8]; decide) ?_
    refine Ops.guardN rfl rfl rfl rfl (by rw [c8]; decide) ?_
    refine Ops.pure rfl (Pure.pickT rfl c8 rfl) ?_
    refine Ops.pure rfl (Pure.assign rfl) ?_
    refine Ops.nil ?_
    refine Run.ret1 rfl rfl ?_
    first
      | rfl
      | (simp_all; done)
      | (simp only [Value.bool.injEq, decide_eq_decide]; omega)
      | (rw [decide_eq_true (by omega)])
      | (rw [decide_eq_false (by omega)])

/-- a choice out of some bytes -/
def atCo (co : List Int) (i n : Int) : Int := if i ≥ co.length ∨ n < 1 then 0 else co.getD i.toNat 0 % n
theorem atCo_bd {co : List Int} {i n : Int} (hn : 1 ≤ n) : 0 ≤ atCo co i n ∧ atCo co i n < n := by
  unfold atCo
  split
  · omega
  · exact mod_bd' co hn
where mod_bd' (co : List Int) {i n : Int} (hn : 1 ≤ n) : 0 ≤ co.getD i.toNat 0 % n ∧ co.getD i.toNat 0 % n < n := ⟨Int.emod_nonneg _ (by omega), Int.emod_lt_of_pos _ (by omega)⟩

set_option maxRecDepth 4000 in
/-- laws.a2At -/
theorem f_l_a2At (w : World) (vc : Value) (co : List Int) (i : Int) (n : Int) (hc : Rd w vc 1 co.length (AW.bytes co)) (hb : ∀ x ∈ co, 0 ≤ x ∧ x ≤ 255) (hcl : co.length ≤ 1000000000) (hi : 0 ≤ i) : RetV Try.prog 34 [vc, .int .i64 i, .int .i64 n] w (.int .i64 (atCo co i n)) := by
  refine Ret.enter Try.func34 rfl Try.ntmps34 rfl ?_
  refine Run.seq ?_
  refine Run.region ?_
  refine Ops.pure rfl (Pure.assign rfl) ?_
  refine Ops.nil ?_
  refine Run.seq ?_
  refine Run.seq ?_
  refine Run.region ?_
  refine Ops.pure rfl (Pure.move rfl) ?_
  refine Ops.pure rfl (Pure.move rfl) ?_
  refine Ops.pure rfl (Pure.len sl46 (RdL.old hc) rfl) ?_
  refine Ops.pure rfl (Pure.geq rfl rfl) ?_
  refine Ops.pure rfl (Pure.move rfl) ?_
  refine Ops.guard rfl rfl rfl rfl (fun c11 => ?_) (fun c11 => ?_)
  · skip
    have c11' := dF c11
    refine Ops.pure rfl (Pure.move rfl) ?_
    refine Ops.guardY rfl rfl rfl c11 ?_
    refine Ops.pure rfl (Pure.lss rfl rfl) ?_
    refine Ops.pure rfl (Pure.pickF rfl c11 rfl) ?_
    refine Ops.nil ?_
    refine Run.cond rfl (fun c14 => ?_) (fun c14 => ?_)
    · skip
      replace c14 := dT c14
      refine Run.seq ?_
      refine Run.region ?_
      refine Ops.pure rfl (Pure.assign rfl) ?_
      refine Ops.nil ?_
      refine Run.ret1 rfl rfl ?_
      unfold atCo
      rw [if_pos (by first | omega | (simp_all; omega))]
    · skip
      replace c14 := dF c14
      refine Run.skip ?_
      refine Run.seq ?_
      have hno : ¬ (i ≥ co.length ∨ n < 1) := by first | omega | (simp_all; omega)
      refine Run.region ?_
      refine Ops.pure rfl (Pure.move rfl) ?_
      refine Ops.pure rfl (Pure.move rfl) ?_
      refine Ops.pure rfl (Pure.idx1 sl46 (RdL.old hc) rfl rfl (by first | assumption | omega | (simp; omega)) (by first | assumption | omega | (simp; omega))) ?_
      have hbq := byte_bd hb (show i.toNat < co.length by omega)
      refine Ops.pure rfl (Pure.ld cell5 rfl (RdL.old hc) (AW.bytes_get (l := co) (i := i.toNat) (by omega))) ?_
      refine Ops.pure rfl (Pure.conv64 (by rw [und5]; rfl) und2 rfl (by omega) (by omega)) ?_
      refine Ops.pure rfl (Pure.move rfl) ?_
      refine Ops.pure rfl (Pure.rem rfl rfl (by omega) (by omega)) ?_
      refine Ops.pure rfl (Pure.assign rfl) ?_
      refine Ops.nil ?_
      refine Run.ret1 rfl rfl ?_
      unfold atCo
      rw [if_neg hno]
  · skip
    replace c11 := Bool.eq_true_of_ne c11
    have c11' := dT c11
    refine Ops.guardN rfl rfl rfl rfl (by rw [c11]; decide) ?_
    refine Ops.pure rfl (Pure.pickT rfl c11 rfl) ?_
    refine Ops.nil ?_
    refine Run.condE rfl rfl ?_
    refine Run.seq ?_
    refine Run.region ?_
    refine Ops.pure rfl (Pure.assign rfl) ?_
    refine Ops.nil ?_
    refine Run.ret1 rfl rfl ?_
    unfold atCo
    rw [if_pos (by first | omega | (simp_all; omega))]

set_option maxRecDepth 4000 in
/-- spec.l00From -/
theorem f_s_l00From (w : World) (vc : Value) (co : List Int) (hv1 : vc.oneCell' = true) : Ret Try.prog 80 [vc] w (fun u L => ∃ b, u = .pointer (some ⟨b, 0, none⟩) ∧ L = [srcE b vc 0 0]) := by
  refine Ret.enter Try.func80 rfl Try.ntmps80 rfl ?_
  refine Run.seq ?_
  refine Run.region ?_
  refine Ops.pure rfl (Pure.assign rfl) ?_
  refine Ops.nil ?_
  refine Run.seq ?_
  first
    | skip
  refine Run.region ?_
  refine Ops.pure rfl (Pure.move rfl) ?_
  refine Ops.pure rfl (Pure.build rfl (bld151_p0 _ (by first | rfl | assumption))) ?_
  refine Ops.go rfl (Loud.box rfl rfl) ?_
  rintro _ _ ⟨b5, rfl, rfl⟩
  refine Ops.pure rfl (Pure.assign rfl) ?_
  refine Ops.nil ?_
  refine Run.ret1 rfl rfl ?_
  exact ⟨_, rfl, rfl⟩

set_option maxRecDepth 4000 in
/-- spec.A2Panel -/
theorem f_s_A2Panel (w : World) (vc : Value) (co : List Int) (hc : Rd w vc 1 co.length (AW.bytes co)) (hb : ∀ x ∈ co, 0 ≤ x ∧ x ≤ 255) (hcl : co.length ≤ 1000000000) : Ret Try.prog 60 [vc] w (fun u L => ∃ (a c : Int) (l : List Int) (x : Value), 1 ≤ a ∧ a ≤ 5 ∧ 1 ≤ c ∧ c ≤ 5 ∧ okP a c l = true ∧ x.oneCell' = true ∧ u = .agg #[.int .i64 a, .int .i64 c, x] ∧ L = [.row 2 1 x l.length (ints l)]) := by
  have hv1 := hc.one
  refine Ret.enter Try.func60 rfl Try.ntmps60 rfl ?_
  refine Run.seq ?_
  refine Run.region ?_
  refine Ops.go rfl (Loud.alloc zero28 rfl) ?_
  rintro _ _ ⟨b2, rfl, rfl⟩
  refine Ops.nil ?_
  refine Run.seq ?_
  refine Run.region ?_
  refine Ops.pure rfl (Pure.move rfl) ?_
  refine Ops.go rfl (Loud.callR fn80 rfl (fun w hw => f_s_l00From w vc co hv1)) ?_
  rintro v4 _ ⟨L4, hQ4, rfl⟩
  obtain ⟨s4, rfl, rfl⟩ := hQ4
  refine Ops.go rfl (Loud.callO fn81 rfl (fun w hw => f_s_l02Draw _ w _ vc co 0 0 _ 5 (Sat.front 0 rfl hw) hc hb hcl (by omega) (by omega) (by omega))) ?_
  rintro v5 L5 hQ5
  obtain ⟨a5, c5, l5, x5, q5, sd5, ha5, hA5, hc5, hC5, hk5, h5, hq5, rfl, rfl⟩ := hQ5
  refine Ops.store (Stores.box 2 rfl rfl rfl size28 (one3 h5) rfl rfl) ?_
  refine Ops.nil ?_
  refine Run.retCx 2 rfl rfl rfl cell28 rfl (Ext.take 0 rfl (Ext.nil _)) ?_
  exact ⟨_, _, _, _, ha5, hA5, hc5, hC5, hk5, h5, rfl, rfl⟩

set_option maxRecDepth 4000 in
/-- spec.A2Small -/
theorem f_s_A2Small (w : World) (vc : Value) (co : List Int) (hc : Rd w vc 1 co.length (AW.bytes co)) (hb : ∀ x ∈ co, 0 ≤ x ∧ x ≤ 255) (hcl : co.length ≤ 1000000000) : Ret Try.prog 32 [vc] w (fun u L => ∃ (a c : Int) (l : List Int) (x : Value), 1 ≤ a ∧ a ≤ 3 ∧ 1 ≤ c ∧ c ≤ 3 ∧ okP a c l = true ∧ x.oneCell' = true ∧ u = .agg #[.int .i64 a, .int .i64 c, x] ∧ L = [.row 2 1 x l.length (ints l)]) := by
  have hv1 := hc.one
  refine Ret.enter Try.func32 rfl Try.ntmps32 rfl ?_
  refine Run.seq ?_
  refine Run.region ?_
  refine Ops.go rfl (Loud.alloc zero28 rfl) ?_
  rintro _ _ ⟨b2, rfl, rfl⟩
  refine Ops.nil ?_
  refine Run.seq ?_
  refine Run.region ?_
  refine Ops.pure rfl (Pure.move rfl) ?_
  refine Ops.go rfl (Loud.callR fn80 rfl (fun w hw => f_s_l00From w vc co hv1)) ?_
  rintro v6 _ ⟨L6, hQ6, rfl⟩
  obtain ⟨s6, rfl, rfl⟩ := hQ6
  refine Ops.pure rfl (Pure.assign rfl) ?_
  refine Ops.nil ?_
  refine Run.seq ?_
  refine Run.region ?_
  refine Ops.pure rfl (Pure.move rfl) ?_
  refine Ops.go rfl (Loud.callO fn81 rfl (fun w hw => f_s_l02Draw _ w _ vc co _ _ _ 3 (Sat.front 0 rfl hw) hc hb hcl (by omega) (by omega) (by omega))) ?_
  rintro v8 L8 hQ8
  obtain ⟨a8, c8, l8, x8, q8, sd8, ha8, hA8, hc8, hC8, hk8, h8, hq8, rfl, rfl⟩ := hQ8
  refine Ops.go rfl (Loud.alloc zero28 rfl) ?_
  rintro _ _ ⟨b4, rfl, rfl⟩
  refine Ops.store (Stores.box 0 rfl rfl rfl size28 (one3 h8) rfl rfl) ?_
  refine Ops.nil ?_
  refine Run.seq ?_
  refine Run.seq ?_
  refine Run.region ?_
  refine Ops.pure rfl (Pure.move rfl) ?_
  refine Ops.go rfl (Loud.callO fn82 rfl (fun w hw => f_s_l00Src_one _ w _ vc co _ _ _ 3 (Sat.front 2 rfl hw) hc hb hcl (by omega) (by omega))) ?_
  rintro v10 L10 hQ10
  obtain ⟨x10, q10, sd10, hq10, rfl, rfl⟩ := hQ10
  refine Ops.nil ?_
  refine Run.cond rfl (fun c10 => ?_) (fun c10 => ?_)
  · skip
    skip
    have hs : SizeOk a8 c8 := by unfold SizeOk; omega
    refine Run.region ?_
    refine Ops.pure rfl (Pure.fieldAddrB fld28_0 rfl) ?_
    refine Ops.pure rfl (Pure.ldB 1 rfl cell2 rfl rfl) ?_
    refine Ops.pure rfl (Pure.fieldAddrB fld28_1 rfl) ?_
    refine Ops.pure rfl (Pure.ldB 1 rfl cell2 rfl rfl) ?_
    refine Ops.go rfl (Loud.callR fn83 rfl (fun w hw => f_s_l02New w a8 c8 hs)) ?_
    rintro v15 _ ⟨L15, hQ15, rfl⟩
    obtain ⟨x15, h15, rfl, rfl⟩ := hQ15
    refine Ops.store (Stores.box 2 rfl rfl rfl size28 (one3 h15) rfl rfl) ?_
    refine Ops.nil ?_
    refine Run.seq ?_
    refine Run.region ?_
    refine Ops.pure rfl (Pure.ldBA 2 rfl cell28 rfl rfl rfl) ?_
    first
      | refine Ops.store (Stores.box 4 rfl rfl rfl size28 (one3 h15) rfl rfl) ?_
      | refine Ops.store (Stores.box 3 rfl rfl rfl size28 (one3 h8) rfl rfl) ?_
    refine Ops.nil ?_
    refine Run.retCx 4 rfl rfl rfl cell28 rfl (Ext.take 0 rfl (Ext.nil _)) ?_
    first
      | exact ⟨_, _, _, _, ha8, hA8, hc8, hC8, okP_zero hs, h15, rfl, by rw [List.length_replicate]⟩
      | exact ⟨_, _, _, _, ha8, hA8, hc8, hC8, hk8, h8, rfl, rfl⟩
  · skip
    skip
    refine Run.ext_ (Ext.take 2 rfl (Ext.refl _)) ?_
    refine Run.skip ?_
    refine Run.seq ?_
    refine Run.region ?_
    refine Ops.pure rfl (Pure.ldBA 2 rfl cell28 rfl rfl rfl) ?_
    first
      | refine Ops.store (Stores.box 4 rfl rfl rfl size28 (one3 h15) rfl rfl) ?_
      | refine Ops.store (Stores.box 3 rfl rfl rfl size28 (one3 h8) rfl rfl) ?_
    refine Ops.nil ?_
    refine Run.retCx 3 rfl rfl rfl cell28 rfl (Ext.take 0 rfl (Ext.nil _)) ?_
    first
      | exact ⟨_, _, _, _, ha8, hA8, hc8, hC8, okP_zero hs, h15, rfl, by rw [List.length_replicate]⟩
      | exact ⟨_, _, _, _, ha8, hA8, hc8, hC8, hk8, h8, rfl, rfl⟩

set_option maxRecDepth 4000 in
/-- spec.l03Back -/
theorem f_s_l03Back (w : World) (om : Wk) (hx : -1000 ≤ om.1 ∧ om.1 ≤ 1000) (hy : -1000 ≤ om.2.1 ∧ om.2.1 ≤ 1000) (hdx : -1000 ≤ om.2.2.1 ∧ om.2.2.1 ≤ 1000) (hdy : -1000 ≤ om.2.2.2 ∧ om.2.2.2 ≤ 1000) : RetV Try.prog 89 [.agg (encW om).toArray] w (.agg (encW (bk om)).toArray) := by
  refine Ret.enter Try.func89 rfl Try.ntmps89 rfl ?_
  refine Run.seq ?_
  refine Run.region ?_
  refine Ops.go rfl (Loud.box rfl rfl) ?_
  rintro _ _ ⟨b1, rfl, rfl⟩
  refine Ops.go rfl (Loud.alloc zero57 rfl) ?_
  rintro _ _ ⟨b2, rfl, rfl⟩
  refine Ops.nil ?_
  refine Run.seq ?_
  refine Any.start follows ?_
  refine Any.take 0 rfl (by kernel_rfl) rfl (QOp.pure (Pure.ldBA 1 rfl cell57 rfl rfl rfl)) ?_
  refine Any.take 1 rfl (by kernel_rfl) rfl (QOp.call fn134 rfl (fun w hw => f_s_l03Next w om.1 om.2.1 om.2.2.1 om.2.2.2 hx hy hdx hdy)) ?_
  refine Any.take 2 rfl (by kernel_rfl) rfl (QOp.pure (Pure.fieldAddrB fld57_1 rfl)) ?_
  refine Any.take 3 rfl (by kernel_rfl) rfl (QOp.pure (Pure.ldB 1 rfl cell2 rfl rfl)) ?_
  refine Any.take 4 rfl (by kernel_rfl) rfl (QOp.pure (Pure.neg rfl (by omega) (by omega))) ?_
  refine Any.take 5 rfl (by kernel_rfl) rfl (QOp.pure (Pure.fieldAddrB fld57_2 rfl)) ?_
  refine Any.take 6 rfl (by kernel_rfl) rfl (QOp.pure (Pure.ldB 1 rfl cell2 rfl rfl)) ?_
  refine Any.take 7 rfl (by kernel_rfl) rfl (QOp.pure (Pure.neg rfl (by omega) (by omega))) ?_
  refine Any.take 8 rfl (by kernel_rfl) rfl (QOp.pure (Pure.build rfl (bld57_3 _ _ _ _ (by first | rfl | assumption) (by first | rfl | assumption)))) ?_
  refine Any.one 9 (by kernel_rfl) ?_
  refine OneL.store rfl (Stores.box 0 rfl rfl rfl size57 (allOne rfl) rfl rfl) (by kernel_rfl) ?_
  refine Any.done (by kernel_rfl) ?_
  refine Run.retC 0 rfl rfl rfl cell57 rfl ?_
  rfl

theorem VW_all {a b : Int} {om : Wk} (hs : SizeOk a b) (h : VW a b om) : (-1000 ≤ om.1 ∧ om.1 ≤ 1000) ∧ (-1000 ≤ om.2.1 ∧ om.2.1 ≤ 1000) ∧ (-1000 ≤ om.2.2.1 ∧ om.2.2.1 ≤ 1000) ∧ (-1000 ≤ om.2.2.2 ∧ om.2.2.2 ≤ 1000) := by
  obtain ⟨x, y, dx, dy⟩ := om
  have := VW_mid hs h
  refine ⟨⟨?_, ?_⟩, ⟨?_, ?_⟩, ⟨?_, ?_⟩, ⟨?_, ?_⟩⟩ <;> simp only <;> omega

set_option maxRecDepth 4000 in
/-- spec.A2Walker -/
theorem f_s_A2Walker (w : World) (vc : Value) (co : List Int) (hc : Rd w vc 1 co.length (AW.bytes co)) (hb : ∀ x ∈ co, 0 ≤ x ∧ x ≤ 255) (hcl : co.length ≤ 1000000000) : Ret Try.prog 36 [vc] w (fun u L => ∃ (a c : Int) (l : List Int) (v : Value) (x y dx dy : Int), 1 ≤ a ∧ a ≤ 5 ∧ 1 ≤ c ∧ c ≤ 5 ∧ okP a c l = true ∧ v.oneCell' = true ∧ VW a c (x, y, dx, dy) ∧ u = .tuple #[.agg #[.int .i64 a, .int .i64 c, v], .agg #[.int .i64 x, .int .i64 y, .int .i64 dx, .int .i64 dy]] ∧ L = [.row 2 1 v l.length (ints l)]) := by
  have hv1 := hc.one
  refine Ret.enter Try.func36 rfl Try.ntmps36 rfl ?_
  refine Run.seq ?_
  refine Run.region ?_
  refine Ops.go rfl (Loud.alloc zero28 rfl) ?_
  rintro _ _ ⟨b2, rfl, rfl⟩
  refine Ops.go rfl (Loud.alloc zero57 rfl) ?_
  rintro _ _ ⟨b3, rfl, rfl⟩
  refine Ops.nil ?_
  refine Run.seq ?_
  refine Run.region ?_
  refine Ops.pure rfl (Pure.move rfl) ?_
  refine Ops.go rfl (Loud.callR fn80 rfl (fun w hw => f_s_l00From w vc co hv1)) ?_
  rintro v8 _ ⟨L8, hQ8, rfl⟩
  obtain ⟨s8, rfl, rfl⟩ := hQ8
  refine Ops.pure rfl (Pure.assign rfl) ?_
  refine Ops.nil ?_
  refine Run.seq ?_
  refine Run.region ?_
  refine Ops.pure rfl (Pure.move rfl) ?_
  refine Ops.go rfl (Loud.callO fn81 rfl (fun w hw => f_s_l02Draw _ w _ vc co _ _ _ 5 (Sat.front 0 rfl hw) hc hb hcl (by omega) (by omega) (by omega))) ?_
  rintro v10 L10 hQ10
  obtain ⟨a10, c10, l10, x10, q10, sd10, ha10, hA10, hc10, hC10, hk10, h10, hq10, rfl, rfl⟩ := hQ10
  refine Ops.go rfl (Loud.alloc zero28 rfl) ?_
  rintro _ _ ⟨b5, rfl, rfl⟩
  refine Ops.store (Stores.box 0 rfl rfl rfl size28 (one3 h10) rfl rfl) ?_
  refine Ops.nil ?_
  refine Run.seq ?_
  have hs : SizeOk a10 c10 := by unfold SizeOk; omega
  have hm := mul_bd (a := a10) (b := c10) (A := 5) (B := 5) (by omega) (by omega) (by omega) (by omega)
  have hm4 : 4 * a10 * c10 = 4 * (a10 * c10) := Int.mul_assoc _ _ _
  have hm1 := mul_bd (a := a10 - 1) (b := c10 - 1) (A := 5) (B := 5) (by omega) (by omega) (by omega) (by omega)
  have hm2 : (a10 - 1) * (c10 - 1) = a10 * c10 - a10 - c10 + 1 := by rw [Int.sub_mul, Int.mul_sub, Int.mul_one, Int.one_mul]; omega
  refine Run.region ?_
  refine Ops.pure rfl (Pure.move rfl) ?_
  refine Ops.pure rfl (Pure.fieldAddrB fld28_0 rfl) ?_
  refine Ops.pure rfl (Pure.ldB 0 rfl cell2 rfl rfl) ?_
  refine Ops.pure rfl (Pure.mul rfl rfl (by omega) (by omega)) ?_
  refine Ops.pure rfl (Pure.fieldAddrB fld28_1 rfl) ?_
  refine Ops.pure rfl (Pure.ldB 0 rfl cell2 rfl rfl) ?_
  refine Ops.pure rfl (Pure.mul rfl rfl (by omega) (by omega)) ?_
  refine Ops.go rfl (Loud.callO fn88 rfl (fun w hw => f_s_l00Src_pick _ w _ vc co _ _ _ (4 * a10 * c10) (Sat.front 2 rfl hw) hc hb hcl (by omega) (by omega))) ?_
  rintro v18 L18 hQ18
  obtain ⟨x18, q18, sd18, hx18, hy18, hq18, rfl, rfl⟩ := hQ18
  have hx18b : x18 < 4 * a10 * c10 := by omega
  have hvw := (wkAt_spec (a := a10) hc10 hx18 hx18b).1
  have hwa := VW_all hs hvw
  have hwb := VW_all hs (VW_bk hvw)
  refine Ops.q rfl (QOp.call fn87 rfl (fun w hw => f_s_l03Walker w _ a10 c10 x10 x18 (RdL.boxM 1 rfl rfl w hw) hs hx18 (by omega))) ?_
  refine Ops.go rfl (Loud.alloc zero57 rfl) ?_
  rintro _ _ ⟨b6, rfl, rfl⟩
  refine Ops.store (Stores.box 0 rfl rfl rfl size57 (allOne rfl) rfl rfl) ?_
  refine Ops.nil ?_
  refine Run.seq ?_
  refine Run.seq ?_
  refine Run.region ?_
  refine Ops.pure rfl (Pure.move rfl) ?_
  refine Ops.go rfl (Loud.callO fn82 rfl (fun w hw => f_s_l00Src_one _ w _ vc co _ _ _ 2 (Sat.front 1 rfl hw) hc hb hcl (by omega) (by omega))) ?_
  rintro v21 L21 hQ21
  obtain ⟨x21, q21, sd21, hq21, rfl, rfl⟩ := hQ21
  refine Ops.nil ?_
  refine Run.cond rfl (fun c21 => ?_) (fun c21 => ?_)
  · skip
    skip
    refine Run.region ?_
    refine Ops.pure rfl (Pure.ldBA 1 rfl cell57 rfl rfl rfl) ?_
    refine Ops.q rfl (QOp.call fn89 rfl (fun w hw => f_s_l03Back w (wkAt c10 x18) hwa.1 hwa.2.1 hwa.2.2.1 hwa.2.2.2)) ?_
    refine Ops.store (Stores.box 1 rfl rfl rfl size57 (allOne rfl) rfl rfl) ?_
    refine Ops.nil ?_
    refine Run.seq ?_
    refine Any.start follows ?_
    refine Any.take 0 rfl (by kernel_rfl) rfl (QOp.pure (Pure.ldBA 2 rfl cell28 rfl rfl rfl)) ?_
    refine Any.two 1 2 (by kernel_rfl) ?_ ?_
    · skip
      refine OneL.q rfl rfl (QOp.pure (Pure.ldBA 1 rfl cell57 rfl rfl rfl)) ?_
      refine Any.one 2 (by kernel_rfl) ?_
      refine OneL.store rfl (Stores.box 5 rfl rfl rfl size28 (one3 h10) rfl rfl) (by kernel_rfl) ?_
      refine Any.one 3 (by kernel_rfl) ?_
      refine OneL.store rfl (Stores.box 4 rfl rfl rfl size57 (allOne rfl) rfl rfl) (by kernel_rfl) ?_
      refine Any.done (by kernel_rfl) ?_
      refine Run.retCC 5 4 rfl rfl rfl rfl cell28 rfl rfl cell57 rfl (Ext.take 3 rfl (Ext.nil _)) ?_
      first
        | exact ⟨a10, c10, l10, x10, _, _, _, _, ha10, hA10, hc10, hC10, hk10, h10, VW_bk hvw, rfl, rfl⟩
        | exact ⟨a10, c10, l10, x10, _, _, _, _, ha10, hA10, hc10, hC10, hk10, h10, hvw, rfl, rfl⟩
    · skip
      refine OneL.store rfl (Stores.box 5 rfl rfl rfl size28 (one3 h10) rfl rfl) (by kernel_rfl) ?_
      refine Any.take 1 rfl (by kernel_rfl) rfl (QOp.pure (Pure.ldBA 1 rfl cell57 rfl rfl rfl)) ?_
      refine Any.one 3 (by kernel_rfl) ?_
      refine OneL.store rfl (Stores.box 4 rfl rfl rfl size57 (allOne rfl) rfl rfl) (by kernel_rfl) ?_
      refine Any.done (by kernel_rfl) ?_
      refine Run.retCC 5 4 rfl rfl rfl rfl cell28 rfl rfl cell57 rfl (Ext.take 3 rfl (Ext.nil _)) ?_
      first
        | exact ⟨a10, c10, l10, x10, _, _, _, _, ha10, hA10, hc10, hC10, hk10, h10, VW_bk hvw, rfl, rfl⟩
        | exact ⟨a10, c10, l10, x10, _, _, _, _, ha10, hA10, hc10, hC10, hk10, h10, hvw, rfl, rfl⟩
  · skip
    skip
    refine Run.skip ?_
    refine Run.seq ?_
    refine Any.start follows ?_
    refine Any.take 0 rfl (by kernel_rfl) rfl (QOp.pure (Pure.ldBA 2 rfl cell28 rfl rfl rfl)) ?_
    refine Any.two 1 2 (by kernel_rfl) ?_ ?_
    · skip
      refine OneL.q rfl rfl (QOp.pure (Pure.ldBA 1 rfl cell57 rfl rfl rfl)) ?_
      refine Any.one 2 (by kernel_rfl) ?_
      refine OneL.store rfl (Stores.box 5 rfl rfl rfl size28 (one3 h10) rfl rfl) (by kernel_rfl) ?_
      refine Any.one 3 (by kernel_rfl) ?_
      refine OneL.store rfl (Stores.box 4 rfl rfl rfl size57 (allOne rfl) rfl rfl) (by kernel_rfl) ?_
      refine Any.done (by kernel_rfl) ?_
      refine Run.retCC 5 4 rfl rfl rfl rfl cell28 rfl rfl cell57 rfl (Ext.take 3 rfl (Ext.nil _)) ?_
      first
        | exact ⟨a10, c10, l10, x10, _, _, _, _, ha10, hA10, hc10, hC10, hk10, h10, VW_bk hvw, rfl, rfl⟩
        | exact ⟨a10, c10, l10, x10, _, _, _, _, ha10, hA10, hc10, hC10, hk10, h10, hvw, rfl, rfl⟩
    · skip
      refine OneL.store rfl (Stores.box 5 rfl rfl rfl size28 (one3 h10) rfl rfl) (by kernel_rfl) ?_
      refine Any.take 1 rfl (by kernel_rfl) rfl (QOp.pure (Pure.ldBA 1 rfl cell57 rfl rfl rfl)) ?_
      refine Any.one 3 (by kernel_rfl) ?_
      refine OneL.store rfl (Stores.box 4 rfl rfl rfl size57 (allOne rfl) rfl rfl) (by kernel_rfl) ?_
      refine Any.done (by kernel_rfl) ?_
      refine Run.retCC 5 4 rfl rfl rfl rfl cell28 rfl rfl cell57 rfl (Ext.take 3 rfl (Ext.nil _)) ?_
      first
        | exact ⟨a10, c10, l10, x10, _, _, _, _, ha10, hA10, hc10, hC10, hk10, h10, VW_bk hvw, rfl, rfl⟩
        | exact ⟨a10, c10, l10, x10, _, _, _, _, ha10, hA10, hc10, hC10, hk10, h10, hvw, rfl, rfl⟩

end Go.Proofs.Ytkplanpcmkbfiaa
