/- Contracts of functions, printed by program from annotations. -/
import Derived.Test.YtmfinopdokkjcaaDrw
import Derived.Test.YtmfinopdokkjcaaTrc
import Derived.Test.YtmfinopdokkjcaaWlk
namespace Go.Proofs.Ytmfinopdokkjcaa
open Go Go.AW Go.RowKit
set_option linter.unusedVariables false
set_option linter.unusedSimpArgs false

theorem _root_.Go.AW.Run.retCC {P : Program} {fn : Func} {w0 : World} {Q : Value → List Ent → Prop} {N : Nat} {k : List It} {s : Fr} {L L' : List Ent} {c T b t m c' T' b' t' m' : Nat} {cs cs' : List Value} (i j : Nat) (hr : fn.results = #[.cell c T, .cell c' T']) (hv : lk s c = some (.pointer (some ⟨b, 0, none⟩))) (hv' : lk s c' = some (.pointer (some ⟨b', 0, none⟩))) (hL : L[i]? = some (.box b t cs)) (hT : cellT P T = some (some m)) (hm : cs.length = m) (hL' : L[j]? = some (.box b' t' cs')) (hT' : cellT P T' = some (some m')) (hm' : cs'.length = m') (he : Ext L' L) (h : Q (.tuple #[.agg cs.toArray, .agg cs'.toArray]) L') :
    Run P N w0 (rp P fn w0 Q) (.code .ret :: k) s L :=
  Run.ret fun a w ha hw => bodyPost_ret (v := .tuple #[.agg cs.toArray, .agg cs'.toArray]) (by simp [results, hr, ha.slotG c _ hv, ha.slotG c' _ hv', asAddr, run_loadVar_box hw i hL hT hm, run_loadVar_box hw j hL' hT' hm']) ha.defers ⟨_, L', rfl, hw.ext he, h⟩
theorem Rd_nil (w : World) (m : Nat) : Rd w (.slice none 0 0) m 0 [] := ⟨by simp, none, 0, rfl, Nat.le_refl _, fun h => absurd h (by simp)⟩

set_option maxRecDepth 4000 in
/-- laws.a2Long -/
theorem f_l_a2Long (w : World) (v : Value) (n : Nat) (xs : List Value) (u : Value) (m : Nat) (ys : List Value) (hv : Rd w v 1 n xs) (hu : Rd w u 1 m ys) : RetV Try.prog 11 [v, u] w (.bool (decide (3000 < n ∨ 3000 < m))) := by
  refine Ret.enter Try.func11 rfl Try.ntmps11 rfl ?_
  refine Run.seq ?_
  refine Run.region ?_
  refine Ops.pure rfl (Pure.assign rfl) ?_
  refine Ops.nil ?_
  refine Run.seq ?_
  refine Run.region ?_
  refine Ops.pure rfl (Pure.move rfl) ?_
  refine Ops.pure rfl (Pure.len sl22 (RdL.old hv) rfl) ?_
  refine Ops.pure rfl (Pure.gtr rfl rfl) ?_
  refine Ops.pure rfl (Pure.move rfl) ?_
  refine Ops.guard rfl rfl rfl rfl (fun c8 => ?_) (fun c8 => ?_)
  · skip
    have c8' := dF c8
    refine Ops.pure rfl (Pure.move rfl) ?_
    refine Ops.guardY rfl rfl rfl c8 ?_
    refine Ops.pure rfl (Pure.len sl22 (RdL.old hu) rfl) ?_
    refine Ops.guardY rfl rfl rfl c8 ?_
    refine Ops.pure rfl (Pure.gtr rfl rfl) ?_
    refine Ops.pure rfl (Pure.pickF rfl c8 rfl) ?_
    refine Ops.pure rfl (Pure.assign rfl) ?_
    refine Ops.nil ?_
    refine Run.ret1 rfl rfl ?_
    first
      | rfl
      | (simp_all; done)
      | (simp only [Value.bool.injEq, decide_eq_decide]; omega)
      | (rw [decide_eq_true (by omega)])
      | (rw [decide_eq_false (by omega)])
  · skip
    replace c8 := Bool.eq_true_of_ne c8
    have c8' := dT c8
    refine Ops.guardN rfl rfl rfl rfl (by rw [c8]; decide) ?_
    refine Ops.guardN rfl rfl rfl rfl (by rw [c8]; decide) ?_
    refine Ops.pure rfl (Pure.pickT rfl c8 rfl) ?_
    refine Ops.pure rfl (Pure.assign rfl) ?_
    refine Ops.nil ?_
    refine Run.ret1 rfl rfl ?_
    first
      | rfl
      | (simp_all; done)
      | (simp only [Value.bool.injEq, decide_eq_decide]; omega)
      | (rw [decide_eq_true (by omega)])
      | (rw [decide_eq_false (by omega)])

/-- a choice out of some bytes -/
def atCo (co : List Int) (i n : Int) : Int := if i ≥ co.length ∨ n < 1 then 0 else co.getD i.toNat 0 % n
theorem atCo_bd {co : List Int} {i n : Int} (hn : 1 ≤ n) : 0 ≤ atCo co i n ∧ atCo co i n < n := by
  unfold atCo
  split
  · omega
  · exact mod_bd' co hn
where mod_bd' (co : List Int) {i n : Int} (hn : 1 ≤ n) : 0 ≤ co.getD i.toNat 0 % n ∧ co.getD i.toNat 0 % n < n := ⟨Int.emod_nonneg _ (by omega), Int.emod_lt_of_pos _ (by omega)⟩

set_option maxRecDepth 4000 in
/-- laws.a2At -/
theorem f_l_a2At (w : World) (vc : Value) (co : List Int) (i : Int) (n : Int) (hc : Rd w vc 1 co.length (AW.bytes co)) (hb : ∀ x ∈ co, 0 ≤ x ∧ x ≤ 255) (hcl : co.length ≤ 1000000000) (hi : 0 ≤ i) : RetV Try.prog 17 [vc, .int .i64 i, .int .i64 n] w (.int .i64 (atCo co i n)) := by
  refine Ret.enter Try.func17 rfl Try.ntmps17 rfl ?_
  refine Run.seq ?_
  refine Run.region ?_
  refine Ops.pure rfl (Pure.assign rfl) ?_
  refine Ops.nil ?_
  refine Run.seq ?_
  refine Run.seq ?_
  refine Run.region ?_
  refine Ops.pure rfl (Pure.move rfl) ?_
  refine Ops.pure rfl (Pure.move rfl) ?_
  refine Ops.pure rfl (Pure.len sl22 (RdL.old hc) rfl) ?_
  refine Ops.pure rfl (Pure.geq rfl rfl) ?_
  refine Ops.pure rfl (Pure.move rfl) ?_
  refine Ops.guard rfl rfl rfl rfl (fun c11 => ?_) (fun c11 => ?_)
  · skip
    have c11' := dF c11
    refine Ops.pure rfl (Pure.move rfl) ?_
    refine Ops.guardY rfl rfl rfl c11 ?_
    refine Ops.pure rfl (Pure.lss rfl rfl) ?_
    refine Ops.pure rfl (Pure.pickF rfl c11 rfl) ?_
    refine Ops.nil ?_
    refine Run.cond rfl (fun c14 => ?_) (fun c14 => ?_)
    · skip
      replace c14 := dT c14
      refine Run.seq ?_
      refine Run.region ?_
      refine Ops.pure rfl (Pure.assign rfl) ?_
      refine Ops.nil ?_
      refine Run.ret1 rfl rfl ?_
      unfold atCo
      rw [if_pos (by first | omega | (simp_all; omega))]
    · skip
      replace c14 := dF c14
      refine Run.skip ?_
      refine Run.seq ?_
      have hno : ¬ (i ≥ co.length ∨ n < 1) := by first | omega | (simp_all; omega)
      refine Run.region ?_
      refine Ops.pure rfl (Pure.move rfl) ?_
      refine Ops.pure rfl (Pure.move rfl) ?_
      refine Ops.pure rfl (Pure.idx1 sl22 (RdL.old hc) rfl rfl (by first | assumption | omega | (simp; omega)) (by first | assumption | omega | (simp; omega))) ?_
      have hbq := byte_bd hb (show i.toNat < co.length by omega)
      refine Ops.pure rfl (Pure.ld cell5 rfl (RdL.old hc) (AW.bytes_get (l := co) (i := i.toNat) (by omega))) ?_
      refine Ops.pure rfl (Pure.conv64 (by rw [und5]; rfl) und2 rfl (by omega) (by omega)) ?_
      refine Ops.pure rfl (Pure.move rfl) ?_
      refine Ops.pure rfl (Pure.rem rfl rfl (by omega) (by omega)) ?_
      refine Ops.pure rfl (Pure.assign rfl) ?_
      refine Ops.nil ?_
      refine Run.ret1 rfl rfl ?_
      unfold atCo
      rw [if_neg hno]
  · skip
    replace c11 := Bool.eq_true_of_ne c11
    have c11' := dT c11
    refine Ops.guardN rfl rfl rfl rfl (by rw [c11]; decide) ?_
    refine Ops.pure rfl (Pure.pickT rfl c11 rfl) ?_
    refine Ops.nil ?_
    refine Run.condE rfl rfl ?_
    refine Run.seq ?_
    refine Run.region ?_
    refine Ops.pure rfl (Pure.assign rfl) ?_
    refine Ops.nil ?_
    refine Run.ret1 rfl rfl ?_
    unfold atCo
    rw [if_pos (by first | omega | (simp_all; omega))]

set_option maxRecDepth 4000 in
/-- spec.l00From -/
theorem f_s_l00From (w : World) (vc : Value) (co : List Int) (hv1 : vc.oneCell' = true) : Ret Try.prog 87 [vc] w (fun u L => ∃ b, u = .pointer (some ⟨b, 0, none⟩) ∧ L = [srcE b vc 0 0]) := by
  refine Ret.enter Try.func87 rfl Try.ntmps87 rfl ?_
  refine Run.seq ?_
  refine Run.region ?_
  refine Ops.pure rfl (Pure.assign rfl) ?_
  refine Ops.nil ?_
  refine Run.seq ?_
  first
    | skip
  refine Run.region ?_
  refine Ops.pure rfl (Pure.move rfl) ?_
  refine Ops.pure rfl (Pure.build rfl (bld174_p0 _ (by first | rfl | assumption))) ?_
  refine Ops.go rfl (Loud.box rfl rfl) ?_
  rintro _ _ ⟨b5, rfl, rfl⟩
  refine Ops.pure rfl (Pure.assign rfl) ?_
  refine Ops.nil ?_
  refine Run.ret1 rfl rfl ?_
  exact ⟨_, rfl, rfl⟩

set_option maxRecDepth 4000 in
/-- spec.A2Panel -/
theorem f_s_A2Panel (w : World) (vc : Value) (co : List Int) (hc : Rd w vc 1 co.length (AW.bytes co)) (hb : ∀ x ∈ co, 0 ≤ x ∧ x ≤ 255) (hcl : co.length ≤ 1000000000) : Ret Try.prog 19 [vc] w (fun u L => ∃ (a c : Int) (l : List Int) (x : Value), 1 ≤ a ∧ a ≤ 5 ∧ 1 ≤ c ∧ c ≤ 5 ∧ okP a c l = true ∧ x.oneCell' = true ∧ u = .agg #[.int .i64 a, .int .i64 c, x] ∧ L = [.row 2 1 x l.length (ints l)]) := by
  have hv1 := hc.one
  refine Ret.enter Try.func19 rfl Try.ntmps19 rfl ?_
  refine Run.seq ?_
  refine Run.region ?_
  refine Ops.go rfl (Loud.alloc zero35 rfl) ?_
  rintro _ _ ⟨b2, rfl, rfl⟩
  refine Ops.nil ?_
  refine Run.seq ?_
  refine Run.region ?_
  refine Ops.pure rfl (Pure.move rfl) ?_
  refine Ops.go rfl (Loud.callR fn87 rfl (fun w hw => f_s_l00From w vc co hv1)) ?_
  rintro v4 _ ⟨L4, hQ4, rfl⟩
  obtain ⟨s4, rfl, rfl⟩ := hQ4
  refine Ops.go rfl (Loud.callO fn95 rfl (fun w hw => f_s_l02Draw _ w _ vc co 0 0 _ 5 (Sat.front 0 rfl hw) hc hb hcl (by omega) (by omega) (by omega))) ?_
  rintro v5 L5 hQ5
  obtain ⟨a5, c5, l5, x5, q5, sd5, ha5, hA5, hc5, hC5, hk5, h5, hq5, rfl, rfl⟩ := hQ5
  refine Ops.store (Stores.box 2 rfl rfl rfl size35 (one3 h5) rfl rfl) ?_
  refine Ops.nil ?_
  refine Run.retCx 2 rfl rfl rfl cell35 rfl (Ext.take 0 rfl (Ext.nil _)) ?_
  exact ⟨_, _, _, _, ha5, hA5, hc5, hC5, hk5, h5, rfl, rfl⟩

set_option maxRecDepth 4000 in
/-- spec.l03Back -/
theorem f_s_l03Back (w : World) (om : Wk) (hx : -1000 ≤ om.1 ∧ om.1 ≤ 1000) (hy : -1000 ≤ om.2.1 ∧ om.2.1 ≤ 1000) (hdx : -1000 ≤ om.2.2.1 ∧ om.2.2.1 ≤ 1000) (hdy : -1000 ≤ om.2.2.2 ∧ om.2.2.2 ≤ 1000) : RetV Try.prog 210 [.agg (encW om).toArray] w (.agg (encW (bk om)).toArray) := by
  refine Ret.enter Try.func210 rfl Try.ntmps210 rfl ?_
  refine Run.seq ?_
  refine Run.region ?_
  refine Ops.go rfl (Loud.box rfl rfl) ?_
  rintro _ _ ⟨b1, rfl, rfl⟩
  refine Ops.go rfl (Loud.alloc zero167 rfl) ?_
  rintro _ _ ⟨b2, rfl, rfl⟩
  refine Ops.nil ?_
  refine Run.seq ?_
  refine Any.start follows ?_
  refine Any.take 0 rfl (by kernel_rfl) rfl (QOp.pure (Pure.ldBA 1 rfl cell167 rfl rfl rfl)) ?_
  refine Any.take 1 rfl (by kernel_rfl) rfl (QOp.call fn226 rfl (fun w hw => f_s_l03Next w om.1 om.2.1 om.2.2.1 om.2.2.2 hx hy hdx hdy)) ?_
  refine Any.take 2 rfl (by kernel_rfl) rfl (QOp.pure (Pure.fieldAddrB fld167_1 rfl)) ?_
  refine Any.take 3 rfl (by kernel_rfl) rfl (QOp.pure (Pure.ldB 1 rfl cell2 rfl rfl)) ?_
  refine Any.take 4 rfl (by kernel_rfl) rfl (QOp.pure (Pure.neg rfl (by omega) (by omega))) ?_
  refine Any.take 5 rfl (by kernel_rfl) rfl (QOp.pure (Pure.fieldAddrB fld167_2 rfl)) ?_
  refine Any.take 6 rfl (by kernel_rfl) rfl (QOp.pure (Pure.ldB 1 rfl cell2 rfl rfl)) ?_
  refine Any.take 7 rfl (by kernel_rfl) rfl (QOp.pure (Pure.neg rfl (by omega) (by omega))) ?_
  refine Any.take 8 rfl (by kernel_rfl) rfl (QOp.pure (Pure.build rfl (bld167_3 _ _ _ _ (by first | rfl | assumption) (by first | rfl | assumption)))) ?_
  refine Any.one 9 (by kernel_rfl) ?_
  refine OneL.store rfl (Stores.box 0 rfl rfl rfl size167 (allOne rfl) rfl rfl) (by kernel_rfl) ?_
  refine Any.done (by kernel_rfl) ?_
  refine Run.retC 0 rfl rfl rfl cell167 rfl ?_
  rfl

theorem VW_all {a b : Int} {om : Wk} (hs : SizeOk a b) (h : VW a b om) : (-1000 ≤ om.1 ∧ om.1 ≤ 1000) ∧ (-1000 ≤ om.2.1 ∧ om.2.1 ≤ 1000) ∧ (-1000 ≤ om.2.2.1 ∧ om.2.2.1 ≤ 1000) ∧ (-1000 ≤ om.2.2.2 ∧ om.2.2.2 ≤ 1000) := by
  obtain ⟨x, y, dx, dy⟩ := om
  have := VW_mid hs h
  refine ⟨⟨?_, ?_⟩, ⟨?_, ?_⟩, ⟨?_, ?_⟩, ⟨?_, ?_⟩⟩ <;> simp only <;> omega

end Go.Proofs.Ytmfinopdokkjcaa
