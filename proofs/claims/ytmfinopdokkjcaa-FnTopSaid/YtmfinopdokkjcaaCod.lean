/- Contracts of functions, printed by program from annotations. -/
import Derived.Test.YtmfinopdokkjcaaPss2
import Derived.Test.YtmfinopdokkjcaaSS
namespace Go.Proofs.Ytmfinopdokkjcaa
open Go Go.AW Go.RowKit
set_option linter.unusedVariables false
set_option linter.unusedSimpArgs false

/-- a pass as a number of a code -/
def cdI (x : Int × Bool) : Int := if x.2 = true then x.1 + 1 else -x.1 - 1
theorem cdI_yes {x : Int × Bool} (h : x.2 = true) : cdI x = x.1 + 1 := by unfold cdI; rw [if_pos h]
theorem cdI_no {x : Int × Bool} (h : x.2 = false) : cdI x = -x.1 - 1 := by unfold cdI; rw [if_neg (by rw [h]; decide)]
def rowC (a b : Int) (l : List Int) (c : Nat) : List Int := (psL a b l c).map cdI
def codL (a b : Int) (l : List Int) (n : Nat) : List (List Int) := (List.range n).map (rowC a b l)
theorem length_codL (a b : Int) (l : List Int) (n : Nat) : (codL a b l n).length = n := by unfold codL; rw [List.length_map, List.length_range]
theorem codL_succ (a b : Int) (l : List Int) (n : Nat) : codL a b l (n + 1) = codL a b l n ++ [rowC a b l n] := by unfold codL; rw [List.range_succ, List.map_append]; rfl
theorem map_snoc {α β : Type} {f : α → β} {l : List α} {k : Nat} (d : α) (h : k < l.length) : (l.take (k + 1)).map f = (l.take k).map f ++ [f (l.getD k d)] := by rw [List.take_add_one, getD_some h d, List.map_append]; rfl
theorem pas_bd {a b : Int} {l : List Int} (hs : SizeOk a b) {ws : List Wk} (h : ∀ w ∈ ws, VW a b w) {x : Int × Bool} (hx : x ∈ pasL a b l ws) : 0 ≤ x.1 ∧ x.1 ≤ 112 := by
  unfold pasL at hx
  obtain ⟨w, hw, e⟩ := List.mem_filterMap.1 hx
  by_cases hc : CrAt a b l (w.1 + w.2.2.1) (w.2.1 + w.2.2.2)
  · rw [pasW_yes hc] at e
    cases e
    have h1 := h w hw
    have h2 := num_bd hs h1.2.2.2 hc.1
    have h3 := inn_eq hs
    have h4 := zlen_le l (num a (w.1 + w.2.2.1) (w.2.1 + w.2.2.2)).toNat
    show 0 ≤ ((zlen l (num a (w.1 + w.2.2.1) (w.2.1 + w.2.2.2)).toNat : Nat) : Int) ∧ ((zlen l (num a (w.1 + w.2.2.1) (w.2.1 + w.2.2.2)).toNat : Nat) : Int) ≤ 112
    omega
  · rw [pasW_no hc] at e; cases e
theorem psL_bd {a b c : Int} {l : List Int} {x : Int × Bool} (hx : x ∈ psL a b l c) : 0 ≤ x.1 ∧ x.1 ≤ 112 := by
  by_cases h : psE a b l c = 0
  · obtain ⟨h1, h2, h3⟩ := ps_zero h
    rw [(ps_ok h1 ⟨h2, h3⟩).2] at hx
    exact pas_bd (okP_size h1) (cur_VW (okP_size h1) (by unfold cnt at h3; omega)) hx
  · rw [psL_none h] at hx; cases hx
theorem psL_nat {a b : Int} {l : List Int} (h : okP a b l = true) {k : Nat} (hk : k < cnt a b l) : psL a b l (k : Int) = pasL a b l ((curL a b l).getD k []) := by
  rw [(ps_ok h (c := (k : Int)) ⟨by omega, by omega⟩).2, Int.toNat_natCast]
def coE (a b : Int) (l : List Int) : Int := if okP a b l = true then (if cnt a b l ≤ 40 then 0 else 5) else 1
def coL (a b : Int) (l : List Int) : List (List Int) := if coE a b l = 0 then codL a b l (cnt a b l) else []
theorem co_bad {a b : Int} {l : List Int} (h : okP a b l = false) : coE a b l = 1 ∧ coL a b l = [] := by
  have h1 : coE a b l = 1 := by unfold coE; rw [if_neg (by rw [h]; decide)]
  exact ⟨h1, by unfold coL; rw [h1]; rfl⟩
theorem co_full {a b : Int} {l : List Int} (h : okP a b l = true) (hn : ¬ cnt a b l ≤ 40) : coE a b l = 5 ∧ coL a b l = [] := by
  have h1 : coE a b l = 5 := by unfold coE; rw [if_pos h, if_neg hn]
  exact ⟨h1, by unfold coL; rw [h1]; rfl⟩
theorem co_ok {a b : Int} {l : List Int} (h : okP a b l = true) (hn : cnt a b l ≤ 40) : coE a b l = 0 ∧ coL a b l = codL a b l (cnt a b l) := by
  have h1 : coE a b l = 0 := by unfold coE; rw [if_pos h, if_pos hn]
  exact ⟨h1, by unfold coL; rw [h1]; rfl⟩
theorem tot_codL (a b : Int) (l : List Int) : ∀ n, tot (codL a b l n) ≤ n * 256
  | 0 => by simp [codL, tot]
  | n + 1 => by
    have ih := tot_codL a b l n
    have h2 := psL_size a b l n
    have e : tot (codL a b l (n + 1)) = tot (codL a b l n) + (rowC a b l n).length := by rw [codL_succ]; unfold tot; simp
    have e2 : (rowC a b l n).length = (psL a b l n).length := by unfold rowC; rw [List.length_map]
    omega
theorem coL_size (a b : Int) (l : List Int) : (coL a b l).length + tot (coL a b l) ≤ 20000 := by
  cases h : okP a b l with
  | false => rw [(co_bad h).2]; simp [tot]
  | true =>
    by_cases hn : cnt a b l ≤ 40
    · rw [(co_ok h hn).2, length_codL]
      have := tot_codL a b l (cnt a b l)
      omega
    · rw [(co_full h hn).2]; simp [tot]
theorem inner_app {us : List Value} {cs : List (List Int)} {u : Value} {ns : List Int} (h : us.length = cs.length) : inner (us ++ [u]) (cs ++ [ns]) = inner us cs ++ [.row 2 1 u ns.length (ints ns)] := by
  unfold inner
  rw [List.zipWith_append h]
  rfl
theorem Ext.front1 (y : Ent) (I : List Ent) : Ext (y :: I) (I ++ [y]) := ⟨[], by rw [List.append_nil]; exact List.perm_append_comm (l₁ := [y]) (l₂ := I)⟩
theorem Ext.snoc3 (x r y : Ent) (I G : List Ent) : Ext ((I ++ [r]) ++ G) (x :: r :: y :: (I ++ G)) := ⟨[x, y], by
  refine (List.perm_append_comm (l₂ := [x, y])).trans ?_
  show (x :: y :: ((I ++ [r]) ++ G)).Perm (x :: r :: y :: (I ++ G))
  refine List.Perm.cons x ?_
  refine (List.Perm.cons y (show ((I ++ [r]) ++ G).Perm (r :: (I ++ G)) by rw [List.append_assoc]; exact List.perm_middle)).trans ?_
  exact List.Perm.swap r y (I ++ G)⟩
/-- What a call gives that returns a code of its own and an error. -/
def retSC (ms : List (List Int)) (e : Int) : Value → List Ent → Prop := fun u L => ∃ x us, us.length = ms.length ∧ u = .tuple #[x, .int .i64 e] ∧ L = ssE x us ms
theorem retSC_nil {e : Int} {ms : List (List Int)} (h : ms = []) : retSC ms e (.tuple #[.slice none 0 0, .int .i64 e]) [.row 32 1 (.slice none 0 0) 0 []] := by
  subst h
  exact ⟨_, [], rfl, rfl, rfl⟩

set_option maxRecDepth 4000 in
set_option maxHeartbeats 800000 in
/-- impl.CodeOf -/
theorem f_i_CodeOf (w : World) (a : Int) (b : Int) (v : Value) (l : List Int) (hv : Rd w v 1 l.length (ints l)) (hl : l.length ≤ 1073741824) (a0 : -9223372036854775808 ≤ a) (a1 : a ≤ 9223372036854775807) (b0 : -9223372036854775808 ≤ b) (b1 : b ≤ 9223372036854775807) : Ret Try.prog 20 [.agg #[.int .i64 a, .int .i64 b, v]] w (retSC (coL a b l) (coE a b l)) := by
  refine Ret.enter Try.func20 rfl Try.ntmps20 rfl ?_
  refine Run.seq ?_
  refine Run.region ?_
  refine Ops.go rfl (Loud.box rfl rfl) ?_
  rintro _ _ ⟨b1, rfl, rfl⟩
  refine Ops.pure rfl (Pure.assign rfl) ?_
  refine Ops.pure rfl (Pure.assign rfl) ?_
  refine Ops.nil ?_
  refine Run.seq ?_
  refine Run.seq ?_
  refine Run.region ?_
  refine Ops.pure rfl (Pure.ldBA 0 rfl cell35 rfl rfl rfl) ?_
  refine Ops.q rfl (QOp.call fn96 rfl (fun w hw => f_i_ValidPanel w _ _ _ _ (by exact RdL.old (by assumption) w hw) (by assumption) (by assumption) (by assumption) (by assumption) (by assumption))) ?_
  refine Ops.pure rfl (Pure.not rfl) ?_
  refine Ops.nil ?_
  refine Run.cond rfl (fun c14 => ?_) (fun c14 => ?_)
  · skip
    replace c14 := bT c14
    refine Run.seq ?_
    refine Run.region ?_
    refine Ops.pure rfl (Pure.assign rfl) ?_
    refine Ops.pure rfl (Pure.assign rfl) ?_
    refine Ops.nil ?_
    refine Run.addNil 32 1 ?_
    refine Run.ext_ (Ext.take 0 rfl (Ext.nil _)) ?_
    refine Run.ret2 rfl rfl rfl ?_
    rw [(co_bad c14).1]
    exact retSC_nil (co_bad c14).2
  · skip
    replace c14 := bF c14
    have hs := okP_size c14
    have hsl := segN_le hs
    refine Run.skip ?_
    refine Run.seq ?_
    refine Run.region ?_
    refine Ops.pure rfl (Pure.ldBA 0 rfl cell35 rfl rfl rfl) ?_
    refine Ops.go rfl (Loud.callR fn97 rfl (fun w hw => f_i_Panel_trace w _ _ _ _ (by exact RdL.old (by assumption) w hw) (by assumption))) ?_
    rintro v17 _ ⟨L17, hQ17, rfl⟩
    obtain ⟨x17, y17, us17, hus17, rfl, rfl⟩ := hQ17
    refine Ops.pure rfl (Pure.move rfl) ?_
    refine Ops.pure rfl (Pure.extract rfl rfl) ?_
    refine Ops.pure rfl (Pure.extract rfl rfl) ?_
    refine Ops.pure rfl (Pure.assign rfl) ?_
    refine Ops.pure rfl (Pure.assign rfl) ?_
    refine Ops.nil ?_
    refine Run.seq ?_
    refine Run.seq ?_
    refine Run.region ?_
    refine Ops.pure rfl (Pure.move rfl) ?_
    refine Ops.pure rfl (Pure.len sl102 (RdL.own 1 rfl) rfl) ?_
    refine Ops.pure rfl (Pure.gtr rfl rfl) ?_
    refine Ops.nil ?_
    refine Run.cond rfl (fun c22 => ?_) (fun c22 => ?_)
    · skip
      replace c22 := dT c22
      refine Run.seq ?_
      refine Run.region ?_
      refine Ops.pure rfl (Pure.assign rfl) ?_
      refine Ops.pure rfl (Pure.assign rfl) ?_
      refine Ops.nil ?_
      refine Run.addNil 32 1 ?_
      refine Run.ext_ (Ext.take 0 rfl (Ext.nil _)) ?_
      refine Run.ret2 rfl rfl rfl ?_
      rw [(co_full c14 (by omega)).1]
      exact retSC_nil (co_full c14 (by omega)).2
    · skip
      replace c22 := dF c22
      refine Run.skip ?_
      refine Run.seq ?_
      refine Run.ext_ (Ext.take 1 rfl (Ext.trans (Ext.front1 _ _) (Ext.right [_] _))) ?_
      refine Run.region ?_
      refine Ops.go rfl (Loud.lit sl24 rfl rfl rfl (by simp [Value.oneCell'])) ?_
      rintro v23 _ rfl
      refine Ops.pure rfl (Pure.assign rfl) ?_
      refine Ops.nil ?_
      refine Run.seq ?_
      refine Run.seq ?_
      refine Run.region ?_
      refine Ops.pure rfl (Pure.move rfl) ?_
      refine Ops.pure rfl (Pure.len sl102 (RdL.own 1 rfl) rfl) ?_
      refine Ops.pure rfl (Pure.move rfl) ?_
      refine Ops.nil ?_
      refine Run.block ?_
      refine Run.loop3 (X := Nat) (Y := Value) (Z := List Value) (fun k vo us => [(1, .pointer (some ⟨b1, 0, none⟩)), (6, vo), (24, x17), (25, .int .i64 (cnt a b l : Int)), (26, .int .i64 k)]) (fun k vo us => .row 32 1 vo k us :: .row 105 1 x17 (cnt a b l) us17 :: .box b1 35 [.int .i64 a, .int .i64 b, v] :: (inner us (codL a b l k) ++ innerG 167 4 encW us17 (curL a b l))) (fun k vo us => k ≤ cnt a b l ∧ us.length = k) (fun k vo us => cnt a b l - k) 0 v23 [] ?_ ?_ ?_ ?_
      · exact ⟨Nat.zero_le _, rfl⟩
      · exact ⟨rfl, rfl, rfl, rfl, rfl, trivial⟩
      · exact Ext.refl _
      · intro k vo us hinv0
        have hcl2 : k < cnt a b l → k < (curL a b l).length := fun h => h
        refine Run.seq ?_
        refine Run.region ?_
        refine Ops.pure rfl (Pure.lss rfl rfl) ?_
        refine Ops.nil ?_
        refine Run.seq ?_
        refine Run.cond rfl (fun c27 => ?_) (fun c27 => ?_)
        · skip
          replace c27 := dT c27
          refine Run.skip ?_
          refine Run.seq ?_
          refine Run.block ?_
          refine Run.seq ?_
          refine Run.region ?_
          refine Ops.pure rfl (Pure.idx1N sl102 (RdL.own 1 rfl) rfl rfl (by first | assumption | omega | (simp; omega))) ?_
          refine Ops.pure rfl (Pure.ld cell105 rfl (RdL.own 1 rfl) (by first | exact ints_get (by omega) | exact bools_get (by omega) | exact strs_get (by omega) | exact vals_get (by first | omega | (simp; omega)))) ?_
          refine Ops.pure rfl (Pure.assign rfl) ?_
          refine Ops.nil ?_
          refine Run.seq ?_
          refine Run.region ?_
          refine Ops.go rfl (Loud.lit sl32 rfl rfl rfl (by simp [Value.oneCell'])) ?_
          rintro v30 _ rfl
          refine Ops.pure rfl (Pure.assign rfl) ?_
          refine Ops.nil ?_
          refine Run.seq ?_
          refine Run.seq ?_
          have hkc : k < cnt a b l := by omega
          have hcz := cur_len (l := l) hs (hcl2 hkc)
          have hps := psL_nat c14 hkc
          refine Run.region ?_
          refine Ops.pure rfl (Pure.ldBA 3 rfl cell35 rfl rfl rfl) ?_
          refine Ops.pure rfl (Pure.move rfl) ?_
          refine Ops.go rfl (Loud.callR fn98 rfl (fun w hw => f_i_Panel_passes w a b v l (us17.getD k undef) ((curL a b l).getD k []) (RdL.old hv w hw) c14 (RdL.mem (List.mem_cons_of_mem _ (List.mem_cons_of_mem _ (List.mem_cons_of_mem _ (List.mem_cons_of_mem _ (List.mem_append_right _ (innerG_mem hus17 (hcl2 hkc))))))) w hw) (by omega) (cur_VW hs (hcl2 hkc)))) ?_
          rintro v33 _ ⟨L33, hQ33, rfl⟩
          subst hQ33
          rw [← hps]
          refine Ops.pure rfl (Pure.len sl88 (RdL.own 0 rfl) rfl) ?_
          refine Ops.pure rfl (Pure.move rfl) ?_
          refine Ops.nil ?_
          refine Run.block ?_
          refine Run.loop2 (X := Nat) (Y := Value) (fun j vr => [(1, .pointer (some ⟨b1, 0, none⟩)), (6, vo), (9, vr), (24, x17), (25, .int .i64 (cnt a b l : Int)), (26, .int .i64 k), (33, v33), (34, .int .i64 (psL a b l (k : Int)).length), (35, .int .i64 j)]) (fun j vr => .row 2 1 vr j (ints (((psL a b l (k : Int)).take j).map cdI)) :: .row 108 2 v33 (psL a b l (k : Int)).length (passes (psL a b l (k : Int))) :: .row 32 1 vo k us :: .row 105 1 x17 (cnt a b l) us17 :: .box b1 35 [.int .i64 a, .int .i64 b, v] :: (inner us (codL a b l k) ++ innerG 167 4 encW us17 (curL a b l))) (fun j vr => j ≤ (psL a b l (k : Int)).length) (fun j vr => (psL a b l (k : Int)).length - j) 0 v30 ?_ ?_ ?_ ?_
          · exact Nat.zero_le _
          · exact ⟨rfl, rfl, rfl, rfl, rfl, rfl, rfl, rfl, rfl, trivial⟩
          · exact Ext.take 1 rfl (Ext.take 0 rfl (Ext.refl _))
          · intro j vr hinv1
            have hbx := fun (h : j < (psL a b l (k : Int)).length) => psL_bd (mem_getD (0, false) h)
            have hpz := psL_size a b l (k : Int)
            refine Run.seq ?_
            refine Run.region ?_
            refine Ops.pure rfl (Pure.lss rfl rfl) ?_
            refine Ops.nil ?_
            refine Run.seq ?_
            refine Run.cond rfl (fun c36 => ?_) (fun c36 => ?_)
            · skip
              replace c36 := dT c36
              refine Run.skip ?_
              refine Run.seq ?_
              refine Run.block ?_
              refine Run.seq ?_
              refine Run.region ?_
              refine Ops.pure rfl (Pure.idxN sl88 (RdL.own 1 rfl) rfl rfl (by first | assumption | omega | (simp; omega))) ?_
              refine Ops.pure rfl (Pure.ldA cell108 rfl (RdL.own 1 rfl) (seg_get encP_len (by omega) (0, false)) rfl (by decide)) ?_
              refine Ops.go rfl (Loud.alloc zero108 rfl) ?_
              rintro _ _ ⟨b11, rfl, rfl⟩
              refine Ops.store (Stores.box 0 rfl rfl rfl size108 (allOne rfl) rfl rfl) ?_
              refine Ops.nil ?_
              refine Run.seq ?_
              have hbx2 := hbx (by omega)
              refine Run.region ?_
              refine Ops.pure rfl (Pure.fieldAddrB fld108_1 rfl) ?_
              refine Ops.pure rfl (Pure.ldB 0 rfl cell4 rfl rfl) ?_
              refine Ops.nil ?_
              refine Run.cond rfl (fun c40 => ?_) (fun c40 => ?_)
              · skip
                skip
                refine Run.region ?_
                refine Ops.pure rfl (Pure.move rfl) ?_
                refine Ops.pure rfl (Pure.fieldAddrB fld108_0 rfl) ?_
                refine Ops.pure rfl (Pure.ldB 0 rfl cell2 rfl rfl) ?_
                refine Ops.pure rfl (Pure.add rfl rfl (by omega) (by omega)) ?_
                refine Ops.go rfl (Loud.lit sl32 rfl rfl rfl (by simp [Value.oneCell'])) ?_
                rintro v45 _ rfl
                refine Ops.go rfl (Loud.append 2 rfl sl32 rfl rfl (RdL.own 0 rfl) (by simp [Value.oneCell']) (by omega) (by omega)) ?_
                rintro v46 _ rfl
                refine Ops.pure rfl (Pure.assign rfl) ?_
                refine Ops.nil ?_
                refine Run.blk ?_
                refine Run.region ?_
                refine Ops.pure rfl (Pure.add rfl rfl (by omega) (by omega)) ?_
                refine Ops.pure rfl (Pure.move rfl) ?_
                refine Ops.nil ?_
                refine Run.asrt ?_
                first
                  | (refine ⟨j + 1, v46, ⟨by omega, by omega⟩, ⟨rfl, rfl, rfl, rfl, rfl, rfl, rfl, rfl, rfl, trivial⟩, Ext.trans (Ext.eq ?_) (Ext.take 2 rfl (Ext.right [_, _] _))⟩
                     rw [map_snoc (0, false) (by omega), cdI_yes c40, ints, List.map_append]
                     rfl)
                  | (refine ⟨j + 1, v53, ⟨by omega, by omega⟩, ⟨rfl, rfl, rfl, rfl, rfl, rfl, rfl, rfl, rfl, trivial⟩, Ext.trans (Ext.eq ?_) (Ext.take 2 rfl (Ext.right [_, _] _))⟩
                     rw [map_snoc (0, false) (by omega), cdI_no c40, ints, List.map_append]
                     rfl)
              · skip
                skip
                refine Run.region ?_
                refine Ops.pure rfl (Pure.move rfl) ?_
                refine Ops.pure rfl (Pure.fieldAddrB fld108_0 rfl) ?_
                refine Ops.pure rfl (Pure.ldB 0 rfl cell2 rfl rfl) ?_
                refine Ops.pure rfl (Pure.neg rfl (by omega) (by omega)) ?_
                refine Ops.pure rfl (Pure.sub rfl rfl (by omega) (by omega)) ?_
                refine Ops.go rfl (Loud.lit sl32 rfl rfl rfl (by simp [Value.oneCell'])) ?_
                rintro v52 _ rfl
                refine Ops.go rfl (Loud.append 2 rfl sl32 rfl rfl (RdL.own 0 rfl) (by simp [Value.oneCell']) (by omega) (by omega)) ?_
                rintro v53 _ rfl
                refine Ops.pure rfl (Pure.assign rfl) ?_
                refine Ops.nil ?_
                refine Run.blk ?_
                refine Run.region ?_
                refine Ops.pure rfl (Pure.add rfl rfl (by omega) (by omega)) ?_
                refine Ops.pure rfl (Pure.move rfl) ?_
                refine Ops.nil ?_
                refine Run.asrt ?_
                first
                  | (refine ⟨j + 1, v46, ⟨by omega, by omega⟩, ⟨rfl, rfl, rfl, rfl, rfl, rfl, rfl, rfl, rfl, trivial⟩, Ext.trans (Ext.eq ?_) (Ext.take 2 rfl (Ext.right [_, _] _))⟩
                     rw [map_snoc (0, false) (by omega), cdI_yes c40, ints, List.map_append]
                     rfl)
                  | (refine ⟨j + 1, v53, ⟨by omega, by omega⟩, ⟨rfl, rfl, rfl, rfl, rfl, rfl, rfl, rfl, rfl, trivial⟩, Ext.trans (Ext.eq ?_) (Ext.take 2 rfl (Ext.right [_, _] _))⟩
                     rw [map_snoc (0, false) (by omega), cdI_no c40, ints, List.map_append]
                     rfl)
            · skip
              replace c36 := dF c36
              refine Run.exit rfl ?_
              have e : j = (psL a b l (k : Int)).length := by omega
              subst e
              rw [List.take_length]
              refine Run.have_ (fun w hw => row_one 0 hw rfl) (fun hvw => ?_)
              refine Run.region ?_
              refine Ops.pure rfl (Pure.move rfl) ?_
              refine Ops.pure rfl (Pure.move rfl) ?_
              refine Ops.go rfl (Loud.lit sl24 rfl rfl rfl (by simp [hvw])) ?_
              rintro v57 _ rfl
              refine Ops.go rfl (Loud.append 3 rfl sl24 rfl rfl (RdL.own 0 rfl) (by simp [hvw]) (by omega) (by omega)) ?_
              rintro v58 _ rfl
              refine Ops.pure rfl (Pure.assign rfl) ?_
              refine Ops.nil ?_
              refine Run.blk ?_
              refine Run.region ?_
              refine Ops.pure rfl (Pure.add rfl rfl (by omega) (by omega)) ?_
              refine Ops.pure rfl (Pure.move rfl) ?_
              refine Ops.nil ?_
              refine Run.asrt ?_
              refine ⟨k + 1, v58, us ++ [vr], ⟨⟨by omega, by rw [List.length_append, hinv0.2]; rfl⟩, by omega⟩, ⟨rfl, rfl, rfl, rfl, rfl, trivial⟩, ?_⟩
              rw [codL_succ, inner_app (by rw [length_codL]; exact hinv0.2)]
              refine Ext.take 3 rfl (Ext.take 3 rfl (Ext.take 3 rfl ?_))
              unfold rowC
              rw [List.length_map]
              exact Ext.snoc3 _ _ _ _ _
        · skip
          replace c27 := dF c27
          refine Run.exit rfl ?_
          refine Run.seq ?_
          refine Run.region ?_
          refine Ops.pure rfl (Pure.move rfl) ?_
          refine Ops.pure rfl (Pure.assign rfl) ?_
          refine Ops.pure rfl (Pure.assign rfl) ?_
          refine Ops.nil ?_
          have e : k = cnt a b l := by omega
          subst e
          refine Run.ext_ (Ext.take 0 rfl (Ext.trans (Ext.left _ _) (Ext.right [_, _] _))) ?_
          refine Run.ret2 rfl rfl rfl ?_
          rw [(co_ok c14 (by omega)).1, (co_ok c14 (by omega)).2]
          exact ⟨_, us, by rw [length_codL]; exact hinv0.2, rfl, by unfold ssE; rw [length_codL]⟩

set_option maxRecDepth 4000 in
set_option maxHeartbeats 800000 in
/-- spec.l14Of -/
theorem f_s_l14Of (w : World) (p : Nat) (a : Int) (b : Int) (v : Value) (l : List Int) (hp : Rd w (boxS p) 3 1 [.int .i64 a, .int .i64 b, v]) (hv : Rd w v 1 l.length (ints l)) (hk : okP a b l = true) (hl : l.length ≤ 1073741824) (hn : cnt a b l ≤ 40) : Ret Try.prog 165 [.pointer (some ⟨p, 0, none⟩)] w (fun u L => ∃ us : List Value, us.length = cnt a b l ∧ L = ssE u us (codL a b l (cnt a b l))) := by
  have hs := okP_size hk
  obtain ⟨hs1, hs2, hs3, hs4⟩ := id hs
  refine Ret.enter Try.func165 rfl Try.ntmps165 rfl ?_
  refine Run.seq ?_
  refine Run.region ?_
  refine Ops.pure rfl (Pure.assign rfl) ?_
  refine Ops.nil ?_
  refine Run.seq ?_
  refine Run.region ?_
  refine Ops.go rfl (Loud.lit sl24 rfl rfl rfl (by simp [Value.oneCell'])) ?_
  rintro v11 _ rfl
  refine Ops.pure rfl (Pure.assign rfl) ?_
  refine Ops.nil ?_
  refine Run.seq ?_
  refine Run.region ?_
  refine Ops.pure rfl (Pure.move rfl) ?_
  refine Ops.q rfl (QOp.call fn122 rfl (fun w hw => f_s_l04Count w _ _ _ _ _ (by exact RdL.old (by assumption) w hw) (by exact RdL.old (by assumption) w hw) (by assumption))) ?_
  refine Ops.pure rfl (Pure.assign rfl) ?_
  refine Ops.nil ?_
  refine Run.seq ?_
  refine Run.seq ?_
  refine Run.region ?_
  refine Ops.pure rfl (Pure.assign rfl) ?_
  refine Ops.nil ?_
  refine Run.block ?_
  refine Run.loop3 (X := Nat) (Y := Value) (Z := List Value) (fun k vo us => [(0, .pointer (some ⟨p, 0, none⟩)), (3, vo), (4, .int .i64 (cnt a b l : Int)), (5, .int .i64 k)]) (fun k vo us => .row 32 1 vo k us :: inner us (codL a b l k)) (fun k vo us => k ≤ cnt a b l ∧ us.length = k) (fun k vo us => cnt a b l - k) 0 v11 [] ?_ ?_ ?_ ?_
  · exact ⟨Nat.zero_le _, rfl⟩
  · exact ⟨rfl, rfl, rfl, rfl, trivial⟩
  · exact Ext.refl _
  · intro k vo us hinv0
    refine Run.seq ?_
    refine Run.seq ?_
    refine Run.region ?_
    refine Ops.pure rfl (Pure.move rfl) ?_
    refine Ops.pure rfl (Pure.move rfl) ?_
    refine Ops.pure rfl (Pure.lss rfl rfl) ?_
    refine Ops.nil ?_
    refine Run.cond rfl (fun c16 => ?_) (fun c16 => ?_)
    · skip
      replace c16 := dT c16
      refine Run.skip ?_
      refine Run.seq ?_
      refine Run.block ?_
      refine Run.seq ?_
      refine Run.region ?_
      refine Ops.pure rfl (Pure.move rfl) ?_
      refine Ops.pure rfl (Pure.move rfl) ?_
      refine Ops.go rfl (Loud.callR fn214 rfl (fun w hw => f_s_l13Of w p a b v l _ (RdL.old hp w hw) (RdL.old hv w hw) hl (by omega) (by omega) (by omega) (by omega))) ?_
      rintro v22 _ ⟨L22, hQ22, rfl⟩
      obtain ⟨x22, rfl, rfl⟩ := hQ22
      refine Ops.pure rfl (Pure.move rfl) ?_
      refine Ops.pure rfl (Pure.extract rfl rfl) ?_
      refine Ops.pure rfl (Pure.extract rfl rfl) ?_
      refine Ops.pure rfl (Pure.assign rfl) ?_
      refine Ops.pure rfl (Pure.assign rfl) ?_
      refine Ops.nil ?_
      refine Run.seq ?_
      refine Run.region ?_
      refine Ops.go rfl (Loud.lit sl32 rfl rfl rfl (by simp [Value.oneCell'])) ?_
      rintro v25 _ rfl
      refine Ops.pure rfl (Pure.assign rfl) ?_
      refine Ops.nil ?_
      refine Run.seq ?_
      refine Run.seq ?_
      refine Run.region ?_
      refine Ops.pure rfl (Pure.assign rfl) ?_
      refine Ops.nil ?_
      refine Run.block ?_
      refine Run.loop2 (X := Nat) (Y := Value) (fun j vr => [(0, .pointer (some ⟨p, 0, none⟩)), (3, vo), (4, .int .i64 (cnt a b l : Int)), (5, .int .i64 k), (6, x22), (8, vr), (9, .int .i64 j)]) (fun j vr => .row 2 1 vr j (ints (((psL a b l (k : Int)).take j).map cdI)) :: .row 108 2 x22 (psL a b l (k : Int)).length (passes (psL a b l (k : Int))) :: .row 32 1 vo k us :: inner us (codL a b l k)) (fun j vr => j ≤ (psL a b l (k : Int)).length) (fun j vr => (psL a b l (k : Int)).length - j) 0 v25 ?_ ?_ ?_ ?_
      · exact Nat.zero_le _
      · exact ⟨rfl, rfl, rfl, rfl, rfl, rfl, rfl, trivial⟩
      · exact Ext.refl _
      · intro j vr hinv1
        have hbx := fun (h : j < (psL a b l (k : Int)).length) => psL_bd (mem_getD (0, false) h)
        have hpz := psL_size a b l (k : Int)
        refine Run.seq ?_
        refine Run.seq ?_
        refine Run.region ?_
        refine Ops.pure rfl (Pure.move rfl) ?_
        refine Ops.pure rfl (Pure.move rfl) ?_
        refine Ops.pure rfl (Pure.len sl88 (RdL.own 1 rfl) rfl) ?_
        refine Ops.pure rfl (Pure.lss rfl rfl) ?_
        refine Ops.nil ?_
        refine Run.cond rfl (fun c29 => ?_) (fun c29 => ?_)
        · skip
          replace c29 := dT c29
          refine Run.skip ?_
          refine Run.seq ?_
          refine Run.block ?_
          refine Run.seq ?_
          have hbx2 := hbx (by omega)
          refine Run.region ?_
          refine Ops.pure rfl (Pure.move rfl) ?_
          refine Ops.pure rfl (Pure.move rfl) ?_
          refine Ops.pure rfl (Pure.idxN sl88 (RdL.own 1 rfl) rfl rfl (by first | assumption | omega | (simp; omega))) ?_
          refine Ops.pure rfl (Pure.fieldAddr fld108_0 rfl (RdL.own 1 rfl) (by first | omega | (simp; omega))) ?_
          refine Ops.pure rfl (Pure.ld cell2 rfl (RdL.own 1 rfl) (fget encP_len (by omega) (0, false) rfl)) ?_
          refine Ops.pure rfl (Pure.add rfl rfl (by omega) (by omega)) ?_
          refine Ops.pure rfl (Pure.assign rfl) ?_
          refine Ops.nil ?_
          refine Run.seq ?_
          refine Run.seq ?_
          refine Run.region ?_
          refine Ops.pure rfl (Pure.move rfl) ?_
          refine Ops.pure rfl (Pure.move rfl) ?_
          refine Ops.pure rfl (Pure.idxN sl88 (RdL.own 1 rfl) rfl rfl (by first | assumption | omega | (simp; omega))) ?_
          refine Ops.pure rfl (Pure.fieldAddr fld108_1 rfl (RdL.own 1 rfl) (by first | omega | (simp; omega))) ?_
          refine Ops.pure rfl (Pure.ld cell4 rfl (RdL.own 1 rfl) (fget encP_len (by omega) (0, false) rfl)) ?_
          refine Ops.pure rfl (Pure.not rfl) ?_
          refine Ops.nil ?_
          refine Run.cond rfl (fun c43 => ?_) (fun c43 => ?_)
          · skip
            replace c43 := bT c43
            refine Run.region ?_
            refine Ops.pure rfl (Pure.move rfl) ?_
            refine Ops.pure rfl (Pure.neg rfl (by omega) (by omega)) ?_
            refine Ops.pure rfl (Pure.assign rfl) ?_
            refine Ops.nil ?_
            first
              | refine Run.setv 10 rfl (congrArg (Value.int .i64) (show -(((psL a b l (k : Int)).getD j (0, false)).1 + 1) = cdI ((psL a b l (k : Int)).getD j (0, false)) by rw [cdI_no c43]; omega)) ?_
              | refine Run.setv 10 rfl (congrArg (Value.int .i64) (cdI_yes c43).symm) ?_
            refine Run.region ?_
            refine Ops.pure rfl (Pure.move rfl) ?_
            refine Ops.pure rfl (Pure.move rfl) ?_
            refine Ops.go rfl (Loud.lit sl32 rfl rfl rfl (by simp [Value.oneCell'])) ?_
            rintro v48 _ rfl
            refine Ops.go rfl (Loud.append 1 rfl sl32 rfl rfl (RdL.own 0 rfl) (by simp [Value.oneCell']) (by omega) (by omega)) ?_
            rintro v49 _ rfl
            refine Ops.pure rfl (Pure.assign rfl) ?_
            refine Ops.nil ?_
            refine Run.blk ?_
            refine Run.region ?_
            refine Ops.pure rfl (Pure.move rfl) ?_
            refine Ops.pure rfl (Pure.add rfl rfl (by omega) (by omega)) ?_
            refine Ops.pure rfl (Pure.assign rfl) ?_
            refine Ops.nil ?_
            refine Run.asrt ?_
            refine ⟨j + 1, v49, ⟨by omega, by omega⟩, ⟨rfl, rfl, rfl, rfl, rfl, rfl, rfl, trivial⟩, Ext.trans (Ext.eq ?_) (Ext.take 1 rfl (Ext.right [_] _))⟩
            rw [map_snoc (0, false) (by omega), ints, List.map_append]
            rfl
          · skip
            replace c43 := bF c43
            refine Run.skip ?_
            first
              | refine Run.setv 10 rfl (congrArg (Value.int .i64) (show -(((psL a b l (k : Int)).getD j (0, false)).1 + 1) = cdI ((psL a b l (k : Int)).getD j (0, false)) by rw [cdI_no c43]; omega)) ?_
              | refine Run.setv 10 rfl (congrArg (Value.int .i64) (cdI_yes c43).symm) ?_
            refine Run.region ?_
            refine Ops.pure rfl (Pure.move rfl) ?_
            refine Ops.pure rfl (Pure.move rfl) ?_
            refine Ops.go rfl (Loud.lit sl32 rfl rfl rfl (by simp [Value.oneCell'])) ?_
            rintro v48 _ rfl
            refine Ops.go rfl (Loud.append 1 rfl sl32 rfl rfl (RdL.own 0 rfl) (by simp [Value.oneCell']) (by omega) (by omega)) ?_
            rintro v49 _ rfl
            refine Ops.pure rfl (Pure.assign rfl) ?_
            refine Ops.nil ?_
            refine Run.blk ?_
            refine Run.region ?_
            refine Ops.pure rfl (Pure.move rfl) ?_
            refine Ops.pure rfl (Pure.add rfl rfl (by omega) (by omega)) ?_
            refine Ops.pure rfl (Pure.assign rfl) ?_
            refine Ops.nil ?_
            refine Run.asrt ?_
            refine ⟨j + 1, v49, ⟨by omega, by omega⟩, ⟨rfl, rfl, rfl, rfl, rfl, rfl, rfl, trivial⟩, Ext.trans (Ext.eq ?_) (Ext.take 1 rfl (Ext.right [_] _))⟩
            rw [map_snoc (0, false) (by omega), ints, List.map_append]
            rfl
        · skip
          replace c29 := dF c29
          refine Run.exit rfl ?_
          have e : j = (psL a b l (k : Int)).length := by omega
          subst e
          rw [List.take_length]
          refine Run.have_ (fun w hw => row_one 0 hw rfl) (fun hvw => ?_)
          refine Run.region ?_
          refine Ops.pure rfl (Pure.move rfl) ?_
          refine Ops.pure rfl (Pure.move rfl) ?_
          refine Ops.go rfl (Loud.lit sl24 rfl rfl rfl (by simp [hvw])) ?_
          rintro v52 _ rfl
          refine Ops.go rfl (Loud.append 3 rfl sl24 rfl rfl (RdL.own 0 rfl) (by simp [hvw]) (by omega) (by omega)) ?_
          rintro v53 _ rfl
          refine Ops.pure rfl (Pure.assign rfl) ?_
          refine Ops.nil ?_
          refine Run.blk ?_
          refine Run.region ?_
          refine Ops.pure rfl (Pure.move rfl) ?_
          refine Ops.pure rfl (Pure.add rfl rfl (by omega) (by omega)) ?_
          refine Ops.pure rfl (Pure.assign rfl) ?_
          refine Ops.nil ?_
          refine Run.asrt ?_
          refine ⟨k + 1, v53, us ++ [vr], ⟨⟨by omega, by rw [List.length_append, hinv0.2]; rfl⟩, by omega⟩, ⟨rfl, rfl, rfl, rfl, trivial⟩, ?_⟩
          rw [codL_succ, inner_app (by rw [length_codL]; exact hinv0.2)]
          refine Ext.take 3 rfl ?_
          unfold rowC
          rw [List.length_map]
          exact Ext.snoc2 _ _ _ _
    · skip
      replace c16 := dF c16
      refine Run.exit rfl ?_
      refine Run.seq ?_
      refine Run.region ?_
      refine Ops.pure rfl (Pure.move rfl) ?_
      refine Ops.pure rfl (Pure.assign rfl) ?_
      refine Ops.nil ?_
      refine Run.ret1 rfl rfl ?_
      have e : k = cnt a b l := by omega
      subst e
      exact ⟨us, hinv0.2, by unfold ssE; rw [length_codL]⟩

end Go.Proofs.Ytmfinopdokkjcaa
