/- Contracts of functions, printed by program from annotations. -/
import Derived.Test.YtmfinopdokkjcaaLawC
namespace Go.Proofs.Ytmfinopdokkjcaa
open Go Go.AW Go.RowKit
set_option linter.unusedVariables false
set_option linter.unusedSimpArgs false

/-- a list whose first k places are those of another -/
def overTo {α : Type} (m l : List α) (k : Nat) : List α := m.take k ++ l.drop k
theorem overTo_zero {α : Type} (m l : List α) : overTo m l 0 = l := by simp [overTo]
theorem overTo_full {α : Type} {m l : List α} {k : Nat} (h : m.length = l.length) (hk : k = l.length) : overTo m l k = m := by
  subst hk
  unfold overTo
  rw [List.drop_length, List.append_nil, List.take_of_length_le (by omega)]
theorem length_overTo {α : Type} {m l : List α} {k : Nat} (h : m.length = l.length) : (overTo m l k).length = l.length := by
  unfold overTo
  rw [List.length_append, List.length_take, List.length_drop]
  omega
theorem overTo_getD {α : Type} {m l : List α} {k : Nat} (d : α) (h : m.length = l.length) (hk : k < l.length) : (overTo m l k).getD k d = l.getD k d := by
  have hl : (m.take k).length = k := by rw [List.length_take]; omega
  unfold overTo
  rw [List.getD_eq_getElem?_getD, List.getElem?_append_right (by omega), hl, Nat.sub_self]
  simp [List.getD]
theorem overTo_step {α : Type} {m l : List α} {k : Nat} (d : α) (h : m.length = l.length) (hk : k < l.length) : (overTo m l k).set k (m.getD k d) = overTo m l (k + 1) := by
  have hl : (m.take k).length = k := by rw [List.length_take]; omega
  unfold overTo
  rw [List.set_append, if_neg (by omega), hl, Nat.sub_self, List.drop_eq_getElem_cons hk, List.set_cons_zero, List.take_add_one, getD_some (by omega) d]
  simp
theorem getD_map {α β : Type} (f : α → β) (l : List α) (k : Nat) (d : α) (e : β) (h : k < l.length) : (l.map f).getD k e = f (l.getD k d) := by
  simp [List.getD, h]
theorem ints_set (l : List Int) (k : Nat) (x : Int) : (ints l).set k (.int .i64 x) = ints (l.set k x) := by rw [ints, ints, List.map_set]

theorem validB_bound {ls : List (List Int)} (h : validB ls = true) {i j : Nat} (hi : i < ls.length) (hj : j < (ls.getD i []).length) : -120 ≤ (ls.getD i []).getD j 0 ∧ (ls.getD i []).getD j 0 ≤ 120 := by
  obtain ⟨h1, h2, h3, h4⟩ := validB_len h
  have hm : (ls.getD i []).getD j 0 ∈ ls.flatten := by
    obtain ⟨r, hr⟩ := pre_prefix (j := j + 1) hi
    rw [pre_snoc hj] at hr
    rw [hr]; simp
  have := (h4.1 _ hm).2
  omega

/-- What a call gives that returns a code of its own and an error. -/
def retSS (ms : List (List Int)) (e : Int) : Value → List Ent → Prop := fun u L => ∃ x us, us.length = ms.length ∧ u = .tuple #[x, .int .i64 e] ∧ L = ssE x us ms

def negR (l : List Int) : List Int := l.map fun x => -x
theorem negR_getD {l : List Int} {j : Nat} (h : j < l.length) : (negR l).getD j 0 = -(l.getD j 0) := getD_map _ l j 0 0 h
def mirC (ls : List (List Int)) : List (List Int) := if validB ls then ls.map negR else []
def okM (ls : List (List Int)) : Int := if validB ls then 0 else 1
theorem ss_perm {x : Value} {us : List Value} {ls : List (List Int)} {L : List Ent} (h : L = ssE x us ls) : Ext (ssE x us ls ++ []) L := Ext.eq (by rw [h, List.append_nil])
theorem retSS_nil {e : Int} {ms : List (List Int)} (h : ms = []) : retSS ms e (.tuple #[.slice none 0 0, .int .i64 e]) [.row 32 1 (.slice none 0 0) 0 []] := by
  subst h
  exact ⟨_, [], rfl, rfl, rfl⟩
theorem mirC_bad {ls : List (List Int)} (h : validB ls = false) : mirC ls = [] ∧ okM ls = 1 := by unfold mirC okM; rw [h]; exact ⟨rfl, rfl⟩
theorem mirC_ok {ls : List (List Int)} (h : validB ls = true) : mirC ls = ls.map negR ∧ okM ls = 0 := by unfold mirC okM; rw [h]; exact ⟨rfl, rfl⟩
theorem tot_map {f : List Int → List Int} (hf : ∀ l, (f l).length = l.length) (ls : List (List Int)) : tot (ls.map f) = tot ls := by
  unfold tot
  rw [List.map_map]
  congr 1
  apply List.map_congr_left
  intro l _
  exact hf l
theorem mirC_size {ls : List (List Int)} (hb : ls.length + tot ls ≤ 1073741824) : (mirC ls).length + tot (mirC ls) ≤ 1073741824 := by
  unfold mirC
  cases validB ls with
  | true => rw [if_pos rfl, List.length_map, tot_map (by intro l; simp [negR])]; exact hb
  | false => simp [tot]

set_option maxRecDepth 4000 in
/-- impl.cloneCode -/
theorem f_i_cloneCode (w : World) (v : Value) (ls : List (List Int)) (hs : RdSS w v ls) (hb : ls.length + tot ls ≤ 1073741824) : Ret Try.prog 88 [v] w (fun u L => ∃ us : List Value, us.length = ls.length ∧ L = ssE u us ls) := by
  have hs0 := hs
  obtain ⟨vs, hvl, hv, hr⟩ := hs
  refine Ret.enter Try.func88 rfl Try.ntmps88 rfl ?_
  refine Run.seq ?_
  refine Run.region ?_
  refine Ops.pure rfl (Pure.assign rfl) ?_
  refine Ops.nil ?_
  refine Run.seq ?_
  refine Run.region ?_
  refine Ops.go rfl (Loud.lit sl24 rfl rfl rfl (by simp [Value.oneCell'])) ?_
  rintro v6 _ rfl
  refine Ops.pure rfl (Pure.assign rfl) ?_
  refine Ops.nil ?_
  refine Run.seq ?_
  refine Run.seq ?_
  refine Run.region ?_
  refine Ops.pure rfl (Pure.move rfl) ?_
  refine Ops.pure rfl (Pure.len sl24 (RdL.old hv) rfl) ?_
  refine Ops.pure rfl (Pure.move rfl) ?_
  refine Ops.nil ?_
  refine Run.block ?_
  refine Run.loop3 (X := Nat) (Y := List Value) (Z := Value) (fun k us vo => [(3, vo), (7, v), (8, .int .i64 ls.length), (9, .int .i64 k)]) (fun k us vo => .row 32 1 vo k us :: inner us (ls.take k)) (fun k us vo => k ≤ ls.length ∧ us.length = k) (fun k us vo => ls.length - k) 0 [] v6 ?_ ?_ ?_ ?_
  · exact ⟨by omega, rfl⟩
  · exact ⟨rfl, rfl, rfl, rfl, trivial⟩
  · exact Ext.refl _
  · intro k us vo hinv0
    have hlk := len_le_tot (ls := ls) (k := k)
    obtain ⟨hk0, hus⟩ := hinv0
    refine Run.seq ?_
    refine Run.region ?_
    refine Ops.pure rfl (Pure.lss rfl rfl) ?_
    refine Ops.nil ?_
    refine Run.seq ?_
    refine Run.cond rfl (fun c10 => ?_) (fun c10 => ?_)
    · skip
      replace c10 := dT c10
      refine Run.skip ?_
      refine Run.seq ?_
      refine Run.block ?_
      refine Run.seq ?_
      refine Run.region ?_
      refine Ops.pure rfl (Pure.idx1N sl24 (RdL.old hv) rfl rfl (by first | assumption | omega | (simp; omega))) ?_
      refine Ops.pure rfl (Pure.ld cell32 rfl (RdL.old hv) (by first | exact ints_get (by omega) | exact bools_get (by omega) | exact strs_get (by omega) | exact vals_get (by first | omega | (simp; omega)))) ?_
      refine Ops.pure rfl (Pure.assign rfl) ?_
      refine Ops.nil ?_
      refine Run.region ?_
      refine Ops.pure rfl (Pure.move rfl) ?_
      refine Ops.pure rfl (Pure.move rfl) ?_
      refine Ops.go rfl (Loud.callR fn166 rfl (fun w hw => f_slices_Clone_int64_int64 w _ _ (RdL.old (hr k (by omega)) w hw) (by omega))) ?_
      rintro v15 _ ⟨L15, hQ15, rfl⟩
      subst hQ15
      refine Ops.have_ (fun w hw => row_one 0 hw rfl) (fun h15 => ?_)
      refine Ops.go rfl (Loud.lit sl24 rfl rfl rfl (by simp [h15])) ?_
      rintro v16 _ rfl
      refine Ops.go rfl (Loud.append 2 rfl sl24 rfl rfl (RdL.own 0 rfl) (by simp [h15]) (by omega) (by omega)) ?_
      rintro v17 _ rfl
      refine Ops.pure rfl (Pure.assign rfl) ?_
      refine Ops.nil ?_
      refine Run.blk ?_
      refine Run.region ?_
      refine Ops.pure rfl (Pure.add rfl rfl (by omega) (by omega)) ?_
      refine Ops.pure rfl (Pure.move rfl) ?_
      refine Ops.nil ?_
      refine Run.asrt ?_
      refine ⟨k + 1, us ++ [v15], v17, ⟨⟨by omega, by simp [hus]⟩, by omega⟩, ⟨rfl, rfl, rfl, rfl, trivial⟩, ?_⟩
      rw [inner_snoc hus (by omega)]
      exact (Ext.snoc _ _ _).trans (Ext.right [_] _)
    · skip
      replace c10 := dF c10
      refine Run.exit rfl ?_
      refine Run.seq ?_
      refine Run.region ?_
      refine Ops.pure rfl (Pure.move rfl) ?_
      refine Ops.pure rfl (Pure.assign rfl) ?_
      refine Ops.nil ?_
      refine Run.ret1 rfl rfl ?_
      have e : k = ls.length := by omega
      subst e
      exact ⟨us, by omega, by rw [List.take_length]; rfl⟩

set_option maxRecDepth 4000 in
/-- impl.MirrorCode -/
theorem f_i_MirrorCode (w : World) (v : Value) (ls : List (List Int)) (hs : RdSS w v ls) (hb : ls.length + tot ls ≤ 1073741824) : Ret Try.prog 13 [v] w (retSS (mirC ls) (okM ls)) := by
  refine Ret.enter Try.func13 rfl Try.ntmps13 rfl ?_
  refine Run.seq ?_
  refine Run.region ?_
  refine Ops.pure rfl (Pure.assign rfl) ?_
  refine Ops.pure rfl (Pure.assign rfl) ?_
  refine Ops.nil ?_
  refine Run.seq ?_
  refine Run.seq ?_
  refine Run.region ?_
  refine Ops.pure rfl (Pure.move rfl) ?_
  refine Ops.q rfl (QOp.call fn23 rfl (fun w hw => f_i_ValidCode w _ _ (by exact RdSS.old (by assumption) hw) (by assumption))) ?_
  refine Ops.pure rfl (Pure.not rfl) ?_
  refine Ops.nil ?_
  refine Run.cond rfl (fun c10 => ?_) (fun c10 => ?_)
  · skip
    replace c10 := bT c10
    refine Run.seq ?_
    refine Run.addNil 32 1 ?_
    refine Run.region ?_
    refine Ops.pure rfl (Pure.assign rfl) ?_
    refine Ops.pure rfl (Pure.assign rfl) ?_
    refine Ops.nil ?_
    refine Run.ret2 rfl rfl rfl ?_
    rw [(mirC_bad c10).2]
    exact retSS_nil (mirC_bad c10).1
  · skip
    replace c10 := bF c10
    refine Run.skip ?_
    refine Run.seq ?_
    refine Run.region ?_
    refine Ops.pure rfl (Pure.move rfl) ?_
    refine Ops.go rfl (Loud.callR fn88 rfl (fun w hw => f_i_cloneCode w _ _ (by exact RdSS.old (by assumption) hw) (by assumption))) ?_
    rintro v12 _ ⟨L12, hQ12, rfl⟩
    obtain ⟨us12, hul12, rfl⟩ := hQ12
    refine Ops.pure rfl (Pure.assign rfl) ?_
    refine Ops.nil ?_
    refine Run.seq ?_
    refine Run.seq ?_
    refine Run.region ?_
    refine Ops.pure rfl (Pure.move rfl) ?_
    refine Ops.pure rfl (Pure.len sl24 (RdL.own 0 rfl) rfl) ?_
    refine Ops.pure rfl (Pure.move rfl) ?_
    refine Ops.nil ?_
    refine Run.block ?_
    refine Run.loop (X := Nat) (fun i => [(4, v12), (13, v12), (14, .int .i64 ls.length), (15, .int .i64 i)]) (fun i => ssE v12 us12 (overTo (ls.map negR) ls i)) (fun i => i ≤ ls.length) (fun i => ls.length - i) 0 ?_ ?_ ?_ ?_
    · exact Nat.zero_le _
    · exact ⟨rfl, rfl, rfl, rfl, trivial⟩
    · exact Ext.eq (by rw [overTo_zero, List.append_nil])
    · intro i hinv0
      have hli := len_le_tot (ls := ls) (k := i)
      have hml : (overTo (ls.map negR) ls i).length = ls.length := length_overTo (by simp)
      have hmk := overTo_getD (m := ls.map negR) (l := ls) (k := i) [] (by simp)
      have hrd : RdL w (ssE v12 us12 (overTo (ls.map negR) ls i)) v12 1 ls.length us12 := by rw [← hml]; exact RdL.own 0 rfl
      have hrin : i < ls.length → RdL w (ssE v12 us12 (overTo (ls.map negR) ls i)) (us12.getD i undef) 1 (ls.getD i []).length (ints (ls.getD i [])) := fun hi => by
        have h := inner_mem (vs := us12) (ls := overTo (ls.map negR) ls i) (by rw [hml]; exact hul12) (i := i) (by rw [hml]; exact hi)
        rw [hmk hi] at h
        exact RdL.mem (List.mem_cons_of_mem _ h)
      refine Run.seq ?_
      refine Run.region ?_
      refine Ops.pure rfl (Pure.lss rfl rfl) ?_
      refine Ops.nil ?_
      refine Run.seq ?_
      refine Run.cond rfl (fun c16 => ?_) (fun c16 => ?_)
      · skip
        replace c16 := dT c16
        refine Run.skip ?_
        refine Run.seq ?_
        refine Run.block ?_
        refine Run.seq ?_
        refine Run.region ?_
        refine Ops.pure rfl (Pure.idx1N sl24 hrd rfl rfl (by first | assumption | omega | (simp; omega))) ?_
        refine Ops.pure rfl (Pure.ld cell32 rfl hrd (by first | exact ints_get (by omega) | exact bools_get (by omega) | exact strs_get (by omega) | exact vals_get (by first | omega | (simp; omega)))) ?_
        refine Ops.pure rfl (Pure.assign rfl) ?_
        refine Ops.nil ?_
        refine Run.seq ?_
        refine Run.region ?_
        refine Ops.pure rfl (Pure.move rfl) ?_
        refine Ops.pure rfl (Pure.len sl32 (hrin (by omega)) rfl) ?_
        refine Ops.pure rfl (Pure.move rfl) ?_
        refine Ops.nil ?_
        refine Run.block ?_
        refine Run.loop (X := Nat) (fun j => [(4, v12), (13, v12), (14, .int .i64 ls.length), (15, .int .i64 i), (6, us12.getD i undef), (20, .int .i64 (ls.getD i []).length), (21, .int .i64 j)]) (fun j => .row 2 1 (us12.getD i undef) (ls.getD i []).length (ints (overTo (negR (ls.getD i [])) (ls.getD i []) j)) :: ssRest v12 us12 (overTo (ls.map negR) ls i) i []) (fun j => j ≤ (ls.getD i []).length) (fun j => (ls.getD i []).length - j) 0 ?_ ?_ ?_ ?_
        · exact Nat.zero_le _
        · exact ⟨rfl, rfl, rfl, rfl, rfl, rfl, rfl, trivial⟩
        · have h := ss_focus (v := v12) (F := []) (vs := us12) (ls := overTo (ls.map negR) ls i) (k := i) (by rw [hml]; exact hul12) (by rw [hml]; omega)
          rw [hmk (by omega), List.append_nil] at h
          exact ⟨[], by rw [List.append_nil, overTo_zero]; exact h.symm⟩
        · intro j hinv1
          have hol : (overTo (negR (ls.getD i [])) (ls.getD i []) j).length = (ls.getD i []).length := length_overTo (by simp [negR])
          have hol2 : (ints (overTo (negR (ls.getD i [])) (ls.getD i []) j)).length = (ls.getD i []).length := by rw [ints, List.length_map]; exact hol
          have hok := overTo_getD (m := negR (ls.getD i [])) (l := ls.getD i []) (k := j) 0 (by simp [negR])
          have hrd2 : RdL w (.row 2 1 (us12.getD i undef) (ls.getD i []).length (ints (overTo (negR (ls.getD i [])) (ls.getD i []) j)) :: ssRest v12 us12 (overTo (ls.map negR) ls i) i []) v12 1 ls.length us12 := by rw [← hml]; exact RdL.own 1 rfl
          have hbd := validB_bound c10 (i := i) (j := j)
          have hrw : RdL w (.row 2 1 (us12.getD i undef) (ls.getD i []).length (ints (overTo (negR (ls.getD i [])) (ls.getD i []) j)) :: ssRest v12 us12 (overTo (ls.map negR) ls i) i []) (us12.getD i undef) 1 (ls.getD i []).length (ints (overTo (negR (ls.getD i [])) (ls.getD i []) j)) := RdL.own 0 rfl
          refine Run.seq ?_
          refine Run.region ?_
          refine Ops.pure rfl (Pure.lss rfl rfl) ?_
          refine Ops.nil ?_
          refine Run.seq ?_
          refine Run.cond rfl (fun c22 => ?_) (fun c22 => ?_)
          · skip
            replace c22 := dT c22
            refine Run.skip ?_
            refine Run.seq ?_
            refine Run.block ?_
            refine Run.seq ?_
            refine Run.region ?_
            refine Ops.pure rfl (Pure.move rfl) ?_
            refine Ops.pure rfl (Pure.assign rfl) ?_
            refine Ops.nil ?_
            refine Run.region ?_
            refine Ops.pure rfl (Pure.move rfl) ?_
            refine Ops.pure rfl (Pure.move rfl) ?_
            refine Ops.pure rfl (Pure.move rfl) ?_
            refine Ops.pure rfl (Pure.move rfl) ?_
            refine Ops.pure rfl (Pure.idx1N sl32 (RdL.own 0 rfl) rfl rfl (by first | assumption | omega | (simp; omega))) ?_
            refine Ops.pure rfl (Pure.ld cell2 rfl (RdL.own 0 rfl) (by first | exact ints_get (by omega) | exact bools_get (by omega) | exact strs_get (by omega) | exact vals_get (by first | omega | (simp; omega)))) ?_
            refine Ops.pure rfl (Pure.neg rfl (by omega) (by omega)) ?_
            refine Ops.pure rfl (Pure.idx1N sl32 (RdL.own 0 rfl) rfl rfl (by first | assumption | omega | (simp; omega))) ?_
            refine Ops.store (Stores.row1 0 rfl size2 rfl rfl rfl (by first | assumption | omega | (simp; omega))) ?_
            refine Ops.nil ?_
            refine Run.blk ?_
            refine Run.region ?_
            refine Ops.pure rfl (Pure.add rfl rfl (by omega) (by omega)) ?_
            refine Ops.pure rfl (Pure.move rfl) ?_
            refine Ops.nil ?_
            refine Run.asrt ?_
            exact ⟨j + 1, ⟨by omega, by omega⟩, ⟨rfl, rfl, rfl, rfl, rfl, rfl, rfl, trivial⟩, Ext.eq (by rw [← overTo_step (m := negR (ls.getD i [])) 0 (by simp [negR]) (by omega), negR_getD (by omega)]; show Ent.row _ _ _ _ (ints (List.set _ _ _)) :: _ = Ent.row _ _ _ _ (List.set _ _ _) :: _; rw [ints_set, hok (by omega)])⟩
          · skip
            replace c22 := dF c22
            refine Run.exit rfl ?_
            refine Run.blk ?_
            refine Run.region ?_
            refine Ops.pure rfl (Pure.add rfl rfl (by omega) (by omega)) ?_
            refine Ops.pure rfl (Pure.move rfl) ?_
            refine Ops.nil ?_
            refine Run.asrt ?_
            refine ⟨i + 1, ⟨by omega, by omega⟩, ⟨rfl, rfl, rfl, rfl, trivial⟩, ?_⟩
            rw [← overTo_step (m := ls.map negR) [] (by simp) (by omega), getD_map negR ls i [] [] (by omega)]
            have h := ss_put (v := v12) (F := []) (vs := us12) (ls := overTo (ls.map negR) ls i) (k := i) (m := negR (ls.getD i [])) (by rw [hml]; exact hul12) (by rw [hml]; omega) (by rw [hmk (by omega)]; simp [negR])
            rw [hmk (by omega)] at h
            refine ⟨[], ?_⟩
            rw [List.append_nil, overTo_full (m := negR (ls.getD i [])) (l := ls.getD i []) (k := j) (by simp [negR]) (by omega)]
            rw [List.append_nil] at h
            exact h.symm
      · skip
        replace c16 := dF c16
        refine Run.exit rfl ?_
        refine Run.seq ?_
        refine Run.region ?_
        refine Ops.pure rfl (Pure.move rfl) ?_
        refine Ops.pure rfl (Pure.assign rfl) ?_
        refine Ops.pure rfl (Pure.assign rfl) ?_
        refine Ops.nil ?_
        refine Run.ret2 rfl rfl rfl ?_
        rw [(mirC_ok c10).1, (mirC_ok c10).2]
        exact ⟨_, us12, by simp [hul12], rfl, by rw [overTo_full (by simp) (by omega)]⟩

end Go.Proofs.Ytmfinopdokkjcaa
