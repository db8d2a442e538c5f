/- Contracts of functions, printed by program from annotations. -/
import Derived.Test.YtmfinopdokkjcaaSS
namespace Go.Proofs.Ytmfinopdokkjcaa
open Go Go.AW Go.RowKit
set_option linter.unusedVariables false
set_option linter.unusedSimpArgs false

/-- the elements up to place j of row i -/
def pre (ls : List (List Int)) (i j : Nat) : List Int := (ls.take i).flatten ++ (ls.getD i []).take j
theorem pre_zero (ls : List (List Int)) : pre ls 0 0 = [] := by simp [pre]
theorem pre_next {ls : List (List Int)} {i j : Nat} (hi : i < ls.length) (hj : j = (ls.getD i []).length) : pre ls i j = pre ls (i + 1) 0 := by
  subst hj
  unfold pre
  rw [List.take_add_one, getD_some hi []]
  simp
theorem pre_snoc {ls : List (List Int)} {i j : Nat} (hj : j < (ls.getD i []).length) : pre ls i (j + 1) = pre ls i j ++ [(ls.getD i []).getD j 0] := by
  unfold pre
  rw [List.take_add_one, getD_some hj 0]
  simp
theorem pre_all {ls : List (List Int)} {i : Nat} (hi : i = ls.length) : pre ls i 0 = ls.flatten := by subst hi; simp [pre]
theorem pre_prefix {ls : List (List Int)} {i j : Nat} (hi : i < ls.length) : ∃ r, ls.flatten = pre ls i j ++ r := by
  refine ⟨(ls.getD i []).drop j ++ (ls.drop (i + 1)).flatten, ?_⟩
  unfold pre
  have e2 : ls = ls.take i ++ ls.getD i [] :: ls.drop (i + 1) := by
    conv => lhs; rw [← List.take_append_drop i ls]
    rw [List.drop_eq_getElem_cons hi]
    simp [List.getD, List.getElem?_eq_getElem hi]
  conv => lhs; rw [e2]
  simp only [List.flatten_append, List.flatten_cons, List.append_assoc]
  congr 1
  rw [← List.append_assoc, List.take_append_drop]

/-- which numbers have come up -/
def seenL (n : Nat) (l : List Int) : List Bool := (List.range (2 * n + 1)).map fun (j : Nat) => decide ((j : Int) - n ∈ l)
theorem length_seenL (n : Nat) (l : List Int) : (seenL n l).length = 2 * n + 1 := by simp [seenL]
theorem seenL_nil (n : Nat) : seenL n [] = List.replicate (2 * n + 1) false := by
  apply List.ext_getElem <;> simp [seenL]
theorem seenL_getD {n : Nat} {l : List Int} {x : Int} (h0 : -n ≤ x) (h1 : x ≤ n) : (seenL n l).getD (x + n).toNat false = decide (x ∈ l) := by
  have h : (x + n).toNat < 2 * n + 1 := by omega
  have e : ((x + n).toNat : Int) - n = x := by omega
  simp only [seenL, List.getD_eq_getElem?_getD, List.getElem?_map, List.getElem?_range h, Option.map_some, Option.getD_some, e]
theorem seenL_set {n : Nat} {l : List Int} {x : Int} (h0 : -n ≤ x) (h1 : x ≤ n) : (seenL n l).set (x + n).toNat true = seenL n (l ++ [x]) := by
  apply List.ext_getElem
  · simp [seenL]
  · intro j h2 h3
    simp only [seenL, List.getElem_set, List.getElem_map, List.getElem_range]
    simp only [seenL, List.length_set, List.length_map, List.length_range] at h2
    by_cases e : (x + n).toNat = j
    · rw [if_pos e]
      have : (j : Int) - n = x := by omega
      simp [this]
    · rw [if_neg e]
      have : ¬ ((j : Int) - n = x) := by omega
      simp [this]

def okEls (n : Int) (l : List Int) : Prop := (∀ x ∈ l, x ≠ 0 ∧ -n ≤ x ∧ x ≤ n) ∧ l.Nodup
instance (n : Int) (l : List Int) : Decidable (okEls n l) := by unfold okEls; infer_instance
/-- A code is valid. -/
def validB (ls : List (List Int)) : Bool := decide (ls.length ≤ 40 ∧ tot ls % 2 = 0 ∧ tot ls / 2 ≤ 120 ∧ okEls ((tot ls / 2 : Nat) : Int) ls.flatten)
theorem okEls_snoc {n : Int} {l : List Int} {x : Int} (h : okEls n l) (h0 : x ≠ 0) (h1 : -n ≤ x) (h2 : x ≤ n) (h3 : x ∉ l) : okEls n (l ++ [x]) := by
  refine ⟨fun y hy => ?_, ?_⟩
  · rcases List.mem_append.1 hy with hy | hy
    · exact h.1 y hy
    · have e : y = x := by simpa using hy
      subst e
      exact ⟨h0, h1, h2⟩
  · rw [List.nodup_append]
    refine ⟨h.2, by simp, fun a ha b hb => ?_⟩
    have e : b = x := by simpa using hb
    subst e
    exact fun e => h3 (e ▸ ha)
theorem okEls_bad {n : Int} {ls : List (List Int)} {i j : Nat} (hi : i < ls.length) (hj : j < (ls.getD i []).length) (h : ¬ (((ls.getD i []).getD j 0) ≠ 0 ∧ -n ≤ ((ls.getD i []).getD j 0) ∧ ((ls.getD i []).getD j 0) ≤ n ∧ ((ls.getD i []).getD j 0) ∉ pre ls i j)) : ¬ okEls n ls.flatten := by
  intro hk
  apply h
  obtain ⟨r, hr⟩ := pre_prefix (j := j + 1) hi
  rw [pre_snoc hj] at hr
  have hm : (ls.getD i []).getD j 0 ∈ ls.flatten := by rw [hr]; simp
  obtain ⟨h1, h2, h3⟩ := hk.1 _ hm
  refine ⟨h1, h2, h3, fun hp => ?_⟩
  have hn := hk.2
  rw [hr, List.append_assoc, List.nodup_append] at hn
  exact hn.2.2 _ hp _ (by simp) rfl
theorem validB_false_els {ls : List (List Int)} {i j : Nat} {n : Nat} (hn : n = tot ls / 2) (hi : i < ls.length) (hj : j < (ls.getD i []).length) (h : ¬ (((ls.getD i []).getD j 0) ≠ 0 ∧ -(n : Int) ≤ ((ls.getD i []).getD j 0) ∧ ((ls.getD i []).getD j 0) ≤ n ∧ ((ls.getD i []).getD j 0) ∉ pre ls i j)) : validB ls = false := by
  unfold validB
  subst hn
  rw [decide_eq_false]
  exact fun hk => okEls_bad hi hj h hk.2.2.2
theorem validB_true_els {ls : List (List Int)} {i n : Nat} (hn : n = tot ls / 2) (h1 : ls.length ≤ 40) (h2 : tot ls % 2 = 0) (h3 : tot ls / 2 ≤ 120) (hi : i = ls.length) (h : okEls n (pre ls i 0)) : validB ls = true := by
  unfold validB
  subst hn
  rw [pre_all hi] at h
  exact decide_eq_true ⟨h1, h2, h3, h⟩
theorem validB_false {ls : List (List Int)} (h : ¬ (ls.length ≤ 40 ∧ tot ls % 2 = 0 ∧ tot ls / 2 ≤ 120)) : validB ls = false := by
  unfold validB
  rw [decide_eq_false]
  exact fun hk => h ⟨hk.1, hk.2.1, hk.2.2.1⟩
theorem validB_len {ls : List (List Int)} (h : validB ls = true) : ls.length ≤ 40 ∧ tot ls % 2 = 0 ∧ tot ls / 2 ≤ 120 ∧ okEls ((tot ls / 2 : Nat) : Int) ls.flatten := of_decide_eq_true h
attribute [irreducible] validB

set_option maxRecDepth 4000 in
/-- spec.l14Size -/
theorem f_s_l14Size (w : World) (v : Value) (ls : List (List Int)) (hs : RdSS w v ls) (hb : ls.length + tot ls ≤ 1073741824) : RetV Try.prog 167 [v] w (.int .i64 (tot ls)) := by
  have hs0 := hs
  obtain ⟨vs, hvl, hv, hr⟩ := hs
  refine Ret.enter Try.func167 rfl Try.ntmps167 rfl ?_
  refine Run.seq ?_
  refine Run.region ?_
  refine Ops.pure rfl (Pure.assign rfl) ?_
  refine Ops.nil ?_
  refine Run.seq ?_
  refine Run.region ?_
  refine Ops.pure rfl (Pure.assign rfl) ?_
  refine Ops.nil ?_
  refine Run.seq ?_
  refine Run.seq ?_
  refine Run.region ?_
  refine Ops.pure rfl (Pure.assign rfl) ?_
  refine Ops.nil ?_
  refine Run.block ?_
  refine Run.loop (X := Nat) (fun k => [(0, v), (3, .int .i64 (tot (ls.take k))), (4, .int .i64 k)]) (fun k => []) (fun k => k ≤ ls.length) (fun k => ls.length - k) 0 ?_ ?_ ?_ ?_
  · exact Nat.zero_le _
  · exact ⟨rfl, rfl, rfl, trivial⟩
  · exact Ext.refl _
  · intro k hinv0
    have hlk := len_le_tot (ls := ls) (k := k)
    have htk := tot_take_le ls k
    have htk1 := tot_take_le ls (k + 1)
    have hts := tot_take_succ (ls := ls) (k := k)
    refine Run.seq ?_
    refine Run.seq ?_
    refine Run.region ?_
    refine Ops.pure rfl (Pure.move rfl) ?_
    refine Ops.pure rfl (Pure.move rfl) ?_
    refine Ops.pure rfl (Pure.len sl24 (RdL.old hv) rfl) ?_
    refine Ops.pure rfl (Pure.lss rfl rfl) ?_
    refine Ops.nil ?_
    refine Run.cond rfl (fun c8 => ?_) (fun c8 => ?_)
    · skip
      replace c8 := dT c8
      refine Run.skip ?_
      refine Run.seq ?_
      refine Run.block ?_
      refine Run.region ?_
      refine Ops.pure rfl (Pure.move rfl) ?_
      refine Ops.pure rfl (Pure.move rfl) ?_
      refine Ops.pure rfl (Pure.move rfl) ?_
      refine Ops.pure rfl (Pure.idx1N sl24 (RdL.old hv) rfl rfl (by first | assumption | omega | (simp; omega))) ?_
      refine Ops.pure rfl (Pure.ld cell32 rfl (RdL.old hv) (by first | exact ints_get (by omega) | exact bools_get (by omega) | exact strs_get (by omega) | exact vals_get (by first | omega | (simp; omega)))) ?_
      refine Ops.pure rfl (Pure.len sl32 (RdL.old (hr k (by omega))) rfl) ?_
      refine Ops.pure rfl (Pure.add rfl rfl (by omega) (by omega)) ?_
      refine Ops.pure rfl (Pure.assign rfl) ?_
      refine Ops.nil ?_
      refine Run.blk ?_
      refine Run.region ?_
      refine Ops.pure rfl (Pure.move rfl) ?_
      refine Ops.pure rfl (Pure.add rfl rfl (by omega) (by omega)) ?_
      refine Ops.pure rfl (Pure.assign rfl) ?_
      refine Ops.nil ?_
      refine Run.asrt ?_
      exact ⟨k + 1, ⟨by omega, by omega⟩, ⟨rfl, (by rw [hts (by omega), Int.natCast_add]; rfl), rfl, trivial⟩, Ext.nil _⟩
    · skip
      replace c8 := dF c8
      refine Run.exit rfl ?_
      refine Run.seq ?_
      refine Run.region ?_
      refine Ops.pure rfl (Pure.move rfl) ?_
      refine Ops.pure rfl (Pure.assign rfl) ?_
      refine Ops.nil ?_
      refine Run.ret1 rfl rfl ?_
      rw [tot_take_all (by omega)]

set_option maxRecDepth 4000 in
/-- impl.countCoded -/
theorem f_i_countCoded (w : World) (v : Value) (ls : List (List Int)) (hs : RdSS w v ls) (hb : ls.length + tot ls ≤ 1073741824) : RetV Try.prog 101 [v] w (.int .i64 ((tot ls / 2 : Nat) : Int)) := by
  have hs0 := hs
  obtain ⟨vs, hvl, hv, hr⟩ := hs
  refine Ret.enter Try.func101 rfl Try.ntmps101 rfl ?_
  refine Run.seq ?_
  refine Run.region ?_
  refine Ops.pure rfl (Pure.assign rfl) ?_
  refine Ops.nil ?_
  refine Run.seq ?_
  refine Run.region ?_
  refine Ops.pure rfl (Pure.assign rfl) ?_
  refine Ops.nil ?_
  refine Run.seq ?_
  refine Run.seq ?_
  refine Run.region ?_
  refine Ops.pure rfl (Pure.move rfl) ?_
  refine Ops.pure rfl (Pure.len sl24 (RdL.old hv) rfl) ?_
  refine Ops.pure rfl (Pure.move rfl) ?_
  refine Ops.nil ?_
  refine Run.block ?_
  refine Run.loop (X := Nat) (fun k => [(3, .int .i64 (tot (ls.take k))), (6, v), (7, .int .i64 ls.length), (8, .int .i64 k)]) (fun k => []) (fun k => k ≤ ls.length) (fun k => ls.length - k) 0 ?_ ?_ ?_ ?_
  · exact Nat.zero_le _
  · exact ⟨rfl, rfl, rfl, rfl, trivial⟩
  · exact Ext.refl _
  · intro k hinv0
    have hlk := len_le_tot (ls := ls) (k := k)
    have htk := tot_take_le ls k
    have htk1 := tot_take_le ls (k + 1)
    have hts := tot_take_succ (ls := ls) (k := k)
    refine Run.seq ?_
    refine Run.region ?_
    refine Ops.pure rfl (Pure.lss rfl rfl) ?_
    refine Ops.nil ?_
    refine Run.seq ?_
    refine Run.cond rfl (fun c9 => ?_) (fun c9 => ?_)
    · skip
      replace c9 := dT c9
      refine Run.skip ?_
      refine Run.seq ?_
      refine Run.block ?_
      refine Run.seq ?_
      refine Run.region ?_
      refine Ops.pure rfl (Pure.idx1N sl24 (RdL.old hv) rfl rfl (by first | assumption | omega | (simp; omega))) ?_
      refine Ops.pure rfl (Pure.ld cell32 rfl (RdL.old hv) (by first | exact ints_get (by omega) | exact bools_get (by omega) | exact strs_get (by omega) | exact vals_get (by first | omega | (simp; omega)))) ?_
      refine Ops.pure rfl (Pure.assign rfl) ?_
      refine Ops.nil ?_
      refine Run.region ?_
      refine Ops.pure rfl (Pure.move rfl) ?_
      refine Ops.pure rfl (Pure.move rfl) ?_
      refine Ops.pure rfl (Pure.len sl32 (RdL.old (hr k (by omega))) rfl) ?_
      refine Ops.pure rfl (Pure.add rfl rfl (by omega) (by omega)) ?_
      refine Ops.pure rfl (Pure.assign rfl) ?_
      refine Ops.nil ?_
      refine Run.blk ?_
      refine Run.region ?_
      refine Ops.pure rfl (Pure.add rfl rfl (by omega) (by omega)) ?_
      refine Ops.pure rfl (Pure.move rfl) ?_
      refine Ops.nil ?_
      refine Run.asrt ?_
      exact ⟨k + 1, ⟨by omega, by omega⟩, ⟨(by rw [hts (by omega), Int.natCast_add]; rfl), rfl, rfl, rfl, trivial⟩, Ext.nil _⟩
    · skip
      replace c9 := dF c9
      refine Run.exit rfl ?_
      refine Run.seq ?_
      refine Run.region ?_
      refine Ops.pure rfl (Pure.move rfl) ?_
      refine Ops.pure rfl (Pure.quoN (n := 2) rfl rfl (by omega) (by omega)) ?_
      refine Ops.pure rfl (Pure.assign rfl) ?_
      refine Ops.nil ?_
      refine Run.ret1 rfl rfl ?_
      rw [tot_take_all (by omega)]

set_option maxRecDepth 4000 in
/-- spec.l14Ok -/
theorem f_s_l14Ok (w : World) (v : Value) (ls : List (List Int)) (hs : RdSS w v ls) (hb : ls.length + tot ls ≤ 1073741824) : RetV Try.prog 89 [v] w (.bool (validB ls)) := by
  have hs0 := hs
  obtain ⟨vs, hvl, hv, hr⟩ := hs
  refine Ret.enter Try.func89 rfl Try.ntmps89 rfl ?_
  refine Run.seq ?_
  refine Run.region ?_
  refine Ops.pure rfl (Pure.assign rfl) ?_
  refine Ops.nil ?_
  refine Run.seq ?_
  refine Run.region ?_
  refine Ops.pure rfl (Pure.move rfl) ?_
  refine Ops.q rfl (QOp.call fn167 rfl (fun w hw => f_s_l14Size w _ _ (by exact RdSS.old (by assumption) hw) (by assumption))) ?_
  refine Ops.pure rfl (Pure.quoN (n := 2) rfl rfl (by omega) (by omega)) ?_
  refine Ops.pure rfl (Pure.assign rfl) ?_
  refine Ops.nil ?_
  refine Run.seq ?_
  refine Run.seq ?_
  refine Run.region ?_
  refine Ops.pure rfl (Pure.move rfl) ?_
  refine Ops.pure rfl (Pure.len sl24 (RdL.old hv) rfl) ?_
  refine Ops.pure rfl (Pure.gtr rfl rfl) ?_
  refine Ops.pure rfl (Pure.move rfl) ?_
  refine Ops.guard rfl rfl rfl rfl (fun c14 => ?_) (fun c14 => ?_)
  · skip
    have c14' := dF c14
    refine Ops.pure rfl (Pure.move rfl) ?_
    refine Ops.guardY rfl rfl rfl c14 ?_
    refine Ops.q rfl (QOp.call fn167 rfl (fun w hw => f_s_l14Size w _ _ (by exact RdSS.old (by assumption) hw) (by assumption))) ?_
    refine Ops.guardY rfl rfl rfl c14 ?_
    refine Ops.pure rfl (Pure.remN (n := 2) rfl rfl (by omega)) ?_
    refine Ops.guardY rfl rfl rfl c14 ?_
    refine Ops.pure rfl (Pure.neq rfl rfl) ?_
    refine Ops.pure rfl (Pure.pickF rfl c14 rfl) ?_
    refine Ops.pure rfl (Pure.move rfl) ?_
    refine Ops.guard rfl rfl rfl rfl (fun c20 => ?_) (fun c20 => ?_)
    · skip
      have c20' := nF c20
      refine Ops.pure rfl (Pure.move rfl) ?_
      refine Ops.guardY rfl rfl rfl c20 ?_
      refine Ops.pure rfl (Pure.gtr rfl rfl) ?_
      refine Ops.pure rfl (Pure.pickF rfl c20 rfl) ?_
      refine Ops.nil ?_
      refine Run.cond rfl (fun c23 => ?_) (fun c23 => ?_)
      · skip
        replace c23 := dT c23
        refine Run.seq ?_
        refine Run.region ?_
        refine Ops.pure rfl (Pure.assign rfl) ?_
        refine Ops.nil ?_
        refine Run.ret1 rfl rfl ?_
        rw [validB_false (by omega)]
      · skip
        replace c23 := dF c23
        refine Run.skip ?_
        refine Run.seq ?_
        refine Run.region ?_
        refine Ops.pure rfl (Pure.move rfl) ?_
        refine Ops.pure rfl (Pure.mul rfl rfl (by omega) (by omega)) ?_
        refine Ops.pure rfl (Pure.add rfl rfl (by omega) (by omega)) ?_
        refine Ops.go rfl (Loud.make (n := 2 * (tot ls / 2) + 1) sl113 rfl rfl (by omega) (by omega)) ?_
        rintro v27 _ rfl
        refine Ops.pure rfl (Pure.assign rfl) ?_
        refine Ops.nil ?_
        refine Run.seq ?_
        refine Run.seq ?_
        refine Run.region ?_
        refine Ops.pure rfl (Pure.assign rfl) ?_
        refine Ops.nil ?_
        refine Run.block ?_
        refine Run.loop (X := Nat) (fun i => [(0, v), (3, .int .i64 ((tot ls / 2 : Nat) : Int)), (4, v27), (5, .int .i64 i)]) (fun i => [.row 4 1 v27 (2 * (tot ls / 2) + 1) (bools (seenL (tot ls / 2) (pre ls i 0)))]) (fun i => i ≤ ls.length ∧ okEls ((tot ls / 2 : Nat) : Int) (pre ls i 0)) (fun i => ls.length - i) 0 ?_ ?_ ?_ ?_
        · exact ⟨by omega, by rw [pre_zero]; exact ⟨by simp, by simp⟩⟩
        · exact ⟨rfl, rfl, rfl, rfl, trivial⟩
        · exact Ext.eq (by rw [pre_zero, seenL_nil, made_one _ rfl]; simp)
        · intro i hinv0
          have hli := len_le_tot (ls := ls) (k := i)
          refine Run.seq ?_
          refine Run.seq ?_
          refine Run.region ?_
          refine Ops.pure rfl (Pure.move rfl) ?_
          refine Ops.pure rfl (Pure.move rfl) ?_
          refine Ops.pure rfl (Pure.len sl24 (RdL.old hv) rfl) ?_
          refine Ops.pure rfl (Pure.lss rfl rfl) ?_
          refine Ops.nil ?_
          refine Run.cond rfl (fun c31 => ?_) (fun c31 => ?_)
          · skip
            replace c31 := dT c31
            refine Run.skip ?_
            refine Run.seq ?_
            refine Run.block ?_
            refine Run.seq ?_
            refine Run.region ?_
            refine Ops.pure rfl (Pure.assign rfl) ?_
            refine Ops.nil ?_
            refine Run.block ?_
            refine Run.loop (X := Nat) (fun j => [(0, v), (3, .int .i64 ((tot ls / 2 : Nat) : Int)), (4, v27), (5, .int .i64 i), (6, .int .i64 j)]) (fun j => [.row 4 1 v27 (2 * (tot ls / 2) + 1) (bools (seenL (tot ls / 2) (pre ls i j)))]) (fun j => j ≤ (ls.getD i []).length ∧ okEls ((tot ls / 2 : Nat) : Int) (pre ls i j)) (fun j => (ls.getD i []).length - j) 0 ?_ ?_ ?_ ?_
            · exact ⟨by omega, hinv0.2⟩
            · exact ⟨rfl, rfl, rfl, rfl, rfl, trivial⟩
            · exact Ext.refl _
            · intro j hinv1
              have hlS := length_seenL (tot ls / 2) (pre ls i j)
              have hlB : (bools (seenL (tot ls / 2) (pre ls i j))).length = 2 * (tot ls / 2) + 1 := by rw [bools, List.length_map]; exact hlS
              refine Run.seq ?_
              refine Run.seq ?_
              refine Run.region ?_
              refine Ops.pure rfl (Pure.move rfl) ?_
              refine Ops.pure rfl (Pure.move rfl) ?_
              refine Ops.pure rfl (Pure.move rfl) ?_
              refine Ops.pure rfl (Pure.idx1N sl24 (RdL.old hv) rfl rfl (by first | assumption | omega | (simp; omega))) ?_
              refine Ops.pure rfl (Pure.ld cell32 rfl (RdL.old hv) (by first | exact ints_get (by omega) | exact bools_get (by omega) | exact strs_get (by omega) | exact vals_get (by first | omega | (simp; omega)))) ?_
              refine Ops.pure rfl (Pure.len sl32 (RdL.old (hr i (by omega))) rfl) ?_
              refine Ops.pure rfl (Pure.lss rfl rfl) ?_
              refine Ops.nil ?_
              refine Run.cond rfl (fun c40 => ?_) (fun c40 => ?_)
              · skip
                replace c40 := dT c40
                refine Run.skip ?_
                refine Run.seq ?_
                refine Run.block ?_
                refine Run.seq ?_
                refine Run.region ?_
                refine Ops.pure rfl (Pure.move rfl) ?_
                refine Ops.pure rfl (Pure.move rfl) ?_
                refine Ops.pure rfl (Pure.idx1N sl24 (RdL.old hv) rfl rfl (by first | assumption | omega | (simp; omega))) ?_
                refine Ops.pure rfl (Pure.ld cell32 rfl (RdL.old hv) (by first | exact ints_get (by omega) | exact bools_get (by omega) | exact strs_get (by omega) | exact vals_get (by first | omega | (simp; omega)))) ?_
                refine Ops.pure rfl (Pure.move rfl) ?_
                refine Ops.pure rfl (Pure.idx1N sl32 (RdL.old (hr i (by omega))) rfl rfl (by first | assumption | omega | (simp; omega))) ?_
                refine Ops.pure rfl (Pure.ld cell2 rfl (RdL.old (hr i (by omega))) (by first | exact ints_get (by omega) | exact bools_get (by omega) | exact strs_get (by omega) | exact vals_get (by first | omega | (simp; omega)))) ?_
                refine Ops.pure rfl (Pure.assign rfl) ?_
                refine Ops.nil ?_
                refine Run.seq ?_
                refine Run.seq ?_
                refine Run.region ?_
                refine Ops.pure rfl (Pure.move rfl) ?_
                refine Ops.pure rfl (Pure.move rfl) ?_
                refine Ops.pure rfl (Pure.neg rfl (by omega) (by omega)) ?_
                refine Ops.pure rfl (Pure.move rfl) ?_
                refine Ops.q rfl (QOp.call fn119 rfl (fun w hw => f_s_l00In w _ _ _)) ?_
                refine Ops.pure rfl (Pure.not rfl) ?_
                refine Ops.pure rfl (Pure.move rfl) ?_
                refine Ops.guard rfl rfl rfl rfl (fun c56 => ?_) (fun c56 => ?_)
                · skip
                  have c56' := nF c56
                  refine Ops.pure rfl (Pure.move rfl) ?_
                  refine Ops.guardY rfl rfl rfl c56 ?_
                  refine Ops.pure rfl (Pure.eql rfl rfl) ?_
                  refine Ops.pure rfl (Pure.pickF rfl c56 rfl) ?_
                  refine Ops.pure rfl (Pure.move rfl) ?_
                  refine Ops.guard rfl rfl rfl rfl (fun c60 => ?_) (fun c60 => ?_)
                  · skip
                    have c60' := dF c60
                    refine Ops.pure rfl (Pure.move rfl) ?_
                    refine Ops.guardY rfl rfl rfl c60 ?_
                    refine Ops.pure rfl (Pure.move rfl) ?_
                    refine Ops.guardY rfl rfl rfl c60 ?_
                    refine Ops.pure rfl (Pure.move rfl) ?_
                    refine Ops.guardY rfl rfl rfl c60 ?_
                    refine Ops.pure rfl (Pure.add rfl rfl (by omega) (by omega)) ?_
                    refine Ops.guardY rfl rfl rfl c60 ?_
                    refine Ops.pure rfl (Pure.idx1 sl113 (RdL.own 0 rfl) rfl rfl (by first | assumption | omega | (simp; omega)) (by first | assumption | omega | (simp; omega))) ?_
                    refine Ops.guardY rfl rfl rfl c60 ?_
                    refine Ops.pure rfl (Pure.ld cell4 rfl (RdL.own 0 rfl) (by first | exact ints_get (by omega) | exact bools_get (by omega) | exact strs_get (by omega) | exact vals_get (by first | omega | (simp; omega)))) ?_
                    refine Ops.pure rfl (Pure.pickF rfl c60 rfl) ?_
                    refine Ops.nil ?_
                    refine Run.cond rfl (fun c67 => ?_) (fun c67 => ?_)
                    · skip
                      skip
                      refine Run.seq ?_
                      refine Run.region ?_
                      refine Ops.pure rfl (Pure.assign rfl) ?_
                      refine Ops.nil ?_
                      refine Run.ret1 rfl rfl ?_
                      refine congrArg Value.bool (Eq.symm (validB_false_els rfl (i := i) (j := j) (by omega) (by omega) (fun hh => ?_)))
                      first
                        | exact c56' ⟨hh.2.1, hh.2.2.1⟩
                        | exact hh.1 c60'
                        | (rw [seenL_getD (by omega) (by omega)] at c67; exact hh.2.2.2 (of_decide_eq_true c67))
                    · skip
                      skip
                      refine Run.skip ?_
                      refine Run.region ?_
                      refine Ops.pure rfl (Pure.move rfl) ?_
                      refine Ops.pure rfl (Pure.move rfl) ?_
                      refine Ops.pure rfl (Pure.move rfl) ?_
                      refine Ops.pure rfl (Pure.add rfl rfl (by omega) (by omega)) ?_
                      refine Ops.pure rfl (Pure.idx1 sl113 (RdL.own 0 rfl) rfl rfl (by first | assumption | omega | (simp; omega)) (by first | assumption | omega | (simp; omega))) ?_
                      refine Ops.store (Stores.row1 0 rfl size4 rfl rfl rfl (by first | assumption | omega | (simp; omega))) ?_
                      refine Ops.nil ?_
                      refine Run.blk ?_
                      refine Run.region ?_
                      refine Ops.pure rfl (Pure.move rfl) ?_
                      refine Ops.pure rfl (Pure.add rfl rfl (by omega) (by omega)) ?_
                      refine Ops.pure rfl (Pure.assign rfl) ?_
                      refine Ops.nil ?_
                      refine Run.asrt ?_
                      have hnm : ((ls.getD i []).getD j 0) ∉ pre ls i j := by
                        rw [seenL_getD (by omega) (by omega)] at c67
                        simpa using c67
                      exact ⟨j + 1, ⟨⟨by omega, by rw [pre_snoc (by omega)]; exact okEls_snoc hinv1.2 c60' (by omega) (by omega) hnm⟩, by omega⟩, ⟨rfl, rfl, rfl, rfl, rfl, trivial⟩, Ext.eq (by rw [pre_snoc (by omega), ← seenL_set (by omega) (by omega), bools, List.map_set]; rfl)⟩
                  · skip
                    replace c60 := Bool.eq_true_of_ne c60
                    have c60' := dT c60
                    refine Ops.guardN rfl rfl rfl rfl (by rw [c60]; decide) ?_
                    refine Ops.guardN rfl rfl rfl rfl (by rw [c60]; decide) ?_
                    refine Ops.guardN rfl rfl rfl rfl (by rw [c60]; decide) ?_
                    refine Ops.guardN rfl rfl rfl rfl (by rw [c60]; decide) ?_
                    refine Ops.guardN rfl rfl rfl rfl (by rw [c60]; decide) ?_
                    refine Ops.pure rfl (Pure.pickT rfl c60 rfl) ?_
                    refine Ops.nil ?_
                    refine Run.condE rfl rfl ?_
                    refine Run.seq ?_
                    refine Run.region ?_
                    refine Ops.pure rfl (Pure.assign rfl) ?_
                    refine Ops.nil ?_
                    refine Run.ret1 rfl rfl ?_
                    refine congrArg Value.bool (Eq.symm (validB_false_els rfl (i := i) (j := j) (by omega) (by omega) (fun hh => ?_)))
                    first
                      | exact c56' ⟨hh.2.1, hh.2.2.1⟩
                      | exact hh.1 c60'
                      | (rw [seenL_getD (by omega) (by omega)] at c67; exact hh.2.2.2 (of_decide_eq_true c67))
                · skip
                  replace c56 := Bool.eq_true_of_ne c56
                  have c56' := nT c56
                  refine Ops.guardN rfl rfl rfl rfl (by rw [c56]; decide) ?_
                  refine Ops.pure rfl (Pure.pickT rfl c56 rfl) ?_
                  refine Ops.pure rfl (Pure.move rfl) ?_
                  refine Ops.guardN rfl rfl rfl rfl (by decide) ?_
                  refine Ops.guardN rfl rfl rfl rfl (by decide) ?_
                  refine Ops.guardN rfl rfl rfl rfl (by decide) ?_
                  refine Ops.guardN rfl rfl rfl rfl (by decide) ?_
                  refine Ops.guardN rfl rfl rfl rfl (by decide) ?_
                  refine Ops.guardN rfl rfl rfl rfl (by decide) ?_
                  refine Ops.pure rfl (Pure.pickT rfl rfl rfl) ?_
                  refine Ops.nil ?_
                  refine Run.condE rfl rfl ?_
                  refine Run.seq ?_
                  refine Run.region ?_
                  refine Ops.pure rfl (Pure.assign rfl) ?_
                  refine Ops.nil ?_
                  refine Run.ret1 rfl rfl ?_
                  refine congrArg Value.bool (Eq.symm (validB_false_els rfl (i := i) (j := j) (by omega) (by omega) (fun hh => ?_)))
                  first
                    | exact c56' ⟨hh.2.1, hh.2.2.1⟩
                    | exact hh.1 c60'
                    | (rw [seenL_getD (by omega) (by omega)] at c67; exact hh.2.2.2 (of_decide_eq_true c67))
              · skip
                replace c40 := dF c40
                refine Run.exit rfl ?_
                refine Run.blk ?_
                refine Run.region ?_
                refine Ops.pure rfl (Pure.move rfl) ?_
                refine Ops.pure rfl (Pure.add rfl rfl (by omega) (by omega)) ?_
                refine Ops.pure rfl (Pure.assign rfl) ?_
                refine Ops.nil ?_
                refine Run.asrt ?_
                exact ⟨i + 1, ⟨⟨by omega, by rw [← pre_next (j := j) (by omega) (by omega)]; exact hinv1.2⟩, by omega⟩, ⟨rfl, rfl, rfl, rfl, trivial⟩, Ext.eq (by rw [← pre_next (j := j) (by omega) (by omega)])⟩
          · skip
            replace c31 := dF c31
            refine Run.exit rfl ?_
            refine Run.seq ?_
            refine Run.region ?_
            refine Ops.pure rfl (Pure.assign rfl) ?_
            refine Ops.nil ?_
            refine Run.ret1 rfl rfl ?_
            rw [validB_true_els rfl (by omega) (by omega) (by omega) (i := i) (by omega) hinv0.2]
    · skip
      replace c20 := Bool.eq_true_of_ne c20
      have c20' := nT c20
      refine Ops.guardN rfl rfl rfl rfl (by rw [c20]; decide) ?_
      refine Ops.pure rfl (Pure.pickT rfl c20 rfl) ?_
      refine Ops.nil ?_
      refine Run.condE rfl rfl ?_
      refine Run.seq ?_
      refine Run.region ?_
      refine Ops.pure rfl (Pure.assign rfl) ?_
      refine Ops.nil ?_
      refine Run.ret1 rfl rfl ?_
      rw [validB_false (by omega)]
  · skip
    replace c14 := Bool.eq_true_of_ne c14
    have c14' := dT c14
    refine Ops.guardN rfl rfl rfl rfl (by rw [c14]; decide) ?_
    refine Ops.guardN rfl rfl rfl rfl (by rw [c14]; decide) ?_
    refine Ops.guardN rfl rfl rfl rfl (by rw [c14]; decide) ?_
    refine Ops.pure rfl (Pure.pickT rfl c14 rfl) ?_
    refine Ops.pure rfl (Pure.move rfl) ?_
    refine Ops.guardN rfl rfl rfl rfl (by decide) ?_
    refine Ops.guardN rfl rfl rfl rfl (by decide) ?_
    refine Ops.pure rfl (Pure.pickT rfl rfl rfl) ?_
    refine Ops.nil ?_
    refine Run.condE rfl rfl ?_
    refine Run.seq ?_
    refine Run.region ?_
    refine Ops.pure rfl (Pure.assign rfl) ?_
    refine Ops.nil ?_
    refine Run.ret1 rfl rfl ?_
    rw [validB_false (by omega)]

set_option maxRecDepth 4000 in
/-- impl.ValidCode -/
theorem f_i_ValidCode (w : World) (v : Value) (ls : List (List Int)) (hs : RdSS w v ls) (hb : ls.length + tot ls ≤ 1073741824) : RetV Try.prog 23 [v] w (.bool (validB ls)) := by
  have hs0 := hs
  obtain ⟨vs, hvl, hv, hr⟩ := hs
  refine Ret.enter Try.func23 rfl Try.ntmps23 rfl ?_
  refine Run.seq ?_
  refine Run.region ?_
  refine Ops.pure rfl (Pure.assign rfl) ?_
  refine Ops.nil ?_
  refine Run.seq ?_
  refine Run.region ?_
  refine Ops.pure rfl (Pure.assign rfl) ?_
  refine Ops.nil ?_
  refine Run.seq ?_
  refine Run.seq ?_
  refine Run.region ?_
  refine Ops.pure rfl (Pure.move rfl) ?_
  refine Ops.pure rfl (Pure.len sl24 (RdL.old hv) rfl) ?_
  refine Ops.pure rfl (Pure.move rfl) ?_
  refine Ops.nil ?_
  refine Run.block ?_
  refine Run.loop (X := Nat) (fun k => [(0, v), (3, .int .i64 (tot (ls.take k))), (12, v), (13, .int .i64 ls.length), (14, .int .i64 k)]) (fun k => []) (fun k => k ≤ ls.length) (fun k => ls.length - k) 0 ?_ ?_ ?_ ?_
  · exact Nat.zero_le _
  · exact ⟨rfl, rfl, rfl, rfl, rfl, trivial⟩
  · exact Ext.refl _
  · intro k hinv0
    have hlk := len_le_tot (ls := ls) (k := k)
    have htk := tot_take_le ls k
    have htk1 := tot_take_le ls (k + 1)
    have hts := tot_take_succ (ls := ls) (k := k)
    refine Run.seq ?_
    refine Run.region ?_
    refine Ops.pure rfl (Pure.lss rfl rfl) ?_
    refine Ops.nil ?_
    refine Run.seq ?_
    refine Run.cond rfl (fun c15 => ?_) (fun c15 => ?_)
    · skip
      replace c15 := dT c15
      refine Run.skip ?_
      refine Run.seq ?_
      refine Run.block ?_
      refine Run.seq ?_
      refine Run.region ?_
      refine Ops.pure rfl (Pure.idx1N sl24 (RdL.old hv) rfl rfl (by first | assumption | omega | (simp; omega))) ?_
      refine Ops.pure rfl (Pure.ld cell32 rfl (RdL.old hv) (by first | exact ints_get (by omega) | exact bools_get (by omega) | exact strs_get (by omega) | exact vals_get (by first | omega | (simp; omega)))) ?_
      refine Ops.pure rfl (Pure.assign rfl) ?_
      refine Ops.nil ?_
      refine Run.region ?_
      refine Ops.pure rfl (Pure.move rfl) ?_
      refine Ops.pure rfl (Pure.move rfl) ?_
      refine Ops.pure rfl (Pure.len sl32 (RdL.old (hr k (by omega))) rfl) ?_
      refine Ops.pure rfl (Pure.add rfl rfl (by omega) (by omega)) ?_
      refine Ops.pure rfl (Pure.assign rfl) ?_
      refine Ops.nil ?_
      refine Run.blk ?_
      refine Run.region ?_
      refine Ops.pure rfl (Pure.add rfl rfl (by omega) (by omega)) ?_
      refine Ops.pure rfl (Pure.move rfl) ?_
      refine Ops.nil ?_
      refine Run.asrt ?_
      exact ⟨k + 1, ⟨by omega, by omega⟩, ⟨rfl, (by rw [hts (by omega), Int.natCast_add]; rfl), rfl, rfl, rfl, trivial⟩, Ext.nil _⟩
    · skip
      replace c15 := dF c15
      refine Run.exit rfl ?_
      refine Run.seq ?_
      refine Run.seq ?_
      have hk9 := tot_take_all (ls := ls) (k := k) (by omega)
      refine Run.setv 3 rfl (congrArg (fun n : Nat => Value.int .i64 n) hk9) ?_
      refine Run.region ?_
      refine Ops.pure rfl (Pure.move rfl) ?_
      refine Ops.pure rfl (Pure.len sl24 (RdL.old hv) rfl) ?_
      refine Ops.pure rfl (Pure.gtr rfl rfl) ?_
      refine Ops.pure rfl (Pure.move rfl) ?_
      refine Ops.guard rfl rfl rfl rfl (fun c26 => ?_) (fun c26 => ?_)
      · skip
        have c26' := dF c26
        refine Ops.pure rfl (Pure.move rfl) ?_
        refine Ops.guardY rfl rfl rfl c26 ?_
        refine Ops.pure rfl (Pure.remN (n := 2) rfl rfl (by omega)) ?_
        refine Ops.guardY rfl rfl rfl c26 ?_
        refine Ops.pure rfl (Pure.neq rfl rfl) ?_
        refine Ops.pure rfl (Pure.pickF rfl c26 rfl) ?_
        refine Ops.pure rfl (Pure.move rfl) ?_
        refine Ops.guard rfl rfl rfl rfl (fun c31 => ?_) (fun c31 => ?_)
        · skip
          have c31' := nF c31
          refine Ops.pure rfl (Pure.move rfl) ?_
          refine Ops.guardY rfl rfl rfl c31 ?_
          refine Ops.pure rfl (Pure.quoN (n := 2) rfl rfl (by omega) (by omega)) ?_
          refine Ops.guardY rfl rfl rfl c31 ?_
          refine Ops.pure rfl (Pure.gtr rfl rfl) ?_
          refine Ops.pure rfl (Pure.pickF rfl c31 rfl) ?_
          refine Ops.nil ?_
          refine Run.cond rfl (fun c35 => ?_) (fun c35 => ?_)
          · skip
            replace c35 := dT c35
            refine Run.seq ?_
            refine Run.region ?_
            refine Ops.pure rfl (Pure.assign rfl) ?_
            refine Ops.nil ?_
            refine Run.ret1 rfl rfl ?_
            rw [validB_false (by omega)]
          · skip
            replace c35 := dF c35
            refine Run.skip ?_
            refine Run.seq ?_
            refine Run.region ?_
            refine Ops.pure rfl (Pure.move rfl) ?_
            refine Ops.pure rfl (Pure.quoN (n := 2) rfl rfl (by omega) (by omega)) ?_
            refine Ops.pure rfl (Pure.assign rfl) ?_
            refine Ops.nil ?_
            refine Run.seq ?_
            refine Run.region ?_
            refine Ops.pure rfl (Pure.move rfl) ?_
            refine Ops.pure rfl (Pure.mul rfl rfl (by omega) (by omega)) ?_
            refine Ops.pure rfl (Pure.add rfl rfl (by omega) (by omega)) ?_
            refine Ops.go rfl (Loud.make (n := 2 * (tot ls / 2) + 1) sl113 rfl rfl (by omega) (by omega)) ?_
            rintro v41 _ rfl
            refine Ops.pure rfl (Pure.assign rfl) ?_
            refine Ops.nil ?_
            refine Run.seq ?_
            refine Run.seq ?_
            refine Run.region ?_
            refine Ops.pure rfl (Pure.move rfl) ?_
            refine Ops.pure rfl (Pure.len sl24 (RdL.old hv) rfl) ?_
            refine Ops.pure rfl (Pure.move rfl) ?_
            refine Ops.nil ?_
            refine Run.block ?_
            refine Run.loop (X := Nat) (fun i => [(6, .int .i64 ((tot ls / 2 : Nat) : Int)), (7, v41), (42, v), (43, .int .i64 ls.length), (44, .int .i64 i)]) (fun i => [.row 4 1 v41 (2 * (tot ls / 2) + 1) (bools (seenL (tot ls / 2) (pre ls i 0)))]) (fun i => i ≤ ls.length ∧ okEls ((tot ls / 2 : Nat) : Int) (pre ls i 0)) (fun i => ls.length - i) 0 ?_ ?_ ?_ ?_
            · exact ⟨by omega, by rw [pre_zero]; exact ⟨by simp, by simp⟩⟩
            · exact ⟨rfl, rfl, rfl, rfl, rfl, trivial⟩
            · exact Ext.eq (by rw [pre_zero, seenL_nil, made_one _ rfl]; simp)
            · intro i hinv1
              have hli := len_le_tot (ls := ls) (k := i)
              refine Run.seq ?_
              refine Run.region ?_
              refine Ops.pure rfl (Pure.lss rfl rfl) ?_
              refine Ops.nil ?_
              refine Run.seq ?_
              refine Run.cond rfl (fun c45 => ?_) (fun c45 => ?_)
              · skip
                replace c45 := dT c45
                refine Run.skip ?_
                refine Run.seq ?_
                refine Run.block ?_
                refine Run.seq ?_
                refine Run.region ?_
                refine Ops.pure rfl (Pure.idx1N sl24 (RdL.old hv) rfl rfl (by first | assumption | omega | (simp; omega))) ?_
                refine Ops.pure rfl (Pure.ld cell32 rfl (RdL.old hv) (by first | exact ints_get (by omega) | exact bools_get (by omega) | exact strs_get (by omega) | exact vals_get (by first | omega | (simp; omega)))) ?_
                refine Ops.pure rfl (Pure.assign rfl) ?_
                refine Ops.nil ?_
                refine Run.seq ?_
                refine Run.region ?_
                refine Ops.pure rfl (Pure.move rfl) ?_
                refine Ops.pure rfl (Pure.len sl32 (RdL.old (hr i (by omega))) rfl) ?_
                refine Ops.pure rfl (Pure.move rfl) ?_
                refine Ops.nil ?_
                refine Run.block ?_
                refine Run.loop (X := Nat) (fun j => [(6, .int .i64 ((tot ls / 2 : Nat) : Int)), (7, v41), (42, v), (43, .int .i64 ls.length), (44, .int .i64 i), (48, vs.getD i undef), (49, .int .i64 (ls.getD i []).length), (50, .int .i64 j)]) (fun j => [.row 4 1 v41 (2 * (tot ls / 2) + 1) (bools (seenL (tot ls / 2) (pre ls i j)))]) (fun j => j ≤ (ls.getD i []).length ∧ okEls ((tot ls / 2 : Nat) : Int) (pre ls i j)) (fun j => (ls.getD i []).length - j) 0 ?_ ?_ ?_ ?_
                · exact ⟨by omega, hinv1.2⟩
                · exact ⟨rfl, rfl, rfl, rfl, rfl, rfl, rfl, rfl, trivial⟩
                · exact Ext.refl _
                · intro j hinv2
                  have hlS := length_seenL (tot ls / 2) (pre ls i j)
                  have hlB : (bools (seenL (tot ls / 2) (pre ls i j))).length = 2 * (tot ls / 2) + 1 := by rw [bools, List.length_map]; exact hlS
                  refine Run.seq ?_
                  refine Run.region ?_
                  refine Ops.pure rfl (Pure.lss rfl rfl) ?_
                  refine Ops.nil ?_
                  refine Run.seq ?_
                  refine Run.cond rfl (fun c51 => ?_) (fun c51 => ?_)
                  · skip
                    replace c51 := dT c51
                    refine Run.skip ?_
                    refine Run.seq ?_
                    refine Run.block ?_
                    refine Run.seq ?_
                    refine Run.region ?_
                    refine Ops.pure rfl (Pure.idx1N sl32 (RdL.old (hr i (by omega))) rfl rfl (by first | assumption | omega | (simp; omega))) ?_
                    refine Ops.pure rfl (Pure.ld cell2 rfl (RdL.old (hr i (by omega))) (by first | exact ints_get (by omega) | exact bools_get (by omega) | exact strs_get (by omega) | exact vals_get (by first | omega | (simp; omega)))) ?_
                    refine Ops.pure rfl (Pure.assign rfl) ?_
                    refine Ops.nil ?_
                    refine Run.seq ?_
                    refine Run.seq ?_
                    refine Run.region ?_
                    refine Ops.pure rfl (Pure.move rfl) ?_
                    refine Ops.pure rfl (Pure.eql rfl rfl) ?_
                    refine Ops.pure rfl (Pure.move rfl) ?_
                    refine Ops.guard rfl rfl rfl rfl (fun c56 => ?_) (fun c56 => ?_)
                    · skip
                      have c56' := dF c56
                      refine Ops.pure rfl (Pure.move rfl) ?_
                      refine Ops.guardY rfl rfl rfl c56 ?_
                      refine Ops.pure rfl (Pure.move rfl) ?_
                      refine Ops.guardY rfl rfl rfl c56 ?_
                      refine Ops.pure rfl (Pure.neg rfl (by omega) (by omega)) ?_
                      refine Ops.guardY rfl rfl rfl c56 ?_
                      refine Ops.pure rfl (Pure.move rfl) ?_
                      refine Ops.guardY rfl rfl rfl c56 ?_
                      refine Ops.q rfl (QOp.call fn93 rfl (fun w hw => f_i_inRange w _ _ _)) ?_
                      refine Ops.guardY rfl rfl rfl c56 ?_
                      refine Ops.pure rfl (Pure.not rfl) ?_
                      refine Ops.pure rfl (Pure.pickF rfl c56 rfl) ?_
                      refine Ops.pure rfl (Pure.move rfl) ?_
                      refine Ops.guard rfl rfl rfl rfl (fun c64 => ?_) (fun c64 => ?_)
                      · skip
                        have c64' := nF c64
                        refine Ops.pure rfl (Pure.move rfl) ?_
                        refine Ops.guardY rfl rfl rfl c64 ?_
                        refine Ops.pure rfl (Pure.move rfl) ?_
                        refine Ops.guardY rfl rfl rfl c64 ?_
                        refine Ops.pure rfl (Pure.move rfl) ?_
                        refine Ops.guardY rfl rfl rfl c64 ?_
                        refine Ops.pure rfl (Pure.add rfl rfl (by omega) (by omega)) ?_
                        refine Ops.guardY rfl rfl rfl c64 ?_
                        refine Ops.pure rfl (Pure.idx1 sl113 (RdL.own 0 rfl) rfl rfl (by first | assumption | omega | (simp; omega)) (by first | assumption | omega | (simp; omega))) ?_
                        refine Ops.guardY rfl rfl rfl c64 ?_
                        refine Ops.pure rfl (Pure.ld cell4 rfl (RdL.own 0 rfl) (by first | exact ints_get (by omega) | exact bools_get (by omega) | exact strs_get (by omega) | exact vals_get (by first | omega | (simp; omega)))) ?_
                        refine Ops.pure rfl (Pure.pickF rfl c64 rfl) ?_
                        refine Ops.nil ?_
                        refine Run.cond rfl (fun c71 => ?_) (fun c71 => ?_)
                        · skip
                          skip
                          refine Run.seq ?_
                          refine Run.region ?_
                          refine Ops.pure rfl (Pure.assign rfl) ?_
                          refine Ops.nil ?_
                          refine Run.ret1 rfl rfl ?_
                          refine congrArg Value.bool (Eq.symm (validB_false_els rfl (i := i) (j := j) (by omega) (by omega) (fun hh => ?_)))
                          first
                            | exact c64' ⟨hh.2.1, hh.2.2.1⟩
                            | exact hh.1 c56'
                            | (rw [seenL_getD (by omega) (by omega)] at c71; exact hh.2.2.2 (of_decide_eq_true c71))
                        · skip
                          skip
                          refine Run.skip ?_
                          refine Run.region ?_
                          refine Ops.pure rfl (Pure.move rfl) ?_
                          refine Ops.pure rfl (Pure.move rfl) ?_
                          refine Ops.pure rfl (Pure.move rfl) ?_
                          refine Ops.pure rfl (Pure.add rfl rfl (by omega) (by omega)) ?_
                          refine Ops.pure rfl (Pure.idx1 sl113 (RdL.own 0 rfl) rfl rfl (by first | assumption | omega | (simp; omega)) (by first | assumption | omega | (simp; omega))) ?_
                          refine Ops.store (Stores.row1 0 rfl size4 rfl rfl rfl (by first | assumption | omega | (simp; omega))) ?_
                          refine Ops.nil ?_
                          refine Run.blk ?_
                          refine Run.region ?_
                          refine Ops.pure rfl (Pure.add rfl rfl (by omega) (by omega)) ?_
                          refine Ops.pure rfl (Pure.move rfl) ?_
                          refine Ops.nil ?_
                          refine Run.asrt ?_
                          have hnm : ((ls.getD i []).getD j 0) ∉ pre ls i j := by
                            rw [seenL_getD (by omega) (by omega)] at c71
                            simpa using c71
                          exact ⟨j + 1, ⟨⟨by omega, by rw [pre_snoc (by omega)]; exact okEls_snoc hinv2.2 c56' (by omega) (by omega) hnm⟩, by omega⟩, ⟨rfl, rfl, rfl, rfl, rfl, rfl, rfl, rfl, trivial⟩, Ext.eq (by rw [pre_snoc (by omega), ← seenL_set (by omega) (by omega), bools, List.map_set]; rfl)⟩
                      · skip
                        replace c64 := Bool.eq_true_of_ne c64
                        have c64' := nT c64
                        refine Ops.guardN rfl rfl rfl rfl (by rw [c64]; decide) ?_
                        refine Ops.guardN rfl rfl rfl rfl (by rw [c64]; decide) ?_
                        refine Ops.guardN rfl rfl rfl rfl (by rw [c64]; decide) ?_
                        refine Ops.guardN rfl rfl rfl rfl (by rw [c64]; decide) ?_
                        refine Ops.guardN rfl rfl rfl rfl (by rw [c64]; decide) ?_
                        refine Ops.pure rfl (Pure.pickT rfl c64 rfl) ?_
                        refine Ops.nil ?_
                        refine Run.condE rfl rfl ?_
                        refine Run.seq ?_
                        refine Run.region ?_
                        refine Ops.pure rfl (Pure.assign rfl) ?_
                        refine Ops.nil ?_
                        refine Run.ret1 rfl rfl ?_
                        refine congrArg Value.bool (Eq.symm (validB_false_els rfl (i := i) (j := j) (by omega) (by omega) (fun hh => ?_)))
                        first
                          | exact c64' ⟨hh.2.1, hh.2.2.1⟩
                          | exact hh.1 c56'
                          | (rw [seenL_getD (by omega) (by omega)] at c71; exact hh.2.2.2 (of_decide_eq_true c71))
                    · skip
                      replace c56 := Bool.eq_true_of_ne c56
                      have c56' := dT c56
                      refine Ops.guardN rfl rfl rfl rfl (by rw [c56]; decide) ?_
                      refine Ops.guardN rfl rfl rfl rfl (by rw [c56]; decide) ?_
                      refine Ops.guardN rfl rfl rfl rfl (by rw [c56]; decide) ?_
                      refine Ops.guardN rfl rfl rfl rfl (by rw [c56]; decide) ?_
                      refine Ops.guardN rfl rfl rfl rfl (by rw [c56]; decide) ?_
                      refine Ops.pure rfl (Pure.pickT rfl c56 rfl) ?_
                      refine Ops.pure rfl (Pure.move rfl) ?_
                      refine Ops.guardN rfl rfl rfl rfl (by decide) ?_
                      refine Ops.guardN rfl rfl rfl rfl (by decide) ?_
                      refine Ops.guardN rfl rfl rfl rfl (by decide) ?_
                      refine Ops.guardN rfl rfl rfl rfl (by decide) ?_
                      refine Ops.guardN rfl rfl rfl rfl (by decide) ?_
                      refine Ops.guardN rfl rfl rfl rfl (by decide) ?_
                      refine Ops.pure rfl (Pure.pickT rfl rfl rfl) ?_
                      refine Ops.nil ?_
                      refine Run.condE rfl rfl ?_
                      refine Run.seq ?_
                      refine Run.region ?_
                      refine Ops.pure rfl (Pure.assign rfl) ?_
                      refine Ops.nil ?_
                      refine Run.ret1 rfl rfl ?_
                      refine congrArg Value.bool (Eq.symm (validB_false_els rfl (i := i) (j := j) (by omega) (by omega) (fun hh => ?_)))
                      first
                        | exact c64' ⟨hh.2.1, hh.2.2.1⟩
                        | exact hh.1 c56'
                        | (rw [seenL_getD (by omega) (by omega)] at c71; exact hh.2.2.2 (of_decide_eq_true c71))
                  · skip
                    replace c51 := dF c51
                    refine Run.exit rfl ?_
                    refine Run.blk ?_
                    refine Run.region ?_
                    refine Ops.pure rfl (Pure.add rfl rfl (by omega) (by omega)) ?_
                    refine Ops.pure rfl (Pure.move rfl) ?_
                    refine Ops.nil ?_
                    refine Run.asrt ?_
                    exact ⟨i + 1, ⟨⟨by omega, by rw [← pre_next (j := j) (by omega) (by omega)]; exact hinv2.2⟩, by omega⟩, ⟨rfl, rfl, rfl, rfl, rfl, trivial⟩, Ext.eq (by rw [← pre_next (j := j) (by omega) (by omega)])⟩
              · skip
                replace c45 := dF c45
                refine Run.exit rfl ?_
                refine Run.seq ?_
                refine Run.region ?_
                refine Ops.pure rfl (Pure.assign rfl) ?_
                refine Ops.nil ?_
                refine Run.ret1 rfl rfl ?_
                rw [validB_true_els rfl (by omega) (by omega) (by omega) (i := i) (by omega) hinv1.2]
        · skip
          replace c31 := Bool.eq_true_of_ne c31
          have c31' := nT c31
          refine Ops.guardN rfl rfl rfl rfl (by rw [c31]; decide) ?_
          refine Ops.guardN rfl rfl rfl rfl (by rw [c31]; decide) ?_
          refine Ops.pure rfl (Pure.pickT rfl c31 rfl) ?_
          refine Ops.nil ?_
          refine Run.condE rfl rfl ?_
          refine Run.seq ?_
          refine Run.region ?_
          refine Ops.pure rfl (Pure.assign rfl) ?_
          refine Ops.nil ?_
          refine Run.ret1 rfl rfl ?_
          rw [validB_false (by omega)]
      · skip
        replace c26 := Bool.eq_true_of_ne c26
        have c26' := dT c26
        refine Ops.guardN rfl rfl rfl rfl (by rw [c26]; decide) ?_
        refine Ops.guardN rfl rfl rfl rfl (by rw [c26]; decide) ?_
        refine Ops.pure rfl (Pure.pickT rfl c26 rfl) ?_
        refine Ops.pure rfl (Pure.move rfl) ?_
        refine Ops.guardN rfl rfl rfl rfl (by decide) ?_
        refine Ops.guardN rfl rfl rfl rfl (by decide) ?_
        refine Ops.guardN rfl rfl rfl rfl (by decide) ?_
        refine Ops.pure rfl (Pure.pickT rfl rfl rfl) ?_
        refine Ops.nil ?_
        refine Run.condE rfl rfl ?_
        refine Run.seq ?_
        refine Run.region ?_
        refine Ops.pure rfl (Pure.assign rfl) ?_
        refine Ops.nil ?_
        refine Run.ret1 rfl rfl ?_
        rw [validB_false (by omega)]

end Go.Proofs.Ytmfinopdokkjcaa
