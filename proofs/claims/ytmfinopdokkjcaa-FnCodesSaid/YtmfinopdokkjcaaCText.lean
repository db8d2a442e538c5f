/- Contracts of functions, printed by program from annotations. -/
import Derived.Test.YtmfinopdokkjcaaText
import Derived.Test.YtmfinopdokkjcaaMirror
namespace Go.Proofs.Ytmfinopdokkjcaa
open Go Go.AW Go.RowKit
set_option linter.unusedVariables false
set_option linter.unusedSimpArgs false

theorem decs_size {l : List Int} (hi : ∀ x ∈ l, -9223372036854775808 ≤ x ∧ x ≤ 9223372036854775807) (k : Nat) (hk : k < (l.map decB).length) : ((l.map decB).getD k ByteArray.empty).size ≤ 20 := by
  rw [List.length_map] at hk
  rw [getD_mapB 0 hk]
  have := hi _ (mem_getD 0 hk)
  exact decB_size this.1 this.2
def partC (row : List Int) : ByteArray := if row = [] then strOf [111] else joinAll (strOf [32]) (row.map decB)
theorem partC_nil {row : List Int} (h : (row.length : Int) = 0) : partC row = strOf [111] := by unfold partC; rw [if_pos (List.eq_nil_of_length_eq_zero (by omega))]
theorem partC_some {row : List Int} (h : ¬ (row.length : Int) = 0) : partC row = joinAll (strOf [32]) (row.map decB) := by unfold partC; rw [if_neg (by rintro rfl; exact h rfl)]
theorem joinD_size {l : List Int} (hi : ∀ x ∈ l, -9223372036854775808 ≤ x ∧ x ≤ 9223372036854775807) : ∀ k, k ≤ l.length → (joinTo (strOf [32]) (l.map decB) k).size ≤ k * 21
  | 0, _ => by simp [joinTo]
  | k + 1, h => by
    have h1 := joinD_size hi k (by omega)
    have h2 := decs_size hi k (by rw [List.length_map]; omega)
    have h3 : (strOf [32]).size = 1 := rfl
    show (if k = 0 then joinTo (strOf [32]) (l.map decB) k ++ (l.map decB).getD k ByteArray.empty else (joinTo (strOf [32]) (l.map decB) k ++ strOf [32]) ++ (l.map decB).getD k ByteArray.empty).size ≤ _
    split
    · rw [ByteArray.size_append]; omega
    · rw [ByteArray.size_append, ByteArray.size_append]; omega
theorem partC_size {row : List Int} (hi : ∀ x ∈ row, -9223372036854775808 ≤ x ∧ x ≤ 9223372036854775807) (hl : row.length ≤ 4096) : (partC row).size ≤ 4194304 := by
  unfold partC
  split
  · rw [size_strOf]; simp
  · unfold joinAll
    have := joinD_size hi row.length (Nat.le_refl _)
    rw [List.length_map]
    omega
def codeT (ls : List (List Int)) : ByteArray := if validB ls then (if ls.length = 0 then strOf [110, 111, 110, 101] else joinAll (strOf [59]) (ls.map partC)) else ByteArray.empty
theorem codeT_bad {ls : List (List Int)} (h : validB ls = false) : codeT ls = ByteArray.empty := by unfold codeT; rw [h]; rfl
theorem codeT_none {ls : List (List Int)} (h : validB ls = true) (h0 : (ls.length : Int) = 0) : codeT ls = strOf [110, 111, 110, 101] := by unfold codeT; rw [h, if_pos rfl, if_pos (by omega)]
theorem codeT_some {ls : List (List Int)} (h : validB ls = true) (h0 : ¬ (ls.length : Int) = 0) : codeT ls = joinAll (strOf [59]) (ls.map partC) := by unfold codeT; rw [h, if_pos rfl, if_neg (by omega)]
def baseT (J : ByteArray) (i : Nat) (row : List Int) : ByteArray := (if i = 0 then J else J ++ strOf [59]) ++ (if row = [] then strOf [111] else ByteArray.empty)
theorem app_empty (a : ByteArray) : a ++ ByteArray.empty = a := ByteArray.append_empty
theorem baseT_1 {J : ByteArray} {i : Nat} {row : List Int} {ds : List ByteArray} (h : 0 < (i : Int)) (hr : (row.length : Int) = 0) : (J ++ strOf [59]) ++ strOf [111] = baseT J i row ++ joinTo (strOf [32]) ds 0 := by
  unfold baseT
  rw [if_neg (by omega), if_pos (List.eq_nil_of_length_eq_zero (by omega))]
  exact (app_empty _).symm
theorem baseT_2 {J : ByteArray} {i : Nat} {row : List Int} {ds : List ByteArray} (h : 0 < (i : Int)) (hr : ¬ (row.length : Int) = 0) : J ++ strOf [59] = baseT J i row ++ joinTo (strOf [32]) ds 0 := by
  unfold baseT
  rw [if_neg (by omega), if_neg (by rintro rfl; exact hr rfl)]
  exact ((app_empty _).trans (app_empty _)).symm
theorem baseT_3 {J : ByteArray} {i : Nat} {row : List Int} {ds : List ByteArray} (h : ¬ 0 < (i : Int)) (hr : (row.length : Int) = 0) : J ++ strOf [111] = baseT J i row ++ joinTo (strOf [32]) ds 0 := by
  unfold baseT
  rw [if_pos (by omega), if_pos (List.eq_nil_of_length_eq_zero (by omega))]
  exact (app_empty _).symm
theorem baseT_4 {J : ByteArray} {i : Nat} {row : List Int} {ds : List ByteArray} (h : ¬ 0 < (i : Int)) (hr : ¬ (row.length : Int) = 0) : J = baseT J i row ++ joinTo (strOf [32]) ds 0 := by
  unfold baseT
  rw [if_pos (by omega), if_neg (by rintro rfl; exact hr rfl)]
  exact ((app_empty _).trans (app_empty _)).symm
theorem baseT_size (J : ByteArray) (i : Nat) (row : List Int) : (baseT J i row).size ≤ J.size + 2 := by
  unfold baseT
  rw [ByteArray.size_append]
  have h1 : (if i = 0 then J else J ++ strOf [59]).size ≤ J.size + 1 := by
    split
    · omega
    · rw [ByteArray.size_append]; exact Nat.le_refl _
  have h2 : (if row = [] then strOf [111] else ByteArray.empty).size ≤ 1 := by split <;> decide
  omega
theorem baseT_done {ls : List (List Int)} {i k : Nat} (hi : i < ls.length) (hk : k = (ls.getD i []).length) : baseT (joinTo (strOf [59]) (ls.map partC) i) i (ls.getD i []) ++ joinTo (strOf [32]) ((ls.getD i []).map decB) k = joinTo (strOf [59]) (ls.map partC) (i + 1) := by
  subst hk
  have hg := getD_mapB (f := partC) (l := ls) (k := i) [] hi
  have h1 : joinTo (strOf [59]) (ls.map partC) (i + 1) = (if i = 0 then joinTo (strOf [59]) (ls.map partC) i else joinTo (strOf [59]) (ls.map partC) i ++ strOf [59]) ++ partC (ls.getD i []) := by
    rw [← hg]
    show (if i = 0 then _ else _) = _
    split <;> rfl
  rw [h1]
  unfold baseT
  rw [ByteArray.append_assoc]
  congr 1
  by_cases hr : ((ls.getD i []).length : Int) = 0
  · rw [partC_nil hr, if_pos (List.eq_nil_of_length_eq_zero (by omega)), show (ls.getD i []).length = 0 by omega]
    exact app_empty _
  · rw [partC_some hr, if_neg (by intro e; rw [e] at hr; exact hr rfl)]
    unfold joinAll
    rw [List.length_map]
    exact ByteArray.empty_append
theorem row_bound {ls : List (List Int)} (h : validB ls = true) {i : Nat} (hi : i < ls.length) : (∀ x ∈ ls.getD i [], -9223372036854775808 ≤ x ∧ x ≤ 9223372036854775807) ∧ (ls.getD i []).length ≤ 4096 := by
  refine ⟨fun x hx => ?_, ?_⟩
  · obtain ⟨j, hj, rfl⟩ := List.mem_iff_getElem.1 hx
    have := validB_bound h hi hj
    rw [List.getD_eq_getElem?_getD, List.getElem?_eq_getElem hj] at this
    simp only [Option.getD_some] at this
    omega
  · have h1 := len_le_tot (ls := ls) (k := i) hi
    have h2 := validB_len h
    omega
theorem partsC_size {ls : List (List Int)} (h : validB ls = true) (k : Nat) (hk : k < (ls.map partC).length) : ((ls.map partC).getD k ByteArray.empty).size ≤ 4194304 := by
  rw [List.length_map] at hk
  rw [getD_mapB [] hk]
  exact partC_size (row_bound h hk).1 (row_bound h hk).2
theorem validB_bound' {ls : List (List Int)} (h : validB ls = true) {i j : Nat} (hi : i < ls.length) (hj : j < (ls.getD i []).length) : -9223372036854775808 ≤ (ls.getD i []).getD j 0 ∧ (ls.getD i []).getD j 0 ≤ 9223372036854775807 := by
  have := validB_bound h hi hj
  omega

set_option maxRecDepth 4000 in
/-- impl.decimals -/
theorem f_i_decimals (w : World) (v : Value) (l : List Int) (sep : ByteArray) (hv : Rd w v 1 l.length (ints l)) (hl : l.length ≤ 1048576) (hi : ∀ x ∈ l, -9223372036854775808 ≤ x ∧ x ≤ 9223372036854775807) (hsp : sep.size ≤ 16) : RetV Try.prog 104 [v, .string sep] w (.string (joinAll sep (l.map decB))) := by
  refine Ret.enter Try.func104 rfl Try.ntmps104 rfl ?_
  refine Run.seq ?_
  refine Run.region ?_
  refine Ops.pure rfl (Pure.assign rfl) ?_
  refine Ops.nil ?_
  refine Run.seq ?_
  refine Run.region ?_
  refine Ops.go rfl (Loud.lit sl58 rfl rfl rfl (by simp [Value.oneCell'])) ?_
  rintro v8 _ rfl
  refine Ops.pure rfl (Pure.assign rfl) ?_
  refine Ops.nil ?_
  refine Run.seq ?_
  refine Run.seq ?_
  refine Run.region ?_
  refine Ops.pure rfl (Pure.move rfl) ?_
  refine Ops.pure rfl (Pure.len sl32 (RdL.old hv) rfl) ?_
  refine Ops.pure rfl (Pure.move rfl) ?_
  refine Ops.nil ?_
  refine Run.block ?_
  refine Run.loop2 (X := Nat) (Y := Value) (fun k vp => [(1, .string sep), (5, vp), (9, v), (10, .int .i64 l.length), (11, .int .i64 k)]) (fun k vp => [.row 9 1 vp k (strs ((l.take k).map decB))]) (fun k vp => k ≤ l.length) (fun k vp => l.length - k) 0 v8 ?_ ?_ ?_ ?_
  · exact Nat.zero_le _
  · exact ⟨rfl, rfl, rfl, rfl, rfl, trivial⟩
  · exact Ext.eq rfl
  · intro k vp hinv0
    have hik := fun (h : k < l.length) => hi _ (mem_getD 0 h)
    refine Run.seq ?_
    refine Run.region ?_
    refine Ops.pure rfl (Pure.lss rfl rfl) ?_
    refine Ops.nil ?_
    refine Run.seq ?_
    refine Run.cond rfl (fun c12 => ?_) (fun c12 => ?_)
    · skip
      replace c12 := dT c12
      refine Run.skip ?_
      refine Run.seq ?_
      refine Run.block ?_
      refine Run.seq ?_
      refine Run.region ?_
      refine Ops.pure rfl (Pure.idx1N sl32 (RdL.old hv) rfl rfl (by first | assumption | omega | (simp; omega))) ?_
      refine Ops.pure rfl (Pure.ld cell2 rfl (RdL.old hv) (by first | exact ints_get (by omega) | exact bools_get (by omega) | exact strs_get (by omega) | exact vals_get (by first | omega | (simp; omega)))) ?_
      refine Ops.pure rfl (Pure.assign rfl) ?_
      refine Ops.nil ?_
      refine Run.region ?_
      refine Ops.pure rfl (Pure.move rfl) ?_
      refine Ops.pure rfl (Pure.move rfl) ?_
      refine Ops.q rfl (QOp.call fn130 rfl (fun w hw => f_i_Decimal w _ (hik (by omega)).1 (hik (by omega)).2)) ?_
      refine Ops.go rfl (Loud.lit sl58 rfl rfl rfl (by simp [Value.oneCell'])) ?_
      rintro v18 _ rfl
      refine Ops.go rfl (Loud.append 1 rfl sl58 rfl rfl (RdL.own 0 rfl) (by simp [Value.oneCell']) (by omega) (by omega)) ?_
      rintro v19 _ rfl
      refine Ops.pure rfl (Pure.assign rfl) ?_
      refine Ops.nil ?_
      refine Run.blk ?_
      refine Run.region ?_
      refine Ops.pure rfl (Pure.add rfl rfl (by omega) (by omega)) ?_
      refine Ops.pure rfl (Pure.move rfl) ?_
      refine Ops.nil ?_
      refine Run.asrt ?_
      refine ⟨k + 1, v19, ⟨by omega, by omega⟩, ⟨rfl, rfl, rfl, rfl, rfl, trivial⟩, Ext.trans (Ext.eq ?_) (Ext.take 1 rfl (Ext.nil _))⟩
      rw [strs_snoc 0 (by omega)]
      try rfl
    · skip
      replace c12 := dF c12
      refine Run.exit rfl ?_
      refine Run.seq ?_
      have e : k = l.length := by omega
      subst e
      rw [List.take_length]
      refine Run.region ?_
      refine Ops.pure rfl (Pure.move rfl) ?_
      refine Ops.pure rfl (Pure.move rfl) ?_
      refine Ops.q rfl (QOp.call fn105 rfl (fun w hw => f_i_joined w _ (l.map decB) _ (by rw [List.length_map]; exact RdL.own 0 rfl w hw) (by rw [List.length_map]; omega) (fun k hk => Nat.le_trans (decs_size hi k hk) (by omega)) hsp)) ?_
      refine Ops.pure rfl (Pure.assign rfl) ?_
      refine Ops.nil ?_
      refine Run.ret1 rfl rfl ?_
      rfl

set_option maxRecDepth 4000 in
/-- impl.CodeText -/
theorem f_i_CodeText (w : World) (v : Value) (ls : List (List Int)) (hs : RdSS w v ls) (hb : ls.length + tot ls ≤ 1073741824) : RetV Try.prog 26 [v] w (.string (codeT ls)) := by
  have hs0 := hs
  obtain ⟨vs, hvl, hv, hr⟩ := hs
  refine Ret.enter Try.func26 rfl Try.ntmps26 rfl ?_
  refine Run.seq ?_
  refine Run.region ?_
  refine Ops.pure rfl (Pure.assign rfl) ?_
  refine Ops.nil ?_
  refine Run.seq ?_
  refine Run.seq ?_
  refine Run.region ?_
  refine Ops.pure rfl (Pure.move rfl) ?_
  refine Ops.q rfl (QOp.call fn23 rfl (fun w hw => f_i_ValidCode w _ _ (by exact RdSS.old (by assumption) hw) (by assumption))) ?_
  refine Ops.pure rfl (Pure.not rfl) ?_
  refine Ops.nil ?_
  refine Run.cond rfl (fun c8 => ?_) (fun c8 => ?_)
  · skip
    replace c8 := bT c8
    refine Run.seq ?_
    refine Run.region ?_
    refine Ops.pure rfl (Pure.assign rfl) ?_
    refine Ops.nil ?_
    refine Run.ret1 rfl rfl ?_
    rw [codeT_bad c8]
    try rfl
  · skip
    replace c8 := bF c8
    refine Run.skip ?_
    refine Run.seq ?_
    refine Run.seq ?_
    refine Run.region ?_
    refine Ops.pure rfl (Pure.move rfl) ?_
    refine Ops.pure rfl (Pure.len sl24 (RdL.old hv) rfl) ?_
    refine Ops.pure rfl (Pure.eql rfl rfl) ?_
    refine Ops.nil ?_
    refine Run.cond rfl (fun c11 => ?_) (fun c11 => ?_)
    · skip
      replace c11 := dT c11
      refine Run.seq ?_
      refine Run.region ?_
      refine Ops.pure rfl (Pure.assign rfl) ?_
      refine Ops.nil ?_
      refine Run.ret1 rfl rfl ?_
      rw [codeT_none c8 c11]
      try rfl
    · skip
      replace c11 := dF c11
      refine Run.skip ?_
      refine Run.seq ?_
      refine Run.region ?_
      refine Ops.go rfl (Loud.lit sl58 rfl rfl rfl (by simp [Value.oneCell'])) ?_
      rintro v12 _ rfl
      refine Ops.pure rfl (Pure.assign rfl) ?_
      refine Ops.nil ?_
      refine Run.seq ?_
      refine Run.seq ?_
      refine Run.region ?_
      refine Ops.pure rfl (Pure.move rfl) ?_
      refine Ops.pure rfl (Pure.len sl24 (RdL.old hv) rfl) ?_
      refine Ops.pure rfl (Pure.move rfl) ?_
      refine Ops.nil ?_
      refine Run.block ?_
      refine Run.loop2 (X := Nat) (Y := Value) (fun k vp => [(3, vp), (13, v), (14, .int .i64 ls.length), (15, .int .i64 k)]) (fun k vp => [.row 9 1 vp k (strs ((ls.take k).map partC))]) (fun k vp => k ≤ ls.length) (fun k vp => ls.length - k) 0 v12 ?_ ?_ ?_ ?_
      · exact Nat.zero_le _
      · exact ⟨rfl, rfl, rfl, rfl, trivial⟩
      · exact Ext.eq rfl
      · intro k vp hinv0
        have hik := fun (h : k < ls.length) => row_bound c8 h
        have hvl2 := validB_len c8
        have hlk := len_le_tot (ls := ls) (k := k)
        refine Run.seq ?_
        refine Run.region ?_
        refine Ops.pure rfl (Pure.lss rfl rfl) ?_
        refine Ops.nil ?_
        refine Run.seq ?_
        refine Run.cond rfl (fun c16 => ?_) (fun c16 => ?_)
        · skip
          replace c16 := dT c16
          refine Run.skip ?_
          refine Run.seq ?_
          refine Run.block ?_
          refine Run.seq ?_
          refine Run.region ?_
          refine Ops.pure rfl (Pure.idx1N sl24 (RdL.old hv) rfl rfl (by first | assumption | omega | (simp; omega))) ?_
          refine Ops.pure rfl (Pure.ld cell32 rfl (RdL.old hv) (by first | exact ints_get (by omega) | exact bools_get (by omega) | exact strs_get (by omega) | exact vals_get (by first | omega | (simp; omega)))) ?_
          refine Ops.pure rfl (Pure.assign rfl) ?_
          refine Ops.nil ?_
          refine Run.seq ?_
          refine Run.region ?_
          refine Ops.pure rfl (Pure.move rfl) ?_
          refine Ops.pure rfl (Pure.len sl32 (RdL.old (hr k (by omega))) rfl) ?_
          refine Ops.pure rfl (Pure.eql rfl rfl) ?_
          refine Ops.nil ?_
          refine Run.cond rfl (fun c21 => ?_) (fun c21 => ?_)
          · skip
            replace c21 := dT c21
            refine Run.region ?_
            refine Ops.pure rfl (Pure.move rfl) ?_
            refine Ops.go rfl (Loud.lit sl58 rfl rfl rfl (by simp [Value.oneCell'])) ?_
            rintro v23 _ rfl
            refine Ops.go rfl (Loud.append 1 rfl sl58 rfl rfl (RdL.own 0 rfl) (by simp [Value.oneCell']) (by omega) (by omega)) ?_
            rintro v24 _ rfl
            refine Ops.pure rfl (Pure.assign rfl) ?_
            refine Ops.nil ?_
            refine Run.blk ?_
            refine Run.region ?_
            refine Ops.pure rfl (Pure.add rfl rfl (by omega) (by omega)) ?_
            refine Ops.pure rfl (Pure.move rfl) ?_
            refine Ops.nil ?_
            refine Run.asrt ?_
            first
              | (refine ⟨k + 1, v24, ⟨by omega, by omega⟩, ⟨rfl, rfl, rfl, rfl, trivial⟩, Ext.trans (Ext.eq ?_) (Ext.take 1 rfl (Ext.nil _))⟩
                 rw [strs_snoc [] (by omega), partC_nil c21]
                 rfl)
              | (refine ⟨k + 1, v29, ⟨by omega, by omega⟩, ⟨rfl, rfl, rfl, rfl, trivial⟩, Ext.trans (Ext.eq ?_) (Ext.take 1 rfl (Ext.nil _))⟩
                 rw [strs_snoc [] (by omega), partC_some c21]
                 rfl)
          · skip
            replace c21 := dF c21
            refine Run.region ?_
            refine Ops.pure rfl (Pure.move rfl) ?_
            refine Ops.pure rfl (Pure.move rfl) ?_
            refine Ops.q rfl (QOp.call fn104 rfl (fun w hw => f_i_decimals w _ (ls.getD k []) _ (RdL.old (hr k (by omega)) w hw) (by omega) (hik (by omega)).1 (by decide))) ?_
            refine Ops.go rfl (Loud.lit sl58 rfl rfl rfl (by simp [Value.oneCell'])) ?_
            rintro v28 _ rfl
            refine Ops.go rfl (Loud.append 1 rfl sl58 rfl rfl (RdL.own 0 rfl) (by simp [Value.oneCell']) (by omega) (by omega)) ?_
            rintro v29 _ rfl
            refine Ops.pure rfl (Pure.assign rfl) ?_
            refine Ops.nil ?_
            refine Run.blk ?_
            refine Run.region ?_
            refine Ops.pure rfl (Pure.add rfl rfl (by omega) (by omega)) ?_
            refine Ops.pure rfl (Pure.move rfl) ?_
            refine Ops.nil ?_
            refine Run.asrt ?_
            first
              | (refine ⟨k + 1, v24, ⟨by omega, by omega⟩, ⟨rfl, rfl, rfl, rfl, trivial⟩, Ext.trans (Ext.eq ?_) (Ext.take 1 rfl (Ext.nil _))⟩
                 rw [strs_snoc [] (by omega), partC_nil c21]
                 rfl)
              | (refine ⟨k + 1, v29, ⟨by omega, by omega⟩, ⟨rfl, rfl, rfl, rfl, trivial⟩, Ext.trans (Ext.eq ?_) (Ext.take 1 rfl (Ext.nil _))⟩
                 rw [strs_snoc [] (by omega), partC_some c21]
                 rfl)
        · skip
          replace c16 := dF c16
          refine Run.exit rfl ?_
          refine Run.seq ?_
          have e : k = ls.length := by omega
          subst e
          rw [List.take_length]
          have hvl3 := validB_len c8
          refine Run.region ?_
          refine Ops.pure rfl (Pure.move rfl) ?_
          refine Ops.q rfl (QOp.call fn105 rfl (fun w hw => f_i_joined w _ (ls.map partC) _ (by rw [List.length_map]; exact RdL.own 0 rfl w hw) (by rw [List.length_map]; omega) (partsC_size c8) (by decide))) ?_
          refine Ops.pure rfl (Pure.assign rfl) ?_
          refine Ops.nil ?_
          refine Run.ret1 rfl rfl ?_
          rw [codeT_some c8 c11]
          try rfl

end Go.Proofs.Ytmfinopdokkjcaa
