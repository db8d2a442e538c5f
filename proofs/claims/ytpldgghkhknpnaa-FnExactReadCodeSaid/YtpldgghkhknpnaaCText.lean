/- Contracts of functions, printed by program from annotations. -/
import Derived.Test.YtpldgghkhknpnaaText
import Derived.Test.YtpldgghkhknpnaaMirror
namespace Go.Proofs.Ytpldgghkhknpnaa
open Go Go.AW Go.RowKit
set_option linter.unusedVariables false
set_option linter.unusedSimpArgs false

theorem decs_size {l : List Int} (hi : ∀ x ∈ l, -9223372036854775808 ≤ x ∧ x ≤ 9223372036854775807) (k : Nat) (hk : k < (l.map decB).length) : ((l.map decB).getD k ByteArray.empty).size ≤ 20 := by
  rw [List.length_map] at hk
  rw [getD_mapB 0 hk]
  have := hi _ (mem_getD 0 hk)
  exact decB_size this.1 this.2
def partC (row : List Int) : ByteArray := if row = [] then strOf [111] else joinAll (strOf [32]) (row.map decB)
theorem partC_nil {row : List Int} (h : (row.length : Int) = 0) : partC row = strOf [111] := by unfold partC; rw [if_pos (List.eq_nil_of_length_eq_zero (by omega))]
theorem partC_some {row : List Int} (h : ¬ (row.length : Int) = 0) : partC row = joinAll (strOf [32]) (row.map decB) := by unfold partC; rw [if_neg (by rintro rfl; exact h rfl)]
theorem joinD_size {l : List Int} (hi : ∀ x ∈ l, -9223372036854775808 ≤ x ∧ x ≤ 9223372036854775807) : ∀ k, k ≤ l.length → (joinTo (strOf [32]) (l.map decB) k).size ≤ k * 21
  | 0, _ => by simp [joinTo]
  | k + 1, h => by
    have h1 := joinD_size hi k (by omega)
    have h2 := decs_size hi k (by rw [List.length_map]; omega)
    have h3 : (strOf [32]).size = 1 := rfl
    show (if k = 0 then joinTo (strOf [32]) (l.map decB) k ++ (l.map decB).getD k ByteArray.empty else (joinTo (strOf [32]) (l.map decB) k ++ strOf [32]) ++ (l.map decB).getD k ByteArray.empty).size ≤ _
    split
    · rw [ByteArray.size_append]; omega
    · rw [ByteArray.size_append, ByteArray.size_append]; omega
theorem partC_size {row : List Int} (hi : ∀ x ∈ row, -9223372036854775808 ≤ x ∧ x ≤ 9223372036854775807) (hl : row.length ≤ 4096) : (partC row).size ≤ 4194304 := by
  unfold partC
  split
  · rw [size_strOf]; simp
  · unfold joinAll
    have := joinD_size hi row.length (Nat.le_refl _)
    rw [List.length_map]
    omega
def codeT (ls : List (List Int)) : ByteArray := if validB ls then (if ls.length = 0 then strOf [110, 111, 110, 101] else joinAll (strOf [59]) (ls.map partC)) else ByteArray.empty
theorem codeT_bad {ls : List (List Int)} (h : validB ls = false) : codeT ls = ByteArray.empty := by unfold codeT; rw [h]; rfl
theorem codeT_none {ls : List (List Int)} (h : validB ls = true) (h0 : (ls.length : Int) = 0) : codeT ls = strOf [110, 111, 110, 101] := by unfold codeT; rw [h, if_pos rfl, if_pos (by omega)]
theorem codeT_some {ls : List (List Int)} (h : validB ls = true) (h0 : ¬ (ls.length : Int) = 0) : codeT ls = joinAll (strOf [59]) (ls.map partC) := by unfold codeT; rw [h, if_pos rfl, if_neg (by omega)]
def baseT (J : ByteArray) (i : Nat) (row : List Int) : ByteArray := (if i = 0 then J else J ++ strOf [59]) ++ (if row = [] then strOf [111] else ByteArray.empty)
theorem app_empty (a : ByteArray) : a ++ ByteArray.empty = a := ByteArray.append_empty
theorem baseT_1 {J : ByteArray} {i : Nat} {row : List Int} {ds : List ByteArray} (h : 0 < (i : Int)) (hr : (row.length : Int) = 0) : (J ++ strOf [59]) ++ strOf [111] = baseT J i row ++ joinTo (strOf [32]) ds 0 := by
  unfold baseT
  rw [if_neg (by omega), if_pos (List.eq_nil_of_length_eq_zero (by omega))]
  exact (app_empty _).symm
theorem baseT_2 {J : ByteArray} {i : Nat} {row : List Int} {ds : List ByteArray} (h : 0 < (i : Int)) (hr : ¬ (row.length : Int) = 0) : J ++ strOf [59] = baseT J i row ++ joinTo (strOf [32]) ds 0 := by
  unfold baseT
  rw [if_neg (by omega), if_neg (by rintro rfl; exact hr rfl)]
  exact ((app_empty _).trans (app_empty _)).symm
theorem baseT_3 {J : ByteArray} {i : Nat} {row : List Int} {ds : List ByteArray} (h : ¬ 0 < (i : Int)) (hr : (row.length : Int) = 0) : J ++ strOf [111] = baseT J i row ++ joinTo (strOf [32]) ds 0 := by
  unfold baseT
  rw [if_pos (by omega), if_pos (List.eq_nil_of_length_eq_zero (by omega))]
  exact (app_empty _).symm
theorem baseT_4 {J : ByteArray} {i : Nat} {row : List Int} {ds : List ByteArray} (h : ¬ 0 < (i : Int)) (hr : ¬ (row.length : Int) = 0) : J = baseT J i row ++ joinTo (strOf [32]) ds 0 := by
  unfold baseT
  rw [if_pos (by omega), if_neg (by rintro rfl; exact hr rfl)]
  exact ((app_empty _).trans (app_empty _)).symm
theorem baseT_size (J : ByteArray) (i : Nat) (row : List Int) : (baseT J i row).size ≤ J.size + 2 := by
  unfold baseT
  rw [ByteArray.size_append]
  have h1 : (if i = 0 then J else J ++ strOf [59]).size ≤ J.size + 1 := by
    split
    · omega
    · rw [ByteArray.size_append]; exact Nat.le_refl _
  have h2 : (if row = [] then strOf [111] else ByteArray.empty).size ≤ 1 := by split <;> decide
  omega
theorem baseT_done {ls : List (List Int)} {i k : Nat} (hi : i < ls.length) (hk : k = (ls.getD i []).length) : baseT (joinTo (strOf [59]) (ls.map partC) i) i (ls.getD i []) ++ joinTo (strOf [32]) ((ls.getD i []).map decB) k = joinTo (strOf [59]) (ls.map partC) (i + 1) := by
  subst hk
  have hg := getD_mapB (f := partC) (l := ls) (k := i) [] hi
  have h1 : joinTo (strOf [59]) (ls.map partC) (i + 1) = (if i = 0 then joinTo (strOf [59]) (ls.map partC) i else joinTo (strOf [59]) (ls.map partC) i ++ strOf [59]) ++ partC (ls.getD i []) := by
    rw [← hg]
    show (if i = 0 then _ else _) = _
    split <;> rfl
  rw [h1]
  unfold baseT
  rw [ByteArray.append_assoc]
  congr 1
  by_cases hr : ((ls.getD i []).length : Int) = 0
  · rw [partC_nil hr, if_pos (List.eq_nil_of_length_eq_zero (by omega)), show (ls.getD i []).length = 0 by omega]
    exact app_empty _
  · rw [partC_some hr, if_neg (by intro e; rw [e] at hr; exact hr rfl)]
    unfold joinAll
    rw [List.length_map]
    exact ByteArray.empty_append
theorem row_bound {ls : List (List Int)} (h : validB ls = true) {i : Nat} (hi : i < ls.length) : (∀ x ∈ ls.getD i [], -9223372036854775808 ≤ x ∧ x ≤ 9223372036854775807) ∧ (ls.getD i []).length ≤ 4096 := by
  refine ⟨fun x hx => ?_, ?_⟩
  · obtain ⟨j, hj, rfl⟩ := List.mem_iff_getElem.1 hx
    have := validB_bound h hi hj
    rw [List.getD_eq_getElem?_getD, List.getElem?_eq_getElem hj] at this
    simp only [Option.getD_some] at this
    omega
  · have h1 := len_le_tot (ls := ls) (k := i) hi
    have h2 := validB_len h
    omega
theorem partsC_size {ls : List (List Int)} (h : validB ls = true) (k : Nat) (hk : k < (ls.map partC).length) : ((ls.map partC).getD k ByteArray.empty).size ≤ 4194304 := by
  rw [List.length_map] at hk
  rw [getD_mapB [] hk]
  exact partC_size (row_bound h hk).1 (row_bound h hk).2
theorem validB_bound' {ls : List (List Int)} (h : validB ls = true) {i j : Nat} (hi : i < ls.length) (hj : j < (ls.getD i []).length) : -9223372036854775808 ≤ (ls.getD i []).getD j 0 ∧ (ls.getD i []).getD j 0 ≤ 9223372036854775807 := by
  have := validB_bound h hi hj
  omega

set_option maxRecDepth 4000 in
/-- impl.decimals -/
theorem f_i_decimals (w : World) (v : Value) (l : List Int) (sep : ByteArray) (hv : Rd w v 1 l.length (ints l)) (hl : l.length ≤ 1048576) (hi : ∀ x ∈ l, -9223372036854775808 ≤ x ∧ x ≤ 9223372036854775807) (hsp : sep.size ≤ 16) : RetV Try.prog 70 [v, .string sep] w (.string (joinAll sep (l.map decB))) := by
  refine Ret.enter Try.func70 rfl Try.ntmps70 rfl ?_
  refine Run.seq ?_
  refine Run.region ?_
  refine Ops.pure rfl (Pure.assign rfl) ?_
  refine Ops.nil ?_
  refine Run.seq ?_
  refine Run.region ?_
  refine Ops.go rfl (Loud.lit sl55 rfl rfl rfl (by simp [Value.oneCell'])) ?_
  rintro v8 _ rfl
  refine Ops.pure rfl (Pure.assign rfl) ?_
  refine Ops.nil ?_
  refine Run.seq ?_
  refine Run.seq ?_
  refine Run.region ?_
  refine Ops.pure rfl (Pure.move rfl) ?_
  refine Ops.pure rfl (Pure.len sl58 (RdL.old hv) rfl) ?_
  refine Ops.pure rfl (Pure.move rfl) ?_
  refine Ops.nil ?_
  refine Run.block ?_
  refine Run.loop2 (X := Nat) (Y := Value) (fun k vp => [(1, .string sep), (5, vp), (9, v), (10, .int .i64 l.length), (11, .int .i64 k)]) (fun k vp => [.row 9 1 vp k (strs ((l.take k).map decB))]) (fun k vp => k ≤ l.length) (fun k vp => l.length - k) 0 v8 ?_ ?_ ?_ ?_
  · exact Nat.zero_le _
  · exact ⟨rfl, rfl, rfl, rfl, rfl, trivial⟩
  · exact Ext.eq rfl
  · intro k vp hinv0
    have hik := fun (h : k < l.length) => hi _ (mem_getD 0 h)
    refine Run.seq ?_
    refine Run.region ?_
    refine Ops.pure rfl (Pure.lss rfl rfl) ?_
    refine Ops.nil ?_
    refine Run.seq ?_
    refine Run.cond rfl (fun c12 => ?_) (fun c12 => ?_)
    · skip
      replace c12 := dT c12
      refine Run.skip ?_
      refine Run.seq ?_
      refine Run.block ?_
      refine Run.seq ?_
      refine Run.region ?_
      refine Ops.pure rfl (Pure.idx1N sl58 (RdL.old hv) rfl rfl (by first | assumption | omega | (simp; omega))) ?_
      refine Ops.pure rfl (Pure.ld cell2 rfl (RdL.old hv) (by first | exact ints_get (by omega) | exact bools_get (by omega) | exact strs_get (by omega) | exact vals_get (by first | omega | (simp; omega)))) ?_
      refine Ops.pure rfl (Pure.assign rfl) ?_
      refine Ops.nil ?_
      refine Run.region ?_
      refine Ops.pure rfl (Pure.move rfl) ?_
      refine Ops.pure rfl (Pure.move rfl) ?_
      refine Ops.q rfl (QOp.call fn50 rfl (fun w hw => f_i_Decimal w _ (hik (by omega)).1 (hik (by omega)).2)) ?_
      refine Ops.go rfl (Loud.lit sl55 rfl rfl rfl (by simp [Value.oneCell'])) ?_
      rintro v18 _ rfl
      refine Ops.go rfl (Loud.append 1 rfl sl55 rfl rfl (RdL.own 0 rfl) (by simp [Value.oneCell']) (by omega) (by omega)) ?_
      rintro v19 _ rfl
      refine Ops.pure rfl (Pure.assign rfl) ?_
      refine Ops.nil ?_
      refine Run.blk ?_
      refine Run.region ?_
      refine Ops.pure rfl (Pure.add rfl rfl (by omega) (by omega)) ?_
      refine Ops.pure rfl (Pure.move rfl) ?_
      refine Ops.nil ?_
      refine Run.asrt ?_
      refine ⟨k + 1, v19, ⟨by omega, by omega⟩, ⟨rfl, rfl, rfl, rfl, rfl, trivial⟩, Ext.trans (Ext.eq ?_) (Ext.take 1 rfl (Ext.nil _))⟩
      rw [strs_snoc 0 (by omega)]
      try rfl
    · skip
      replace c12 := dF c12
      refine Run.exit rfl ?_
      refine Run.seq ?_
      have e : k = l.length := by omega
      subst e
      rw [List.take_length]
      refine Run.region ?_
      refine Ops.pure rfl (Pure.move rfl) ?_
      refine Ops.pure rfl (Pure.move rfl) ?_
      refine Ops.q rfl (QOp.call fn51 rfl (fun w hw => f_i_joined w _ (l.map decB) _ (by rw [List.length_map]; exact RdL.own 0 rfl w hw) (by rw [List.length_map]; omega) (fun k hk => Nat.le_trans (decs_size hi k hk) (by omega)) hsp)) ?_
      refine Ops.pure rfl (Pure.assign rfl) ?_
      refine Ops.nil ?_
      refine Run.ret1 rfl rfl ?_
      rfl

set_option maxRecDepth 4000 in
/-- impl.CodeText -/
theorem f_i_CodeText (w : World) (v : Value) (ls : List (List Int)) (hs : RdSS w v ls) (hb : ls.length + tot ls ≤ 1073741824) : RetV Try.prog 40 [v] w (.string (codeT ls)) := by
  have hs0 := hs
  obtain ⟨vs, hvl, hv, hr⟩ := hs
  refine Ret.enter Try.func40 rfl Try.ntmps40 rfl ?_
  refine Run.seq ?_
  refine Run.region ?_
  refine Ops.pure rfl (Pure.assign rfl) ?_
  refine Ops.nil ?_
  refine Run.seq ?_
  refine Run.seq ?_
  refine Run.region ?_
  refine Ops.pure rfl (Pure.move rfl) ?_
  refine Ops.q rfl (QOp.call fn28 rfl (fun w hw => f_i_ValidCode w _ _ (by exact RdSS.old (by assumption) hw) (by assumption))) ?_
  refine Ops.pure rfl (Pure.not rfl) ?_
  refine Ops.nil ?_
  refine Run.cond rfl (fun c8 => ?_) (fun c8 => ?_)
  · skip
    replace c8 := bT c8
    refine Run.seq ?_
    refine Run.region ?_
    refine Ops.pure rfl (Pure.assign rfl) ?_
    refine Ops.nil ?_
    refine Run.ret1 rfl rfl ?_
    rw [codeT_bad c8]
    try rfl
  · skip
    replace c8 := bF c8
    refine Run.skip ?_
    refine Run.seq ?_
    refine Run.seq ?_
    refine Run.region ?_
    refine Ops.pure rfl (Pure.move rfl) ?_
    refine Ops.pure rfl (Pure.len sl30 (RdL.old hv) rfl) ?_
    refine Ops.pure rfl (Pure.eql rfl rfl) ?_
    refine Ops.nil ?_
    refine Run.cond rfl (fun c11 => ?_) (fun c11 => ?_)
    · skip
      replace c11 := dT c11
      refine Run.seq ?_
      refine Run.region ?_
      refine Ops.pure rfl (Pure.assign rfl) ?_
      refine Ops.nil ?_
      refine Run.ret1 rfl rfl ?_
      rw [codeT_none c8 c11]
      try rfl
    · skip
      replace c11 := dF c11
      refine Run.skip ?_
      refine Run.seq ?_
      refine Run.region ?_
      refine Ops.go rfl (Loud.lit sl55 rfl rfl rfl (by simp [Value.oneCell'])) ?_
      rintro v12 _ rfl
      refine Ops.pure rfl (Pure.assign rfl) ?_
      refine Ops.nil ?_
      refine Run.seq ?_
      refine Run.seq ?_
      refine Run.region ?_
      refine Ops.pure rfl (Pure.move rfl) ?_
      refine Ops.pure rfl (Pure.len sl30 (RdL.old hv) rfl) ?_
      refine Ops.pure rfl (Pure.move rfl) ?_
      refine Ops.nil ?_
      refine Run.block ?_
      refine Run.loop2 (X := Nat) (Y := Value) (fun k vp => [(3, vp), (13, v), (14, .int .i64 ls.length), (15, .int .i64 k)]) (fun k vp => [.row 9 1 vp k (strs ((ls.take k).map partC))]) (fun k vp => k ≤ ls.length) (fun k vp => ls.length - k) 0 v12 ?_ ?_ ?_ ?_
      · exact Nat.zero_le _
      · exact ⟨rfl, rfl, rfl, rfl, trivial⟩
      · exact Ext.eq rfl
      · intro k vp hinv0
        have hik := fun (h : k < ls.length) => row_bound c8 h
        have hvl2 := validB_len c8
        have hlk := len_le_tot (ls := ls) (k := k)
        refine Run.seq ?_
        refine Run.region ?_
        refine Ops.pure rfl (Pure.lss rfl rfl) ?_
        refine Ops.nil ?_
        refine Run.seq ?_
        refine Run.cond rfl (fun c16 => ?_) (fun c16 => ?_)
        · skip
          replace c16 := dT c16
          refine Run.skip ?_
          refine Run.seq ?_
          refine Run.block ?_
          refine Run.seq ?_
          refine Run.region ?_
          refine Ops.pure rfl (Pure.idx1N sl30 (RdL.old hv) rfl rfl (by first | assumption | omega | (simp; omega))) ?_
          refine Ops.pure rfl (Pure.ld cell58 rfl (RdL.old hv) (by first | exact ints_get (by omega) | exact bools_get (by omega) | exact strs_get (by omega) | exact vals_get (by first | omega | (simp; omega)))) ?_
          refine Ops.pure rfl (Pure.assign rfl) ?_
          refine Ops.nil ?_
          refine Run.seq ?_
          refine Run.region ?_
          refine Ops.pure rfl (Pure.move rfl) ?_
          refine Ops.pure rfl (Pure.len sl58 (RdL.old (hr k (by omega))) rfl) ?_
          refine Ops.pure rfl (Pure.eql rfl rfl) ?_
          refine Ops.nil ?_
          refine Run.cond rfl (fun c21 => ?_) (fun c21 => ?_)
          · skip
            replace c21 := dT c21
            refine Run.region ?_
            refine Ops.pure rfl (Pure.move rfl) ?_
            refine Ops.go rfl (Loud.lit sl55 rfl rfl rfl (by simp [Value.oneCell'])) ?_
            rintro v23 _ rfl
            refine Ops.go rfl (Loud.append 1 rfl sl55 rfl rfl (RdL.own 0 rfl) (by simp [Value.oneCell']) (by omega) (by omega)) ?_
            rintro v24 _ rfl
            refine Ops.pure rfl (Pure.assign rfl) ?_
            refine Ops.nil ?_
            refine Run.blk ?_
            refine Run.region ?_
            refine Ops.pure rfl (Pure.add rfl rfl (by omega) (by omega)) ?_
            refine Ops.pure rfl (Pure.move rfl) ?_
            refine Ops.nil ?_
            refine Run.asrt ?_
            first
              | (refine ⟨k + 1, v24, ⟨by omega, by omega⟩, ⟨rfl, rfl, rfl, rfl, trivial⟩, Ext.trans (Ext.eq ?_) (Ext.take 1 rfl (Ext.nil _))⟩
                 rw [strs_snoc [] (by omega), partC_nil c21]
                 rfl)
              | (refine ⟨k + 1, v29, ⟨by omega, by omega⟩, ⟨rfl, rfl, rfl, rfl, trivial⟩, Ext.trans (Ext.eq ?_) (Ext.take 1 rfl (Ext.nil _))⟩
                 rw [strs_snoc [] (by omega), partC_some c21]
                 rfl)
          · skip
            replace c21 := dF c21
            refine Run.region ?_
            refine Ops.pure rfl (Pure.move rfl) ?_
            refine Ops.pure rfl (Pure.move rfl) ?_
            refine Ops.q rfl (QOp.call fn70 rfl (fun w hw => f_i_decimals w _ (ls.getD k []) _ (RdL.old (hr k (by omega)) w hw) (by omega) (hik (by omega)).1 (by decide))) ?_
            refine Ops.go rfl (Loud.lit sl55 rfl rfl rfl (by simp [Value.oneCell'])) ?_
            rintro v28 _ rfl
            refine Ops.go rfl (Loud.append 1 rfl sl55 rfl rfl (RdL.own 0 rfl) (by simp [Value.oneCell']) (by omega) (by omega)) ?_
            rintro v29 _ rfl
            refine Ops.pure rfl (Pure.assign rfl) ?_
            refine Ops.nil ?_
            refine Run.blk ?_
            refine Run.region ?_
            refine Ops.pure rfl (Pure.add rfl rfl (by omega) (by omega)) ?_
            refine Ops.pure rfl (Pure.move rfl) ?_
            refine Ops.nil ?_
            refine Run.asrt ?_
            first
              | (refine ⟨k + 1, v24, ⟨by omega, by omega⟩, ⟨rfl, rfl, rfl, rfl, trivial⟩, Ext.trans (Ext.eq ?_) (Ext.take 1 rfl (Ext.nil _))⟩
                 rw [strs_snoc [] (by omega), partC_nil c21]
                 rfl)
              | (refine ⟨k + 1, v29, ⟨by omega, by omega⟩, ⟨rfl, rfl, rfl, rfl, trivial⟩, Ext.trans (Ext.eq ?_) (Ext.take 1 rfl (Ext.nil _))⟩
                 rw [strs_snoc [] (by omega), partC_some c21]
                 rfl)
        · skip
          replace c16 := dF c16
          refine Run.exit rfl ?_
          refine Run.seq ?_
          have e : k = ls.length := by omega
          subst e
          rw [List.take_length]
          have hvl3 := validB_len c8
          refine Run.region ?_
          refine Ops.pure rfl (Pure.move rfl) ?_
          refine Ops.q rfl (QOp.call fn51 rfl (fun w hw => f_i_joined w _ (ls.map partC) _ (by rw [List.length_map]; exact RdL.own 0 rfl w hw) (by rw [List.length_map]; omega) (partsC_size c8) (by decide))) ?_
          refine Ops.pure rfl (Pure.assign rfl) ?_
          refine Ops.nil ?_
          refine Run.ret1 rfl rfl ?_
          rw [codeT_some c8 c11]
          try rfl

set_option maxRecDepth 4000 in
/-- spec.l14Text -/
theorem f_s_l14Text (w : World) (v : Value) (ls : List (List Int)) (hs : RdSS w v ls) (hb : ls.length + tot ls ≤ 1073741824) (hvb : validB ls = true) : RetV Try.prog 69 [v] w (.string (codeT ls)) := by
  have hs0 := hs
  obtain ⟨vs, hvl, hv, hr⟩ := hs
  have hvl2 := validB_len hvb
  refine Ret.enter Try.func69 rfl Try.ntmps69 rfl ?_
  refine Run.seq ?_
  refine Run.region ?_
  refine Ops.pure rfl (Pure.assign rfl) ?_
  refine Ops.nil ?_
  refine Run.seq ?_
  refine Run.seq ?_
  refine Run.region ?_
  refine Ops.pure rfl (Pure.move rfl) ?_
  refine Ops.pure rfl (Pure.len sl30 (RdL.old hv) rfl) ?_
  refine Ops.pure rfl (Pure.eql rfl rfl) ?_
  refine Ops.nil ?_
  refine Run.cond rfl (fun c8 => ?_) (fun c8 => ?_)
  · skip
    replace c8 := dT c8
    refine Run.seq ?_
    refine Run.region ?_
    refine Ops.pure rfl (Pure.assign rfl) ?_
    refine Ops.nil ?_
    refine Run.ret1 rfl rfl ?_
    rw [codeT_none hvb c8]
    try rfl
  · skip
    replace c8 := dF c8
    refine Run.skip ?_
    refine Run.seq ?_
    refine Run.region ?_
    refine Ops.pure rfl (Pure.assign rfl) ?_
    refine Ops.nil ?_
    refine Run.seq ?_
    refine Run.seq ?_
    refine Run.region ?_
    refine Ops.pure rfl (Pure.assign rfl) ?_
    refine Ops.nil ?_
    refine Run.block ?_
    refine Run.loop (X := Nat) (fun i => [(0, v), (3, .string (joinTo (strOf [59]) (ls.map partC) i)), (4, .int .i64 i)]) (fun i => []) (fun i => i ≤ ls.length) (fun i => ls.length - i) 0 ?_ ?_ ?_ ?_
    · exact Nat.zero_le _
    · exact ⟨rfl, rfl, rfl, trivial⟩
    · exact Ext.refl _
    · intro i hinv0
      have hlk := len_le_tot (ls := ls) (k := i)
      have hjo := joinTo_size (sep := strOf [59]) (by decide) (partsC_size hvb) i (by rw [List.length_map]; exact hinv0)
      refine Run.seq ?_
      refine Run.seq ?_
      refine Run.region ?_
      refine Ops.pure rfl (Pure.move rfl) ?_
      refine Ops.pure rfl (Pure.move rfl) ?_
      refine Ops.pure rfl (Pure.len sl30 (RdL.old hv) rfl) ?_
      refine Ops.pure rfl (Pure.lss rfl rfl) ?_
      refine Ops.nil ?_
      refine Run.cond rfl (fun c12 => ?_) (fun c12 => ?_)
      · skip
        replace c12 := dT c12
        refine Run.skip ?_
        refine Run.seq ?_
        refine Run.block ?_
        refine Run.seq ?_
        refine Run.seq ?_
        refine Run.region ?_
        refine Ops.pure rfl (Pure.move rfl) ?_
        refine Ops.pure rfl (Pure.gtr rfl rfl) ?_
        refine Ops.nil ?_
        refine Run.cond rfl (fun c16 => ?_) (fun c16 => ?_)
        · skip
          replace c16 := dT c16
          refine Run.region ?_
          refine Ops.pure rfl (Pure.move rfl) ?_
          refine Ops.pure rfl (Pure.cat rfl rfl (by first | omega | (simp only [ByteArray.size_append, sz_lit1]; omega))) ?_
          refine Ops.pure rfl (Pure.assign rfl) ?_
          refine Ops.nil ?_
          refine Run.seq ?_
          refine Run.seq ?_
          refine Run.region ?_
          refine Ops.pure rfl (Pure.move rfl) ?_
          refine Ops.pure rfl (Pure.move rfl) ?_
          refine Ops.pure rfl (Pure.idx1N sl30 (RdL.old hv) rfl rfl (by first | assumption | omega | (simp; omega))) ?_
          refine Ops.pure rfl (Pure.ld cell58 rfl (RdL.old hv) (by first | exact ints_get (by omega) | exact bools_get (by omega) | exact strs_get (by omega) | exact vals_get (by first | omega | (simp; omega)))) ?_
          refine Ops.pure rfl (Pure.len sl58 (RdL.old (hr i (by omega))) rfl) ?_
          refine Ops.pure rfl (Pure.eql rfl rfl) ?_
          refine Ops.nil ?_
          refine Run.cond rfl (fun c24 => ?_) (fun c24 => ?_)
          · skip
            replace c24 := dT c24
            refine Run.region ?_
            refine Ops.pure rfl (Pure.move rfl) ?_
            refine Ops.pure rfl (Pure.cat rfl rfl (by first | omega | (simp only [ByteArray.size_append, sz_lit1]; omega))) ?_
            refine Ops.pure rfl (Pure.assign rfl) ?_
            refine Ops.nil ?_
            refine Run.seq ?_
            refine Run.region ?_
            refine Ops.pure rfl (Pure.assign rfl) ?_
            refine Ops.nil ?_
            refine Run.block ?_
            refine Run.loop (X := Nat) (fun k => [(0, v), (3, .string (baseT (joinTo (strOf [59]) (ls.map partC) i) i (ls.getD i []) ++ joinTo (strOf [32]) ((ls.getD i []).map decB) k)), (4, .int .i64 i), (5, .int .i64 k)]) (fun k => []) (fun k => k ≤ (ls.getD i []).length) (fun k => (ls.getD i []).length - k) 0 ?_ ?_ ?_ ?_
            · exact Nat.zero_le _
            · first
                | exact ⟨rfl, congrArg (fun x => some (Value.string x)) (baseT_1 c16 c24), rfl, rfl, trivial⟩
                | exact ⟨rfl, congrArg (fun x => some (Value.string x)) (baseT_2 c16 c24), rfl, rfl, trivial⟩
                | exact ⟨rfl, congrArg (fun x => some (Value.string x)) (baseT_3 c16 c24), rfl, rfl, trivial⟩
                | exact ⟨rfl, congrArg (fun x => some (Value.string x)) (baseT_4 c16 c24), rfl, rfl, trivial⟩
            · exact Ext.refl _
            · intro k hinv1
              have hbs := baseT_size (joinTo (strOf [59]) (ls.map partC) i) i (ls.getD i [])
              have hrb := row_bound hvb (i := i) (by omega)
              have hjd := joinD_size hrb.1 k hinv1
              have hgd := getD_mapB (f := decB) (l := ls.getD i []) (k := k) 0
              have hdz := fun (h : k < (ls.getD i []).length) => decs_size hrb.1 k (by rw [List.length_map]; exact h)
              have hvv := fun (h : k < (ls.getD i []).length) => validB_bound' hvb (i := i) (j := k) (by omega) h
              have hdd := fun (h : k < (ls.getD i []).length) => decB_size (hvv h).1 (hvv h).2
              refine Run.seq ?_
              refine Run.seq ?_
              refine Run.region ?_
              refine Ops.pure rfl (Pure.move rfl) ?_
              refine Ops.pure rfl (Pure.move rfl) ?_
              refine Ops.pure rfl (Pure.move rfl) ?_
              refine Ops.pure rfl (Pure.idx1N sl30 (RdL.old hv) rfl rfl (by first | assumption | omega | (simp; omega))) ?_
              refine Ops.pure rfl (Pure.ld cell58 rfl (RdL.old hv) (by first | exact ints_get (by omega) | exact bools_get (by omega) | exact strs_get (by omega) | exact vals_get (by first | omega | (simp; omega)))) ?_
              refine Ops.pure rfl (Pure.len sl58 (RdL.old (hr i (by omega))) rfl) ?_
              refine Ops.pure rfl (Pure.lss rfl rfl) ?_
              refine Ops.nil ?_
              refine Run.cond rfl (fun c33 => ?_) (fun c33 => ?_)
              · skip
                replace c33 := dT c33
                refine Run.skip ?_
                refine Run.seq ?_
                refine Run.block ?_
                refine Run.seq ?_
                refine Run.seq ?_
                refine Run.region ?_
                refine Ops.pure rfl (Pure.move rfl) ?_
                refine Ops.pure rfl (Pure.gtr rfl rfl) ?_
                refine Ops.nil ?_
                refine Run.cond rfl (fun c37 => ?_) (fun c37 => ?_)
                · skip
                  replace c37 := dT c37
                  refine Run.region ?_
                  refine Ops.pure rfl (Pure.move rfl) ?_
                  refine Ops.pure rfl (Pure.cat rfl rfl (by first | omega | (simp only [ByteArray.size_append, sz_lit1]; omega))) ?_
                  refine Ops.pure rfl (Pure.assign rfl) ?_
                  refine Ops.nil ?_
                  refine Run.region ?_
                  refine Ops.pure rfl (Pure.move rfl) ?_
                  refine Ops.pure rfl (Pure.move rfl) ?_
                  refine Ops.pure rfl (Pure.move rfl) ?_
                  refine Ops.pure rfl (Pure.idx1N sl30 (RdL.old hv) rfl rfl (by first | assumption | omega | (simp; omega))) ?_
                  refine Ops.pure rfl (Pure.ld cell58 rfl (RdL.old hv) (by first | exact ints_get (by omega) | exact bools_get (by omega) | exact strs_get (by omega) | exact vals_get (by first | omega | (simp; omega)))) ?_
                  refine Ops.pure rfl (Pure.move rfl) ?_
                  refine Ops.pure rfl (Pure.idx1N sl58 (RdL.old (hr i (by omega))) rfl rfl (by first | assumption | omega | (simp; omega))) ?_
                  refine Ops.pure rfl (Pure.ld cell2 rfl (RdL.old (hr i (by omega))) (by first | exact ints_get (by omega) | exact bools_get (by omega) | exact strs_get (by omega) | exact vals_get (by first | omega | (simp; omega)))) ?_
                  refine Ops.q rfl (QOp.call fn49 rfl (fun w hw => f_s_l01Dec w _ (hvv (by omega)).1 (hvv (by omega)).2)) ?_
                  refine Ops.pure rfl (Pure.cat rfl rfl (by first | omega | (simp only [ByteArray.size_append, sz_lit1]; omega))) ?_
                  refine Ops.pure rfl (Pure.assign rfl) ?_
                  refine Ops.nil ?_
                  refine Run.blk ?_
                  refine Run.region ?_
                  refine Ops.pure rfl (Pure.move rfl) ?_
                  refine Ops.pure rfl (Pure.add rfl rfl (by omega) (by omega)) ?_
                  refine Ops.pure rfl (Pure.assign rfl) ?_
                  refine Ops.nil ?_
                  refine Run.asrt ?_
                  refine ⟨k + 1, ⟨by omega, by omega⟩, ⟨rfl, ?_, rfl, rfl, trivial⟩, Ext.nil _⟩
                  first
                    | (rw [joinTo_next c37, hgd (by omega), ← ByteArray.append_assoc, ← ByteArray.append_assoc]; rfl)
                    | (rw [joinTo_first c37, hgd (by omega), ← ByteArray.append_assoc]; rfl)
                · skip
                  replace c37 := dF c37
                  refine Run.skip ?_
                  refine Run.region ?_
                  refine Ops.pure rfl (Pure.move rfl) ?_
                  refine Ops.pure rfl (Pure.move rfl) ?_
                  refine Ops.pure rfl (Pure.move rfl) ?_
                  refine Ops.pure rfl (Pure.idx1N sl30 (RdL.old hv) rfl rfl (by first | assumption | omega | (simp; omega))) ?_
                  refine Ops.pure rfl (Pure.ld cell58 rfl (RdL.old hv) (by first | exact ints_get (by omega) | exact bools_get (by omega) | exact strs_get (by omega) | exact vals_get (by first | omega | (simp; omega)))) ?_
                  refine Ops.pure rfl (Pure.move rfl) ?_
                  refine Ops.pure rfl (Pure.idx1N sl58 (RdL.old (hr i (by omega))) rfl rfl (by first | assumption | omega | (simp; omega))) ?_
                  refine Ops.pure rfl (Pure.ld cell2 rfl (RdL.old (hr i (by omega))) (by first | exact ints_get (by omega) | exact bools_get (by omega) | exact strs_get (by omega) | exact vals_get (by first | omega | (simp; omega)))) ?_
                  refine Ops.q rfl (QOp.call fn49 rfl (fun w hw => f_s_l01Dec w _ (hvv (by omega)).1 (hvv (by omega)).2)) ?_
                  refine Ops.pure rfl (Pure.cat rfl rfl (by first | omega | (simp only [ByteArray.size_append, sz_lit1]; omega))) ?_
                  refine Ops.pure rfl (Pure.assign rfl) ?_
                  refine Ops.nil ?_
                  refine Run.blk ?_
                  refine Run.region ?_
                  refine Ops.pure rfl (Pure.move rfl) ?_
                  refine Ops.pure rfl (Pure.add rfl rfl (by omega) (by omega)) ?_
                  refine Ops.pure rfl (Pure.assign rfl) ?_
                  refine Ops.nil ?_
                  refine Run.asrt ?_
                  refine ⟨k + 1, ⟨by omega, by omega⟩, ⟨rfl, ?_, rfl, rfl, trivial⟩, Ext.nil _⟩
                  first
                    | (rw [joinTo_next c37, hgd (by omega), ← ByteArray.append_assoc, ← ByteArray.append_assoc]; rfl)
                    | (rw [joinTo_first c37, hgd (by omega), ← ByteArray.append_assoc]; rfl)
              · skip
                replace c33 := dF c33
                refine Run.exit rfl ?_
                refine Run.blk ?_
                refine Run.region ?_
                refine Ops.pure rfl (Pure.move rfl) ?_
                refine Ops.pure rfl (Pure.add rfl rfl (by omega) (by omega)) ?_
                refine Ops.pure rfl (Pure.assign rfl) ?_
                refine Ops.nil ?_
                refine Run.asrt ?_
                exact ⟨i + 1, ⟨by omega, by omega⟩, ⟨rfl, congrArg (fun x => some (Value.string x)) (baseT_done (by omega) (by omega)), rfl, trivial⟩, Ext.nil _⟩
          · skip
            replace c24 := dF c24
            refine Run.skip ?_
            refine Run.seq ?_
            refine Run.region ?_
            refine Ops.pure rfl (Pure.assign rfl) ?_
            refine Ops.nil ?_
            refine Run.block ?_
            refine Run.loop (X := Nat) (fun k => [(0, v), (3, .string (baseT (joinTo (strOf [59]) (ls.map partC) i) i (ls.getD i []) ++ joinTo (strOf [32]) ((ls.getD i []).map decB) k)), (4, .int .i64 i), (5, .int .i64 k)]) (fun k => []) (fun k => k ≤ (ls.getD i []).length) (fun k => (ls.getD i []).length - k) 0 ?_ ?_ ?_ ?_
            · exact Nat.zero_le _
            · first
                | exact ⟨rfl, congrArg (fun x => some (Value.string x)) (baseT_1 c16 c24), rfl, rfl, trivial⟩
                | exact ⟨rfl, congrArg (fun x => some (Value.string x)) (baseT_2 c16 c24), rfl, rfl, trivial⟩
                | exact ⟨rfl, congrArg (fun x => some (Value.string x)) (baseT_3 c16 c24), rfl, rfl, trivial⟩
                | exact ⟨rfl, congrArg (fun x => some (Value.string x)) (baseT_4 c16 c24), rfl, rfl, trivial⟩
            · exact Ext.refl _
            · intro k hinv1
              have hbs := baseT_size (joinTo (strOf [59]) (ls.map partC) i) i (ls.getD i [])
              have hrb := row_bound hvb (i := i) (by omega)
              have hjd := joinD_size hrb.1 k hinv1
              have hgd := getD_mapB (f := decB) (l := ls.getD i []) (k := k) 0
              have hdz := fun (h : k < (ls.getD i []).length) => decs_size hrb.1 k (by rw [List.length_map]; exact h)
              have hvv := fun (h : k < (ls.getD i []).length) => validB_bound' hvb (i := i) (j := k) (by omega) h
              have hdd := fun (h : k < (ls.getD i []).length) => decB_size (hvv h).1 (hvv h).2
              refine Run.seq ?_
              refine Run.seq ?_
              refine Run.region ?_
              refine Ops.pure rfl (Pure.move rfl) ?_
              refine Ops.pure rfl (Pure.move rfl) ?_
              refine Ops.pure rfl (Pure.move rfl) ?_
              refine Ops.pure rfl (Pure.idx1N sl30 (RdL.old hv) rfl rfl (by first | assumption | omega | (simp; omega))) ?_
              refine Ops.pure rfl (Pure.ld cell58 rfl (RdL.old hv) (by first | exact ints_get (by omega) | exact bools_get (by omega) | exact strs_get (by omega) | exact vals_get (by first | omega | (simp; omega)))) ?_
              refine Ops.pure rfl (Pure.len sl58 (RdL.old (hr i (by omega))) rfl) ?_
              refine Ops.pure rfl (Pure.lss rfl rfl) ?_
              refine Ops.nil ?_
              refine Run.cond rfl (fun c33 => ?_) (fun c33 => ?_)
              · skip
                replace c33 := dT c33
                refine Run.skip ?_
                refine Run.seq ?_
                refine Run.block ?_
                refine Run.seq ?_
                refine Run.seq ?_
                refine Run.region ?_
                refine Ops.pure rfl (Pure.move rfl) ?_
                refine Ops.pure rfl (Pure.gtr rfl rfl) ?_
                refine Ops.nil ?_
                refine Run.cond rfl (fun c37 => ?_) (fun c37 => ?_)
                · skip
                  replace c37 := dT c37
                  refine Run.region ?_
                  refine Ops.pure rfl (Pure.move rfl) ?_
                  refine Ops.pure rfl (Pure.cat rfl rfl (by first | omega | (simp only [ByteArray.size_append, sz_lit1]; omega))) ?_
                  refine Ops.pure rfl (Pure.assign rfl) ?_
                  refine Ops.nil ?_
                  refine Run.region ?_
                  refine Ops.pure rfl (Pure.move rfl) ?_
                  refine Ops.pure rfl (Pure.move rfl) ?_
                  refine Ops.pure rfl (Pure.move rfl) ?_
                  refine Ops.pure rfl (Pure.idx1N sl30 (RdL.old hv) rfl rfl (by first | assumption | omega | (simp; omega))) ?_
                  refine Ops.pure rfl (Pure.ld cell58 rfl (RdL.old hv) (by first | exact ints_get (by omega) | exact bools_get (by omega) | exact strs_get (by omega) | exact vals_get (by first | omega | (simp; omega)))) ?_
                  refine Ops.pure rfl (Pure.move rfl) ?_
                  refine Ops.pure rfl (Pure.idx1N sl58 (RdL.old (hr i (by omega))) rfl rfl (by first | assumption | omega | (simp; omega))) ?_
                  refine Ops.pure rfl (Pure.ld cell2 rfl (RdL.old (hr i (by omega))) (by first | exact ints_get (by omega) | exact bools_get (by omega) | exact strs_get (by omega) | exact vals_get (by first | omega | (simp; omega)))) ?_
                  refine Ops.q rfl (QOp.call fn49 rfl (fun w hw => f_s_l01Dec w _ (hvv (by omega)).1 (hvv (by omega)).2)) ?_
                  refine Ops.pure rfl (Pure.cat rfl rfl (by first | omega | (simp only [ByteArray.size_append, sz_lit1]; omega))) ?_
                  refine Ops.pure rfl (Pure.assign rfl) ?_
                  refine Ops.nil ?_
                  refine Run.blk ?_
                  refine Run.region ?_
                  refine Ops.pure rfl (Pure.move rfl) ?_
                  refine Ops.pure rfl (Pure.add rfl rfl (by omega) (by omega)) ?_
                  refine Ops.pure rfl (Pure.assign rfl) ?_
                  refine Ops.nil ?_
                  refine Run.asrt ?_
                  refine ⟨k + 1, ⟨by omega, by omega⟩, ⟨rfl, ?_, rfl, rfl, trivial⟩, Ext.nil _⟩
                  first
                    | (rw [joinTo_next c37, hgd (by omega), ← ByteArray.append_assoc, ← ByteArray.append_assoc]; rfl)
                    | (rw [joinTo_first c37, hgd (by omega), ← ByteArray.append_assoc]; rfl)
                · skip
                  replace c37 := dF c37
                  refine Run.skip ?_
                  refine Run.region ?_
                  refine Ops.pure rfl (Pure.move rfl) ?_
                  refine Ops.pure rfl (Pure.move rfl) ?_
                  refine Ops.pure rfl (Pure.move rfl) ?_
                  refine Ops.pure rfl (Pure.idx1N sl30 (RdL.old hv) rfl rfl (by first | assumption | omega | (simp; omega))) ?_
                  refine Ops.pure rfl (Pure.ld cell58 rfl (RdL.old hv) (by first | exact ints_get (by omega) | exact bools_get (by omega) | exact strs_get (by omega) | exact vals_get (by first | omega | (simp; omega)))) ?_
                  refine Ops.pure rfl (Pure.move rfl) ?_
                  refine Ops.pure rfl (Pure.idx1N sl58 (RdL.old (hr i (by omega))) rfl rfl (by first | assumption | omega | (simp; omega))) ?_
                  refine Ops.pure rfl (Pure.ld cell2 rfl (RdL.old (hr i (by omega))) (by first | exact ints_get (by omega) | exact bools_get (by omega) | exact strs_get (by omega) | exact vals_get (by first | omega | (simp; omega)))) ?_
                  refine Ops.q rfl (QOp.call fn49 rfl (fun w hw => f_s_l01Dec w _ (hvv (by omega)).1 (hvv (by omega)).2)) ?_
                  refine Ops.pure rfl (Pure.cat rfl rfl (by first | omega | (simp only [ByteArray.size_append, sz_lit1]; omega))) ?_
                  refine Ops.pure rfl (Pure.assign rfl) ?_
                  refine Ops.nil ?_
                  refine Run.blk ?_
                  refine Run.region ?_
                  refine Ops.pure rfl (Pure.move rfl) ?_
                  refine Ops.pure rfl (Pure.add rfl rfl (by omega) (by omega)) ?_
                  refine Ops.pure rfl (Pure.assign rfl) ?_
                  refine Ops.nil ?_
                  refine Run.asrt ?_
                  refine ⟨k + 1, ⟨by omega, by omega⟩, ⟨rfl, ?_, rfl, rfl, trivial⟩, Ext.nil _⟩
                  first
                    | (rw [joinTo_next c37, hgd (by omega), ← ByteArray.append_assoc, ← ByteArray.append_assoc]; rfl)
                    | (rw [joinTo_first c37, hgd (by omega), ← ByteArray.append_assoc]; rfl)
              · skip
                replace c33 := dF c33
                refine Run.exit rfl ?_
                refine Run.blk ?_
                refine Run.region ?_
                refine Ops.pure rfl (Pure.move rfl) ?_
                refine Ops.pure rfl (Pure.add rfl rfl (by omega) (by omega)) ?_
                refine Ops.pure rfl (Pure.assign rfl) ?_
                refine Ops.nil ?_
                refine Run.asrt ?_
                exact ⟨i + 1, ⟨by omega, by omega⟩, ⟨rfl, congrArg (fun x => some (Value.string x)) (baseT_done (by omega) (by omega)), rfl, trivial⟩, Ext.nil _⟩
        · skip
          replace c16 := dF c16
          refine Run.skip ?_
          refine Run.seq ?_
          refine Run.seq ?_
          refine Run.region ?_
          refine Ops.pure rfl (Pure.move rfl) ?_
          refine Ops.pure rfl (Pure.move rfl) ?_
          refine Ops.pure rfl (Pure.idx1N sl30 (RdL.old hv) rfl rfl (by first | assumption | omega | (simp; omega))) ?_
          refine Ops.pure rfl (Pure.ld cell58 rfl (RdL.old hv) (by first | exact ints_get (by omega) | exact bools_get (by omega) | exact strs_get (by omega) | exact vals_get (by first | omega | (simp; omega)))) ?_
          refine Ops.pure rfl (Pure.len sl58 (RdL.old (hr i (by omega))) rfl) ?_
          refine Ops.pure rfl (Pure.eql rfl rfl) ?_
          refine Ops.nil ?_
          refine Run.cond rfl (fun c24 => ?_) (fun c24 => ?_)
          · skip
            replace c24 := dT c24
            refine Run.region ?_
            refine Ops.pure rfl (Pure.move rfl) ?_
            refine Ops.pure rfl (Pure.cat rfl rfl (by first | omega | (simp only [ByteArray.size_append, sz_lit1]; omega))) ?_
            refine Ops.pure rfl (Pure.assign rfl) ?_
            refine Ops.nil ?_
            refine Run.seq ?_
            refine Run.region ?_
            refine Ops.pure rfl (Pure.assign rfl) ?_
            refine Ops.nil ?_
            refine Run.block ?_
            refine Run.loop (X := Nat) (fun k => [(0, v), (3, .string (baseT (joinTo (strOf [59]) (ls.map partC) i) i (ls.getD i []) ++ joinTo (strOf [32]) ((ls.getD i []).map decB) k)), (4, .int .i64 i), (5, .int .i64 k)]) (fun k => []) (fun k => k ≤ (ls.getD i []).length) (fun k => (ls.getD i []).length - k) 0 ?_ ?_ ?_ ?_
            · exact Nat.zero_le _
            · first
                | exact ⟨rfl, congrArg (fun x => some (Value.string x)) (baseT_1 c16 c24), rfl, rfl, trivial⟩
                | exact ⟨rfl, congrArg (fun x => some (Value.string x)) (baseT_2 c16 c24), rfl, rfl, trivial⟩
                | exact ⟨rfl, congrArg (fun x => some (Value.string x)) (baseT_3 c16 c24), rfl, rfl, trivial⟩
                | exact ⟨rfl, congrArg (fun x => some (Value.string x)) (baseT_4 c16 c24), rfl, rfl, trivial⟩
            · exact Ext.refl _
            · intro k hinv1
              have hbs := baseT_size (joinTo (strOf [59]) (ls.map partC) i) i (ls.getD i [])
              have hrb := row_bound hvb (i := i) (by omega)
              have hjd := joinD_size hrb.1 k hinv1
              have hgd := getD_mapB (f := decB) (l := ls.getD i []) (k := k) 0
              have hdz := fun (h : k < (ls.getD i []).length) => decs_size hrb.1 k (by rw [List.length_map]; exact h)
              have hvv := fun (h : k < (ls.getD i []).length) => validB_bound' hvb (i := i) (j := k) (by omega) h
              have hdd := fun (h : k < (ls.getD i []).length) => decB_size (hvv h).1 (hvv h).2
              refine Run.seq ?_
              refine Run.seq ?_
              refine Run.region ?_
              refine Ops.pure rfl (Pure.move rfl) ?_
              refine Ops.pure rfl (Pure.move rfl) ?_
              refine Ops.pure rfl (Pure.move rfl) ?_
              refine Ops.pure rfl (Pure.idx1N sl30 (RdL.old hv) rfl rfl (by first | assumption | omega | (simp; omega))) ?_
              refine Ops.pure rfl (Pure.ld cell58 rfl (RdL.old hv) (by first | exact ints_get (by omega) | exact bools_get (by omega) | exact strs_get (by omega) | exact vals_get (by first | omega | (simp; omega)))) ?_
              refine Ops.pure rfl (Pure.len sl58 (RdL.old (hr i (by omega))) rfl) ?_
              refine Ops.pure rfl (Pure.lss rfl rfl) ?_
              refine Ops.nil ?_
              refine Run.cond rfl (fun c33 => ?_) (fun c33 => ?_)
              · skip
                replace c33 := dT c33
                refine Run.skip ?_
                refine Run.seq ?_
                refine Run.block ?_
                refine Run.seq ?_
                refine Run.seq ?_
                refine Run.region ?_
                refine Ops.pure rfl (Pure.move rfl) ?_
                refine Ops.pure rfl (Pure.gtr rfl rfl) ?_
                refine Ops.nil ?_
                refine Run.cond rfl (fun c37 => ?_) (fun c37 => ?_)
                · skip
                  replace c37 := dT c37
                  refine Run.region ?_
                  refine Ops.pure rfl (Pure.move rfl) ?_
                  refine Ops.pure rfl (Pure.cat rfl rfl (by first | omega | (simp only [ByteArray.size_append, sz_lit1]; omega))) ?_
                  refine Ops.pure rfl (Pure.assign rfl) ?_
                  refine Ops.nil ?_
                  refine Run.region ?_
                  refine Ops.pure rfl (Pure.move rfl) ?_
                  refine Ops.pure rfl (Pure.move rfl) ?_
                  refine Ops.pure rfl (Pure.move rfl) ?_
                  refine Ops.pure rfl (Pure.idx1N sl30 (RdL.old hv) rfl rfl (by first | assumption | omega | (simp; omega))) ?_
                  refine Ops.pure rfl (Pure.ld cell58 rfl (RdL.old hv) (by first | exact ints_get (by omega) | exact bools_get (by omega) | exact strs_get (by omega) | exact vals_get (by first | omega | (simp; omega)))) ?_
                  refine Ops.pure rfl (Pure.move rfl) ?_
                  refine Ops.pure rfl (Pure.idx1N sl58 (RdL.old (hr i (by omega))) rfl rfl (by first | assumption | omega | (simp; omega))) ?_
                  refine Ops.pure rfl (Pure.ld cell2 rfl (RdL.old (hr i (by omega))) (by first | exact ints_get (by omega) | exact bools_get (by omega) | exact strs_get (by omega) | exact vals_get (by first | omega | (simp; omega)))) ?_
                  refine Ops.q rfl (QOp.call fn49 rfl (fun w hw => f_s_l01Dec w _ (hvv (by omega)).1 (hvv (by omega)).2)) ?_
                  refine Ops.pure rfl (Pure.cat rfl rfl (by first | omega | (simp only [ByteArray.size_append, sz_lit1]; omega))) ?_
                  refine Ops.pure rfl (Pure.assign rfl) ?_
                  refine Ops.nil ?_
                  refine Run.blk ?_
                  refine Run.region ?_
                  refine Ops.pure rfl (Pure.move rfl) ?_
                  refine Ops.pure rfl (Pure.add rfl rfl (by omega) (by omega)) ?_
                  refine Ops.pure rfl (Pure.assign rfl) ?_
                  refine Ops.nil ?_
                  refine Run.asrt ?_
                  refine ⟨k + 1, ⟨by omega, by omega⟩, ⟨rfl, ?_, rfl, rfl, trivial⟩, Ext.nil _⟩
                  first
                    | (rw [joinTo_next c37, hgd (by omega), ← ByteArray.append_assoc, ← ByteArray.append_assoc]; rfl)
                    | (rw [joinTo_first c37, hgd (by omega), ← ByteArray.append_assoc]; rfl)
                · skip
                  replace c37 := dF c37
                  refine Run.skip ?_
                  refine Run.region ?_
                  refine Ops.pure rfl (Pure.move rfl) ?_
                  refine Ops.pure rfl (Pure.move rfl) ?_
                  refine Ops.pure rfl (Pure.move rfl) ?_
                  refine Ops.pure rfl (Pure.idx1N sl30 (RdL.old hv) rfl rfl (by first | assumption | omega | (simp; omega))) ?_
                  refine Ops.pure rfl (Pure.ld cell58 rfl (RdL.old hv) (by first | exact ints_get (by omega) | exact bools_get (by omega) | exact strs_get (by omega) | exact vals_get (by first | omega | (simp; omega)))) ?_
                  refine Ops.pure rfl (Pure.move rfl) ?_
                  refine Ops.pure rfl (Pure.idx1N sl58 (RdL.old (hr i (by omega))) rfl rfl (by first | assumption | omega | (simp; omega))) ?_
                  refine Ops.pure rfl (Pure.ld cell2 rfl (RdL.old (hr i (by omega))) (by first | exact ints_get (by omega) | exact bools_get (by omega) | exact strs_get (by omega) | exact vals_get (by first | omega | (simp; omega)))) ?_
                  refine Ops.q rfl (QOp.call fn49 rfl (fun w hw => f_s_l01Dec w _ (hvv (by omega)).1 (hvv (by omega)).2)) ?_
                  refine Ops.pure rfl (Pure.cat rfl rfl (by first | omega | (simp only [ByteArray.size_append, sz_lit1]; omega))) ?_
                  refine Ops.pure rfl (Pure.assign rfl) ?_
                  refine Ops.nil ?_
                  refine Run.blk ?_
                  refine Run.region ?_
                  refine Ops.pure rfl (Pure.move rfl) ?_
                  refine Ops.pure rfl (Pure.add rfl rfl (by omega) (by omega)) ?_
                  refine Ops.pure rfl (Pure.assign rfl) ?_
                  refine Ops.nil ?_
                  refine Run.asrt ?_
                  refine ⟨k + 1, ⟨by omega, by omega⟩, ⟨rfl, ?_, rfl, rfl, trivial⟩, Ext.nil _⟩
                  first
                    | (rw [joinTo_next c37, hgd (by omega), ← ByteArray.append_assoc, ← ByteArray.append_assoc]; rfl)
                    | (rw [joinTo_first c37, hgd (by omega), ← ByteArray.append_assoc]; rfl)
              · skip
                replace c33 := dF c33
                refine Run.exit rfl ?_
                refine Run.blk ?_
                refine Run.region ?_
                refine Ops.pure rfl (Pure.move rfl) ?_
                refine Ops.pure rfl (Pure.add rfl rfl (by omega) (by omega)) ?_
                refine Ops.pure rfl (Pure.assign rfl) ?_
                refine Ops.nil ?_
                refine Run.asrt ?_
                exact ⟨i + 1, ⟨by omega, by omega⟩, ⟨rfl, congrArg (fun x => some (Value.string x)) (baseT_done (by omega) (by omega)), rfl, trivial⟩, Ext.nil _⟩
          · skip
            replace c24 := dF c24
            refine Run.skip ?_
            refine Run.seq ?_
            refine Run.region ?_
            refine Ops.pure rfl (Pure.assign rfl) ?_
            refine Ops.nil ?_
            refine Run.block ?_
            refine Run.loop (X := Nat) (fun k => [(0, v), (3, .string (baseT (joinTo (strOf [59]) (ls.map partC) i) i (ls.getD i []) ++ joinTo (strOf [32]) ((ls.getD i []).map decB) k)), (4, .int .i64 i), (5, .int .i64 k)]) (fun k => []) (fun k => k ≤ (ls.getD i []).length) (fun k => (ls.getD i []).length - k) 0 ?_ ?_ ?_ ?_
            · exact Nat.zero_le _
            · first
                | exact ⟨rfl, congrArg (fun x => some (Value.string x)) (baseT_1 c16 c24), rfl, rfl, trivial⟩
                | exact ⟨rfl, congrArg (fun x => some (Value.string x)) (baseT_2 c16 c24), rfl, rfl, trivial⟩
                | exact ⟨rfl, congrArg (fun x => some (Value.string x)) (baseT_3 c16 c24), rfl, rfl, trivial⟩
                | exact ⟨rfl, congrArg (fun x => some (Value.string x)) (baseT_4 c16 c24), rfl, rfl, trivial⟩
            · exact Ext.refl _
            · intro k hinv1
              have hbs := baseT_size (joinTo (strOf [59]) (ls.map partC) i) i (ls.getD i [])
              have hrb := row_bound hvb (i := i) (by omega)
              have hjd := joinD_size hrb.1 k hinv1
              have hgd := getD_mapB (f := decB) (l := ls.getD i []) (k := k) 0
              have hdz := fun (h : k < (ls.getD i []).length) => decs_size hrb.1 k (by rw [List.length_map]; exact h)
              have hvv := fun (h : k < (ls.getD i []).length) => validB_bound' hvb (i := i) (j := k) (by omega) h
              have hdd := fun (h : k < (ls.getD i []).length) => decB_size (hvv h).1 (hvv h).2
              refine Run.seq ?_
              refine Run.seq ?_
              refine Run.region ?_
              refine Ops.pure rfl (Pure.move rfl) ?_
              refine Ops.pure rfl (Pure.move rfl) ?_
              refine Ops.pure rfl (Pure.move rfl) ?_
              refine Ops.pure rfl (Pure.idx1N sl30 (RdL.old hv) rfl rfl (by first | assumption | omega | (simp; omega))) ?_
              refine Ops.pure rfl (Pure.ld cell58 rfl (RdL.old hv) (by first | exact ints_get (by omega) | exact bools_get (by omega) | exact strs_get (by omega) | exact vals_get (by first | omega | (simp; omega)))) ?_
              refine Ops.pure rfl (Pure.len sl58 (RdL.old (hr i (by omega))) rfl) ?_
              refine Ops.pure rfl (Pure.lss rfl rfl) ?_
              refine Ops.nil ?_
              refine Run.cond rfl (fun c33 => ?_) (fun c33 => ?_)
              · skip
                replace c33 := dT c33
                refine Run.skip ?_
                refine Run.seq ?_
                refine Run.block ?_
                refine Run.seq ?_
                refine Run.seq ?_
                refine Run.region ?_
                refine Ops.pure rfl (Pure.move rfl) ?_
                refine Ops.pure rfl (Pure.gtr rfl rfl) ?_
                refine Ops.nil ?_
                refine Run.cond rfl (fun c37 => ?_) (fun c37 => ?_)
                · skip
                  replace c37 := dT c37
                  refine Run.region ?_
                  refine Ops.pure rfl (Pure.move rfl) ?_
                  refine Ops.pure rfl (Pure.cat rfl rfl (by first | omega | (simp only [ByteArray.size_append, sz_lit1]; omega))) ?_
                  refine Ops.pure rfl (Pure.assign rfl) ?_
                  refine Ops.nil ?_
                  refine Run.region ?_
                  refine Ops.pure rfl (Pure.move rfl) ?_
                  refine Ops.pure rfl (Pure.move rfl) ?_
                  refine Ops.pure rfl (Pure.move rfl) ?_
                  refine Ops.pure rfl (Pure.idx1N sl30 (RdL.old hv) rfl rfl (by first | assumption | omega | (simp; omega))) ?_
                  refine Ops.pure rfl (Pure.ld cell58 rfl (RdL.old hv) (by first | exact ints_get (by omega) | exact bools_get (by omega) | exact strs_get (by omega) | exact vals_get (by first | omega | (simp; omega)))) ?_
                  refine Ops.pure rfl (Pure.move rfl) ?_
                  refine Ops.pure rfl (Pure.idx1N sl58 (RdL.old (hr i (by omega))) rfl rfl (by first | assumption | omega | (simp; omega))) ?_
                  refine Ops.pure rfl (Pure.ld cell2 rfl (RdL.old (hr i (by omega))) (by first | exact ints_get (by omega) | exact bools_get (by omega) | exact strs_get (by omega) | exact vals_get (by first | omega | (simp; omega)))) ?_
                  refine Ops.q rfl (QOp.call fn49 rfl (fun w hw => f_s_l01Dec w _ (hvv (by omega)).1 (hvv (by omega)).2)) ?_
                  refine Ops.pure rfl (Pure.cat rfl rfl (by first | omega | (simp only [ByteArray.size_append, sz_lit1]; omega))) ?_
                  refine Ops.pure rfl (Pure.assign rfl) ?_
                  refine Ops.nil ?_
                  refine Run.blk ?_
                  refine Run.region ?_
                  refine Ops.pure rfl (Pure.move rfl) ?_
                  refine Ops.pure rfl (Pure.add rfl rfl (by omega) (by omega)) ?_
                  refine Ops.pure rfl (Pure.assign rfl) ?_
                  refine Ops.nil ?_
                  refine Run.asrt ?_
                  refine ⟨k + 1, ⟨by omega, by omega⟩, ⟨rfl, ?_, rfl, rfl, trivial⟩, Ext.nil _⟩
                  first
                    | (rw [joinTo_next c37, hgd (by omega), ← ByteArray.append_assoc, ← ByteArray.append_assoc]; rfl)
                    | (rw [joinTo_first c37, hgd (by omega), ← ByteArray.append_assoc]; rfl)
                · skip
                  replace c37 := dF c37
                  refine Run.skip ?_
                  refine Run.region ?_
                  refine Ops.pure rfl (Pure.move rfl) ?_
                  refine Ops.pure rfl (Pure.move rfl) ?_
                  refine Ops.pure rfl (Pure.move rfl) ?_
                  refine Ops.pure rfl (Pure.idx1N sl30 (RdL.old hv) rfl rfl (by first | assumption | omega | (simp; omega))) ?_
                  refine Ops.pure rfl (Pure.ld cell58 rfl (RdL.old hv) (by first | exact ints_get (by omega) | exact bools_get (by omega) | exact strs_get (by omega) | exact vals_get (by first | omega | (simp; omega)))) ?_
                  refine Ops.pure rfl (Pure.move rfl) ?_
                  refine Ops.pure rfl (Pure.idx1N sl58 (RdL.old (hr i (by omega))) rfl rfl (by first | assumption | omega | (simp; omega))) ?_
                  refine Ops.pure rfl (Pure.ld cell2 rfl (RdL.old (hr i (by omega))) (by first | exact ints_get (by omega) | exact bools_get (by omega) | exact strs_get (by omega) | exact vals_get (by first | omega | (simp; omega)))) ?_
                  refine Ops.q rfl (QOp.call fn49 rfl (fun w hw => f_s_l01Dec w _ (hvv (by omega)).1 (hvv (by omega)).2)) ?_
                  refine Ops.pure rfl (Pure.cat rfl rfl (by first | omega | (simp only [ByteArray.size_append, sz_lit1]; omega))) ?_
                  refine Ops.pure rfl (Pure.assign rfl) ?_
                  refine Ops.nil ?_
                  refine Run.blk ?_
                  refine Run.region ?_
                  refine Ops.pure rfl (Pure.move rfl) ?_
                  refine Ops.pure rfl (Pure.add rfl rfl (by omega) (by omega)) ?_
                  refine Ops.pure rfl (Pure.assign rfl) ?_
                  refine Ops.nil ?_
                  refine Run.asrt ?_
                  refine ⟨k + 1, ⟨by omega, by omega⟩, ⟨rfl, ?_, rfl, rfl, trivial⟩, Ext.nil _⟩
                  first
                    | (rw [joinTo_next c37, hgd (by omega), ← ByteArray.append_assoc, ← ByteArray.append_assoc]; rfl)
                    | (rw [joinTo_first c37, hgd (by omega), ← ByteArray.append_assoc]; rfl)
              · skip
                replace c33 := dF c33
                refine Run.exit rfl ?_
                refine Run.blk ?_
                refine Run.region ?_
                refine Ops.pure rfl (Pure.move rfl) ?_
                refine Ops.pure rfl (Pure.add rfl rfl (by omega) (by omega)) ?_
                refine Ops.pure rfl (Pure.assign rfl) ?_
                refine Ops.nil ?_
                refine Run.asrt ?_
                exact ⟨i + 1, ⟨by omega, by omega⟩, ⟨rfl, congrArg (fun x => some (Value.string x)) (baseT_done (by omega) (by omega)), rfl, trivial⟩, Ext.nil _⟩
      · skip
        replace c12 := dF c12
        refine Run.exit rfl ?_
        refine Run.seq ?_
        refine Run.region ?_
        refine Ops.pure rfl (Pure.move rfl) ?_
        refine Ops.pure rfl (Pure.assign rfl) ?_
        refine Ops.nil ?_
        refine Run.ret1 rfl rfl ?_
        have e : i = ls.length := by omega
        subst e
        rw [codeT_some hvb c8]
        unfold joinAll
        rw [List.length_map]

set_option maxRecDepth 4000 in
/-- spec.CodeText -/
theorem f_s_CodeText (w : World) (v : Value) (ls : List (List Int)) (hs : RdSS w v ls) (hb : ls.length + tot ls ≤ 1073741824) : RetV Try.prog 39 [v] w (.string (codeT ls)) := by
  refine Ret.enter Try.func39 rfl Try.ntmps39 rfl ?_
  refine Run.seq ?_
  refine Run.region ?_
  refine Ops.pure rfl (Pure.assign rfl) ?_
  refine Ops.nil ?_
  refine Run.seq ?_
  refine Run.seq ?_
  refine Run.region ?_
  refine Ops.pure rfl (Pure.move rfl) ?_
  refine Ops.q rfl (QOp.call fn58 rfl (fun w hw => f_s_l14Ok w _ _ (by exact RdSS.old (by assumption) hw) (by assumption))) ?_
  refine Ops.pure rfl (Pure.not rfl) ?_
  refine Ops.nil ?_
  refine Run.cond rfl (fun c5 => ?_) (fun c5 => ?_)
  · skip
    replace c5 := bT c5
    refine Run.seq ?_
    refine Run.region ?_
    refine Ops.pure rfl (Pure.assign rfl) ?_
    refine Ops.nil ?_
    refine Run.ret1 rfl rfl ?_
    rw [codeT_bad c5]
    try rfl
  · skip
    replace c5 := bF c5
    refine Run.skip ?_
    refine Run.seq ?_
    refine Run.region ?_
    refine Ops.pure rfl (Pure.move rfl) ?_
    refine Ops.q rfl (QOp.call fn69 rfl (fun w hw => f_s_l14Text w _ _ (by exact RdSS.old (by assumption) hw) (by assumption) (by assumption))) ?_
    refine Ops.pure rfl (Pure.assign rfl) ?_
    refine Ops.nil ?_
    refine Run.ret1 rfl rfl ?_
    rfl

set_option maxRecDepth 4000 in
/-- laws.FnExactCodeText -/
theorem f_l_FnExactCodeText (w : World) (vls : Value) (ls : List (List Int)) (hsls : RdSS w vls ls) (hals : ls.length ≤ 9223372036854775807) (hbls : ∀ i, i < ls.length → (ls.getD i []).length ≤ 9223372036854775807) : RetV Try.prog 11 [vls] w (.bool true) := by
  refine Ret.enter Try.func11 rfl Try.ntmps11 rfl ?_
  refine Run.seq ?_
  refine Run.region ?_
  refine Ops.pure rfl (Pure.assign rfl) ?_
  refine Ops.nil ?_
  refine Run.seq ?_
  refine Run.region ?_
  refine Ops.pure rfl (Pure.assign rfl) ?_
  refine Ops.nil ?_
  refine Run.seq ?_
  refine Run.region ?_
  refine Ops.pure rfl (Pure.move rfl) ?_
  refine Ops.pure rfl (Pure.move rfl) ?_
  refine Ops.q rfl (QOp.call fn22 rfl (fun w hw => f_l_szInt64SS w _ _ _ (by exact RdSS.old (by assumption) hw) (by omega) (by omega) (by assumption) (by assumption))) ?_
  refine Ops.pure rfl (Pure.assign rfl) ?_
  refine Ops.nil ?_
  refine Run.seq ?_
  refine Run.seq ?_
  by_cases hz0 : ((ls.length + tot ls : Nat) : Int) ≤ 1048576
  · skip
    rw [if_pos hz0]
    refine Run.region ?_
    refine Ops.pure rfl (Pure.move rfl) ?_
    refine Ops.pure rfl (Pure.lss rfl rfl) ?_
    refine Ops.nil ?_
    refine Run.condEF rfl (decide_eq_false (by omega)) ?_
    refine Run.skip ?_
    refine Run.seq ?_
    refine Run.region ?_
    refine Ops.pure rfl (Pure.move rfl) ?_
    refine Ops.go rfl (Loud.callR fn24 rfl (fun w hw => f_l_toInt64SS w _ _ (by exact RdSS.old (by assumption) hw) (by omega))) ?_
    rintro v13 _ ⟨L13, hQ13, rfl⟩
    obtain ⟨us13, hul13, rfl⟩ := hQ13
    refine Ops.q rfl (QOp.call fn39 rfl (fun w hw => f_s_CodeText w _ _ (by exact RdSS.o0 hw (by first | assumption | (rw [length_markSS]; assumption))) (by omega))) ?_
    refine Ops.pure rfl (Pure.assign rfl) ?_
    refine Ops.nil ?_
    refine Run.seq ?_
    refine Run.region ?_
    refine Ops.pure rfl (Pure.move rfl) ?_
    refine Ops.go rfl (Loud.callR fn24 rfl (fun w hw => f_l_toInt64SS w _ _ (by exact RdSS.old (by assumption) hw) (by omega))) ?_
    rintro v16 _ ⟨L16, hQ16, rfl⟩
    obtain ⟨us16, hul16, rfl⟩ := hQ16
    refine Ops.pure rfl (Pure.assign rfl) ?_
    refine Ops.nil ?_
    refine Run.seq ?_
    refine Run.region ?_
    refine Ops.pure rfl (Pure.move rfl) ?_
    refine Ops.q rfl (QOp.call fn40 rfl (fun w hw => f_i_CodeText w _ _ (by exact RdSS.o0 hw (by first | assumption | (rw [length_markSS]; assumption))) (by omega))) ?_
    refine Ops.pure rfl (Pure.assign rfl) ?_
    refine Ops.nil ?_
    refine Run.seq ?_
    refine Run.seq ?_
    refine Run.region ?_
    refine Ops.pure rfl (Pure.move rfl) ?_
    refine Ops.pure rfl (Pure.move rfl) ?_
    refine Ops.pure rfl (Pure.neqS rfl rfl) ?_
    refine Ops.nil ?_
    refine Run.condEF rfl (by simp) ?_
    refine Run.skip ?_
    refine Run.seq ?_
    refine Run.seq ?_
    refine Run.region ?_
    refine Ops.pure rfl (Pure.move rfl) ?_
    refine Ops.pure rfl (Pure.move rfl) ?_
    refine Ops.go rfl (Loud.callR fn24 rfl (fun w hw => f_l_toInt64SS w _ _ (by exact RdSS.old (by assumption) hw) (by omega))) ?_
    rintro v24 _ ⟨L24, hQ24, rfl⟩
    obtain ⟨us24, hul24, rfl⟩ := hQ24
    refine Ops.q rfl (QOp.call fn26 rfl (fun w hw => f_l_eqInt64SS w _ _ _ _ (by exact RdSS.o1 hw (by first | assumption | (rw [length_markSS]; assumption))) (by exact RdSS.o0 hw (by first | assumption | (rw [length_markSS]; assumption))) (by omega) (by omega))) ?_
    refine Ops.pure rfl (Pure.not rfl) ?_
    refine Ops.nil ?_
    refine Run.condEF rfl (by simp) ?_
    refine Run.skip ?_
    refine Run.seq ?_
    refine Run.region ?_
    refine Ops.pure rfl (Pure.assign rfl) ?_
    refine Ops.nil ?_
    refine Run.ret1 rfl rfl ?_
    rfl
  · skip
    rw [if_neg hz0]
    refine Run.region ?_
    refine Ops.pure rfl (Pure.move rfl) ?_
    refine Ops.pure rfl (Pure.lss rfl rfl) ?_
    refine Ops.nil ?_
    refine Run.condE rfl (decide_eq_true (by omega)) ?_
    refine Run.seq ?_
    refine Run.region ?_
    refine Ops.pure rfl (Pure.assign rfl) ?_
    refine Ops.nil ?_
    refine Run.ret1 rfl rfl ?_
    rfl

end Go.Proofs.Ytpldgghkhknpnaa
