/- Contracts of functions, printed by program from annotations. -/
import Derived.Test.YtmfinopdokkjcaaMeet
import Derived.Test.YtmfinopdokkjcaaEff
namespace Go.Proofs.Ytmfinopdokkjcaa
open Go Go.AW Go.RowKit
set_option linter.unusedVariables false
set_option linter.unusedSimpArgs false

/-- the error of a call that takes a panel and curves of it -/
def cvE (a b : Int) (l cs : List Int) : Int := if okP a b l = true then (if ∀ c ∈ cs, 0 ≤ c ∧ c ≤ (cnt a b l : Int) - 1 then 0 else 2) else 1
theorem cvE_bad {a b : Int} {l cs : List Int} (h : okP a b l = false) : cvE a b l cs = 1 := by unfold cvE; rw [if_neg (by rw [h]; decide)]
theorem cvE_out {a b : Int} {l cs : List Int} {k : Nat} (h : okP a b l = true) (hk : k < cs.length) (hx : ¬ (0 ≤ cs.getD k 0 ∧ cs.getD k 0 ≤ (cnt a b l : Int) - 1)) : cvE a b l cs = 2 := by
  unfold cvE
  rw [if_pos h, if_neg]
  intro hh
  exact hx (hh _ (mem_of_getD hk rfl))
theorem cvE_ok {a b : Int} {l cs : List Int} {k : Nat} (h : okP a b l = true) (hk : ¬ k < cs.length) (hx : ∀ j, j < k → 0 ≤ cs.getD j 0 ∧ cs.getD j 0 ≤ (cnt a b l : Int) - 1) : cvE a b l cs = 0 := by
  unfold cvE
  rw [if_pos h, if_pos]
  intro x hm
  obtain ⟨j, hj, rfl⟩ := List.mem_iff_getElem.1 hm
  have := hx j (by omega)
  simpa [List.getD, List.getElem?_eq_getElem hj] using this
theorem ccE_eq (a b : Int) (l cs : List Int) : ccE a b l cs = cvE a b l cs := by
  cases hk : okP a b l with
  | false => rw [cc_bad hk, cvE_bad hk]
  | true =>
    unfold ccE cvE
    rw [if_pos hk, if_pos hk]
    by_cases h : ∀ c ∈ cs, 0 ≤ c ∧ c ≤ (cnt a b l : Int) - 1
    · rw [if_pos h, if_pos (fun k hk2 => h _ (mem_of_getD hk2 rfl))]
    · rw [if_neg h, if_neg]
      intro hh
      apply h
      intro c hc
      obtain ⟨j, hj, rfl⟩ := List.mem_iff_getElem.1 hc
      have := hh j hj
      simpa [List.getD, List.getElem?_eq_getElem hj] using this
theorem cvE_one {a b c : Int} {l : List Int} (h : okP a b l = true) : cvE a b l [c] = if 0 ≤ c ∧ c ≤ (cnt a b l : Int) - 1 then 0 else 2 := by
  unfold cvE
  rw [if_pos h]
  simp
theorem cvE_in {a b : Int} {l cs : List Int} (h : cvE a b l cs = 0) : okP a b l = true := by
  unfold cvE at h
  split at h
  · assumption
  · omega
theorem cvE_two {a b c d : Int} {l : List Int} : cvE a b l [c, d] = if cvE a b l [c] = 0 then cvE a b l [d] else cvE a b l [c] := by
  cases hk : okP a b l with
  | false => rw [cvE_bad hk, cvE_bad hk, cvE_bad hk]; rfl
  | true =>
    rw [cvE_one hk, cvE_one hk]
    unfold cvE
    rw [if_pos hk]
    simp only [List.mem_cons, List.not_mem_nil, or_false, forall_eq_or_imp, forall_eq]
    by_cases h1 : 0 ≤ c ∧ c ≤ (cnt a b l : Int) - 1
    · rw [if_pos h1, if_pos rfl]
      by_cases h2 : 0 ≤ d ∧ d ≤ (cnt a b l : Int) - 1
      · rw [if_pos h2, if_pos ⟨h1, h2⟩]
      · rw [if_neg h2, if_neg (fun h => h2 h.2)]
    · rw [if_neg h1, if_neg (show ¬ (2 : Int) = 0 by decide), if_neg (fun h => h1 h.1)]
def ofL (a b : Int) (l : List Int) (c : Int) : List Int := if cvE a b l [c] = 0 then ownL a b l else []
theorem ofL_no {a b c : Int} {l : List Int} (h : ¬ cvE a b l [c] = 0) : ofL a b l c = [] := by unfold ofL; rw [if_neg h]
theorem ofL_yes {a b c : Int} {l : List Int} (h : cvE a b l [c] = 0) : ofL a b l c = ownL a b l := by unfold ofL; rw [if_pos h]
theorem msL_two (a b : Int) (l : List Int) (c : Int) (n : Nat) : msL a b l [c, c] n = msL a b l [c] n := by
  unfold msL
  congr 1
  refine List.filter_congr (fun k _ => ?_)
  unfold allM
  simp
def cpL (a b : Int) (l : List Int) (c : Int) : List Int := if cvE a b l [c] = 0 then msL a b l [c] (inn a b) else []
theorem cp_no {a b c : Int} {l : List Int} (h : ¬ cvE a b l [c] = 0) : cpL a b l c = [] := by unfold cpL; rw [if_neg h]
theorem cp_yes {a b c : Int} {l : List Int} (h : cvE a b l [c] = 0) : cpL a b l c = msL a b l [c] (inn a b) := by unfold cpL; rw [if_pos h]
def shE (a b : Int) (l : List Int) (c d : Int) : Int := if cvE a b l [c, d] = 0 then (if c = d then 6 else 0) else cvE a b l [c, d]
def shL (a b : Int) (l : List Int) (c d : Int) : List Int := if shE a b l c d = 0 then msL a b l [c, d] (inn a b) else []
theorem sh_bad {a b c d : Int} {l : List Int} (h : ¬ cvE a b l [c, d] = 0) : shE a b l c d = cvE a b l [c, d] ∧ shL a b l c d = [] := by
  have h1 : shE a b l c d = cvE a b l [c, d] := by unfold shE; rw [if_neg h]
  exact ⟨h1, by unfold shL; rw [h1, if_neg h]⟩
theorem sh_same {a b c d : Int} {l : List Int} (h : cvE a b l [c, d] = 0) (he : c = d) : shE a b l c d = 6 ∧ shL a b l c d = [] := by
  have h1 : shE a b l c d = 6 := by unfold shE; rw [if_pos h, if_pos he]
  exact ⟨h1, by unfold shL; rw [h1]; rfl⟩
theorem sh_ok {a b c d : Int} {l : List Int} (h : cvE a b l [c, d] = 0) (he : ¬ c = d) : shE a b l c d = 0 ∧ shL a b l c d = msL a b l [c, d] (inn a b) := by
  have h1 : shE a b l c d = 0 := by unfold shE; rw [if_pos h, if_neg he]
  exact ⟨h1, by unfold shL; rw [h1]; rfl⟩
/-- the distance of two panels, and its error -/
def dsE (a b : Int) (l : List Int) (a' b' : Int) (l' : List Int) : Int := if okP a b l = true ∧ okP a' b' l' = true then (if a = a' ∧ b = b' then 0 else 6) else 1
def dsN (a b : Int) (l : List Int) (a' b' : Int) (l' : List Int) : Int := if dsE a b l a' b' l' = 0 then (difN l l' l.length : Int) else 0
theorem ds_bad {a b a' b' : Int} {l l' : List Int} (h : ¬ (okP a b l = true ∧ okP a' b' l' = true)) : dsE a b l a' b' l' = 1 ∧ dsN a b l a' b' l' = 0 := by
  have h1 : dsE a b l a' b' l' = 1 := by unfold dsE; rw [if_neg h]
  exact ⟨h1, by unfold dsN; rw [h1]; rfl⟩
theorem ds_size {a b a' b' : Int} {l l' : List Int} (h : okP a b l = true ∧ okP a' b' l' = true) (hs : ¬ (a = a' ∧ b = b')) : dsE a b l a' b' l' = 6 ∧ dsN a b l a' b' l' = 0 := by
  have h1 : dsE a b l a' b' l' = 6 := by unfold dsE; rw [if_pos h, if_neg hs]
  exact ⟨h1, by unfold dsN; rw [h1]; rfl⟩
theorem ds_ok {a b a' b' : Int} {l l' : List Int} (h : okP a b l = true ∧ okP a' b' l' = true) (hs : a = a' ∧ b = b') : dsE a b l a' b' l' = 0 ∧ dsN a b l a' b' l' = (difN l l' l.length : Int) := by
  have h1 : dsE a b l a' b' l' = 0 := by unfold dsE; rw [if_pos h, if_pos hs]
  exact ⟨h1, by unfold dsN; rw [h1]; rfl⟩

set_option maxRecDepth 4000 in
/-- spec.l04Code -/
theorem f_s_l04Code (w : World) (p : Nat) (a : Int) (b : Int) (v : Value) (l : List Int) (c : Int) (hp : Rd w (boxS p) 3 1 [.int .i64 a, .int .i64 b, v]) (hv : Rd w v 1 l.length (ints l)) (hl : l.length ≤ 1073741824) (a0 : -9223372036854775808 ≤ a) (a1 : a ≤ 9223372036854775807) (b0 : -9223372036854775808 ≤ b) (b1 : b ≤ 9223372036854775807) (c0 : -9223372036854775808 ≤ c) (c1 : c ≤ 9223372036854775807) : Ret Try.prog 134 [.pointer (some ⟨p, 0, none⟩), .int .i64 c] w (fun u L => ∃ x, u = .tuple #[x, .int .i64 (cvE a b l [c])] ∧ L = [.row 2 1 x (ofL a b l c).length (ints (ofL a b l c))]) := by
  refine Ret.enter Try.func134 rfl Try.ntmps134 rfl ?_
  refine Run.seq ?_
  refine Run.region ?_
  refine Ops.pure rfl (Pure.assign rfl) ?_
  refine Ops.pure rfl (Pure.assign rfl) ?_
  refine Ops.nil ?_
  refine Run.seq ?_
  refine Run.seq ?_
  refine Run.region ?_
  refine Ops.pure rfl (Pure.move rfl) ?_
  refine Ops.q rfl (QOp.call fn99 rfl (fun w hw => f_s_l02Ok w _ _ _ _ _ (by exact RdL.old (by assumption) w hw) (by exact RdL.old (by assumption) w hw) (by assumption) (by assumption) (by assumption) (by assumption) (by assumption))) ?_
  refine Ops.pure rfl (Pure.not rfl) ?_
  refine Ops.nil ?_
  refine Run.cond rfl (fun c10 => ?_) (fun c10 => ?_)
  · skip
    replace c10 := bT c10
    refine Run.seq ?_
    refine Run.region ?_
    refine Ops.pure rfl (Pure.assign rfl) ?_
    refine Ops.pure rfl (Pure.assign rfl) ?_
    refine Ops.nil ?_
    refine Run.addNil 2 1 ?_
    refine Run.ext_ (Ext.take 0 rfl (Ext.nil _)) ?_
    refine Run.ret2 rfl rfl rfl ?_
    have h1 := cvE_bad (cs := [c]) c10
    rw [ofL_no (by omega), h1]
    exact ⟨_, rfl, rfl⟩
  · skip
    replace c10 := bF c10
    have hs := okP_size c10
    have hcn := cnt_le (l := l) hs
    have hon := length_ownL (l := l) hs
    refine Run.skip ?_
    refine Run.seq ?_
    refine Run.region ?_
    refine Ops.pure rfl (Pure.move rfl) ?_
    refine Ops.go rfl (Loud.callR fn191 rfl (fun w hw => f_s_l04All w p a b v l (RdL.old hp w hw) (RdL.old hv w hw) c10)) ?_
    rintro v13 _ ⟨L13, hQ13, rfl⟩
    obtain ⟨x13, y13, us13, rfl, rfl⟩ := hQ13
    refine Ops.pure rfl (Pure.move rfl) ?_
    refine Ops.pure rfl (Pure.extract rfl rfl) ?_
    refine Ops.pure rfl (Pure.extract rfl rfl) ?_
    refine Ops.pure rfl (Pure.assign rfl) ?_
    refine Ops.pure rfl (Pure.assign rfl) ?_
    refine Ops.nil ?_
    refine Run.seq ?_
    refine Run.seq ?_
    refine Run.region ?_
    refine Ops.pure rfl (Pure.move rfl) ?_
    refine Ops.pure rfl (Pure.move rfl) ?_
    refine Ops.pure rfl (Pure.len sl190 (RdL.own 1 rfl) rfl) ?_
    refine Ops.pure rfl (Pure.sub rfl rfl (by omega) (by omega)) ?_
    refine Ops.q rfl (QOp.call fn119 rfl (fun w hw => f_s_l00In w _ _ _)) ?_
    refine Ops.pure rfl (Pure.not rfl) ?_
    refine Ops.nil ?_
    refine Run.cond rfl (fun c21 => ?_) (fun c21 => ?_)
    · skip
      replace c21 := nT c21
      refine Run.seq ?_
      refine Run.region ?_
      refine Ops.pure rfl (Pure.assign rfl) ?_
      refine Ops.pure rfl (Pure.assign rfl) ?_
      refine Ops.nil ?_
      refine Run.addNil 2 1 ?_
      refine Run.ext_ (Ext.take 0 rfl (Ext.nil _)) ?_
      refine Run.ret2 rfl rfl rfl ?_
      have h1 : cvE a b l [c] = 2 := by rw [cvE_one c10, if_neg c21]
      rw [ofL_no (by omega), h1]
      exact ⟨_, rfl, rfl⟩
    · skip
      replace c21 := nF c21
      refine Run.skip ?_
      refine Run.seq ?_
      refine Run.region ?_
      refine Ops.pure rfl (Pure.move rfl) ?_
      refine Ops.pure rfl (Pure.assign rfl) ?_
      refine Ops.pure rfl (Pure.assign rfl) ?_
      refine Ops.nil ?_
      refine Run.ext_ (Ext.take 0 rfl (Ext.nil _)) ?_
      refine Run.ret2 rfl rfl rfl ?_
      have h1 : cvE a b l [c] = 0 := by rw [cvE_one c10, if_pos c21]
      rw [ofL_yes h1, h1, hon]
      exact ⟨_, rfl, rfl⟩

set_option maxRecDepth 4000 in
/-- impl.CurvePoints -/
theorem f_i_CurvePoints (w : World) (a : Int) (b : Int) (v : Value) (l : List Int) (c : Int) (hv : Rd w v 1 l.length (ints l)) (hl : l.length ≤ 1073741824) (a0 : -9223372036854775808 ≤ a) (a1 : a ≤ 9223372036854775807) (b0 : -9223372036854775808 ≤ b) (b1 : b ≤ 9223372036854775807) (c0 : -9223372036854775808 ≤ c) (c1 : c ≤ 9223372036854775807) : Ret Try.prog 61 [.agg #[.int .i64 a, .int .i64 b, v], .int .i64 c] w (retI (cpL a b l c) (cvE a b l [c])) := by
  refine Ret.enter Try.func61 rfl Try.ntmps61 rfl ?_
  refine Run.seq ?_
  refine Run.region ?_
  refine Ops.go rfl (Loud.box rfl rfl) ?_
  rintro _ _ ⟨b2, rfl, rfl⟩
  refine Ops.pure rfl (Pure.assign rfl) ?_
  refine Ops.pure rfl (Pure.assign rfl) ?_
  refine Ops.nil ?_
  refine Run.seq ?_
  refine Run.seq ?_
  refine Run.region ?_
  refine Ops.pure rfl (Pure.ldBA 0 rfl cell35 rfl rfl rfl) ?_
  refine Ops.pure rfl (Pure.move rfl) ?_
  refine Ops.go rfl (Loud.lit sl32 rfl rfl rfl (by simp [Value.oneCell'])) ?_
  rintro v9 _ rfl
  refine Ops.q rfl (QOp.call fn132 rfl (fun w hw => (f_i_curveCode w a b v l _ [c] (RdL.old hv w hw) hl (by omega) (by omega) (by omega) (by omega) (RdL.own 0 rfl w hw) (show 1 ≤ 1048576 by decide)).cong (by rw [ccE_eq]))) ?_
  refine Ops.pure rfl (Pure.assign rfl) ?_
  refine Ops.nil ?_
  refine Run.seq ?_
  refine Run.region ?_
  refine Ops.pure rfl (Pure.move rfl) ?_
  refine Ops.pure rfl (Pure.neq rfl rfl) ?_
  refine Ops.nil ?_
  refine Run.cond rfl (fun c12 => ?_) (fun c12 => ?_)
  · skip
    replace c12 := nT c12
    refine Run.seq ?_
    refine Run.region ?_
    refine Ops.pure rfl (Pure.move rfl) ?_
    refine Ops.pure rfl (Pure.assign rfl) ?_
    refine Ops.pure rfl (Pure.assign rfl) ?_
    refine Ops.nil ?_
    refine Run.addNil 2 1 ?_
    refine Run.ext_ (Ext.take 0 rfl (Ext.nil _)) ?_
    refine Run.ret2 rfl rfl rfl ?_
    rw [cp_no c12]
    exact retI_nil rfl
  · skip
    replace c12 := nF c12
    have hk := cvE_in c12
    refine Run.skip ?_
    refine Run.seq ?_
    refine Run.region ?_
    refine Ops.pure rfl (Pure.ldBA 1 rfl cell35 rfl rfl rfl) ?_
    refine Ops.pure rfl (Pure.move rfl) ?_
    refine Ops.go rfl (Loud.lit sl32 rfl rfl rfl (by simp [Value.oneCell'])) ?_
    rintro v16 _ rfl
    refine Ops.go rfl (Loud.callR fn133 rfl (fun w hw => f_i_Panel_meeting w a b v l _ [c] (RdL.old hv w hw) hk (RdL.own 0 rfl w hw) (show 1 ≤ 1000 by decide))) ?_
    rintro v17 _ ⟨L17, hQ17, rfl⟩
    subst hQ17
    refine Ops.pure rfl (Pure.assign rfl) ?_
    refine Ops.pure rfl (Pure.assign rfl) ?_
    refine Ops.nil ?_
    refine Run.ext_ (Ext.take 0 rfl (Ext.nil _)) ?_
    refine Run.ret2 rfl rfl rfl ?_
    rw [cp_yes c12, c12]
    exact ⟨_, rfl, rfl⟩

set_option maxRecDepth 4000 in
/-- spec.CurvePoints -/
theorem f_s_CurvePoints (w : World) (a : Int) (b : Int) (v : Value) (l : List Int) (c : Int) (hv : Rd w v 1 l.length (ints l)) (hl : l.length ≤ 1073741824) (a0 : -9223372036854775808 ≤ a) (a1 : a ≤ 9223372036854775807) (b0 : -9223372036854775808 ≤ b) (b1 : b ≤ 9223372036854775807) (c0 : -9223372036854775808 ≤ c) (c1 : c ≤ 9223372036854775807) : Ret Try.prog 62 [.agg #[.int .i64 a, .int .i64 b, v], .int .i64 c] w (retI (cpL a b l c) (cvE a b l [c])) := by
  refine Ret.enter Try.func62 rfl Try.ntmps62 rfl ?_
  refine Run.seq ?_
  refine Run.region ?_
  refine Ops.go rfl (Loud.box rfl rfl) ?_
  rintro _ _ ⟨b2, rfl, rfl⟩
  refine Ops.pure rfl (Pure.assign rfl) ?_
  refine Ops.pure rfl (Pure.assign rfl) ?_
  refine Ops.nil ?_
  refine Run.seq ?_
  refine Run.region ?_
  refine Ops.pure rfl (Pure.move rfl) ?_
  refine Ops.go rfl (Loud.callR fn134 rfl (fun w hw => f_s_l04Code w _ a b v l c (RdL.boxM 0 rfl rfl w hw) (RdL.old hv w hw) hl (by omega) (by omega) (by omega) (by omega) (by omega) (by omega))) ?_
  rintro v10 _ ⟨L10, hQ10, rfl⟩
  obtain ⟨x10, rfl, rfl⟩ := hQ10
  refine Ops.pure rfl (Pure.move rfl) ?_
  refine Ops.pure rfl (Pure.extract rfl rfl) ?_
  refine Ops.pure rfl (Pure.extract rfl rfl) ?_
  refine Ops.pure rfl (Pure.assign rfl) ?_
  refine Ops.pure rfl (Pure.assign rfl) ?_
  refine Ops.nil ?_
  refine Run.seq ?_
  refine Run.seq ?_
  refine Run.region ?_
  refine Ops.pure rfl (Pure.move rfl) ?_
  refine Ops.pure rfl (Pure.neq rfl rfl) ?_
  refine Ops.nil ?_
  refine Run.cond rfl (fun c14 => ?_) (fun c14 => ?_)
  · skip
    replace c14 := nT c14
    refine Run.seq ?_
    refine Run.region ?_
    refine Ops.pure rfl (Pure.move rfl) ?_
    refine Ops.pure rfl (Pure.assign rfl) ?_
    refine Ops.pure rfl (Pure.assign rfl) ?_
    refine Ops.nil ?_
    refine Run.addNil 2 1 ?_
    refine Run.ext_ (Ext.take 0 rfl (Ext.nil _)) ?_
    refine Run.ret2 rfl rfl rfl ?_
    rw [cp_no c14]
    exact retI_nil rfl
  · skip
    replace c14 := nF c14
    have hk := cvE_in c14
    have hon := length_ownL (l := l) (okP_size hk)
    have hli := okP_inn hk
    rw [ofL_yes c14]
    refine Run.skip ?_
    refine Run.seq ?_
    refine Run.region ?_
    refine Ops.pure rfl (Pure.move rfl) ?_
    refine Ops.pure rfl (Pure.move rfl) ?_
    refine Ops.pure rfl (Pure.move rfl) ?_
    refine Ops.go rfl (Loud.callR fn135 rfl (fun w hw => f_s_l10Meet w _ a b v l _ c c (RdL.boxM 1 rfl rfl w hw) (RdL.old hv w hw) hk (hon ▸ RdL.own 0 rfl w hw))) ?_
    rintro v19 _ ⟨L19, hQ19, rfl⟩
    subst hQ19
    refine Ops.pure rfl (Pure.assign rfl) ?_
    refine Ops.pure rfl (Pure.assign rfl) ?_
    refine Ops.nil ?_
    refine Run.ext_ (Ext.take 0 rfl (Ext.nil _)) ?_
    refine Run.ret2 rfl rfl rfl ?_
    rw [cp_yes c14, c14, msL_two, hli]
    exact ⟨_, rfl, rfl⟩

set_option maxRecDepth 4000 in
/-- impl.SharedPoints -/
theorem f_i_SharedPoints (w : World) (a : Int) (b : Int) (v : Value) (l : List Int) (c : Int) (d : Int) (hv : Rd w v 1 l.length (ints l)) (hl : l.length ≤ 1073741824) (a0 : -9223372036854775808 ≤ a) (a1 : a ≤ 9223372036854775807) (b0 : -9223372036854775808 ≤ b) (b1 : b ≤ 9223372036854775807) (c0 : -9223372036854775808 ≤ c) (c1 : c ≤ 9223372036854775807) (d0 : -9223372036854775808 ≤ d) (d1 : d ≤ 9223372036854775807) : Ret Try.prog 58 [.agg #[.int .i64 a, .int .i64 b, v], .int .i64 c, .int .i64 d] w (retI (shL a b l c d) (shE a b l c d)) := by
  refine Ret.enter Try.func58 rfl Try.ntmps58 rfl ?_
  refine Run.seq ?_
  refine Run.region ?_
  refine Ops.go rfl (Loud.box rfl rfl) ?_
  rintro _ _ ⟨b3, rfl, rfl⟩
  refine Ops.pure rfl (Pure.assign rfl) ?_
  refine Ops.pure rfl (Pure.assign rfl) ?_
  refine Ops.nil ?_
  refine Run.seq ?_
  refine Run.seq ?_
  refine Run.region ?_
  refine Ops.pure rfl (Pure.ldBA 0 rfl cell35 rfl rfl rfl) ?_
  refine Ops.pure rfl (Pure.move rfl) ?_
  refine Ops.pure rfl (Pure.move rfl) ?_
  refine Ops.go rfl (Loud.lit sl32 rfl rfl rfl (by simp [Value.oneCell'])) ?_
  rintro v12 _ rfl
  refine Ops.q rfl (QOp.call fn132 rfl (fun w hw => (f_i_curveCode w a b v l _ [c, d] (RdL.old hv w hw) hl (by omega) (by omega) (by omega) (by omega) (RdL.own 0 rfl w hw) (show 2 ≤ 1048576 by decide)).cong (by rw [ccE_eq]))) ?_
  refine Ops.pure rfl (Pure.assign rfl) ?_
  refine Ops.nil ?_
  refine Run.seq ?_
  refine Run.region ?_
  refine Ops.pure rfl (Pure.move rfl) ?_
  refine Ops.pure rfl (Pure.neq rfl rfl) ?_
  refine Ops.nil ?_
  refine Run.cond rfl (fun c15 => ?_) (fun c15 => ?_)
  · skip
    replace c15 := nT c15
    refine Run.seq ?_
    refine Run.region ?_
    refine Ops.pure rfl (Pure.move rfl) ?_
    refine Ops.pure rfl (Pure.assign rfl) ?_
    refine Ops.pure rfl (Pure.assign rfl) ?_
    refine Ops.nil ?_
    refine Run.addNil 2 1 ?_
    refine Run.ext_ (Ext.take 0 rfl (Ext.nil _)) ?_
    refine Run.ret2 rfl rfl rfl ?_
    rw [(sh_bad c15).1, (sh_bad c15).2]
    exact retI_nil rfl
  · skip
    replace c15 := nF c15
    have hk := cvE_in c15
    refine Run.skip ?_
    refine Run.seq ?_
    refine Run.seq ?_
    refine Run.region ?_
    refine Ops.pure rfl (Pure.move rfl) ?_
    refine Ops.pure rfl (Pure.move rfl) ?_
    refine Ops.pure rfl (Pure.eql rfl rfl) ?_
    refine Ops.nil ?_
    refine Run.cond rfl (fun c19 => ?_) (fun c19 => ?_)
    · skip
      replace c19 := dT c19
      refine Run.seq ?_
      refine Run.region ?_
      refine Ops.pure rfl (Pure.assign rfl) ?_
      refine Ops.pure rfl (Pure.assign rfl) ?_
      refine Ops.nil ?_
      refine Run.addNil 2 1 ?_
      refine Run.ext_ (Ext.take 0 rfl (Ext.nil _)) ?_
      refine Run.ret2 rfl rfl rfl ?_
      rw [(sh_same c15 c19).1, (sh_same c15 c19).2]
      exact retI_nil rfl
    · skip
      replace c19 := dF c19
      refine Run.skip ?_
      refine Run.seq ?_
      refine Run.region ?_
      refine Ops.pure rfl (Pure.ldBA 1 rfl cell35 rfl rfl rfl) ?_
      refine Ops.pure rfl (Pure.move rfl) ?_
      refine Ops.pure rfl (Pure.move rfl) ?_
      refine Ops.go rfl (Loud.lit sl32 rfl rfl rfl (by simp [Value.oneCell'])) ?_
      rintro v23 _ rfl
      refine Ops.go rfl (Loud.callR fn133 rfl (fun w hw => f_i_Panel_meeting w a b v l _ [c, d] (RdL.old hv w hw) hk (RdL.own 0 rfl w hw) (show 2 ≤ 1000 by decide))) ?_
      rintro v24 _ ⟨L24, hQ24, rfl⟩
      subst hQ24
      refine Ops.pure rfl (Pure.assign rfl) ?_
      refine Ops.pure rfl (Pure.assign rfl) ?_
      refine Ops.nil ?_
      refine Run.ext_ (Ext.take 0 rfl (Ext.nil _)) ?_
      refine Run.ret2 rfl rfl rfl ?_
      rw [(sh_ok c15 c19).1, (sh_ok c15 c19).2]
      exact ⟨_, rfl, rfl⟩

set_option maxRecDepth 4000 in
/-- spec.SharedPoints -/
theorem f_s_SharedPoints (w : World) (a : Int) (b : Int) (v : Value) (l : List Int) (c : Int) (d : Int) (hv : Rd w v 1 l.length (ints l)) (hl : l.length ≤ 1073741824) (a0 : -9223372036854775808 ≤ a) (a1 : a ≤ 9223372036854775807) (b0 : -9223372036854775808 ≤ b) (b1 : b ≤ 9223372036854775807) (c0 : -9223372036854775808 ≤ c) (c1 : c ≤ 9223372036854775807) (d0 : -9223372036854775808 ≤ d) (d1 : d ≤ 9223372036854775807) : Ret Try.prog 59 [.agg #[.int .i64 a, .int .i64 b, v], .int .i64 c, .int .i64 d] w (retI (shL a b l c d) (shE a b l c d)) := by
  refine Ret.enter Try.func59 rfl Try.ntmps59 rfl ?_
  refine Run.seq ?_
  refine Run.region ?_
  refine Ops.go rfl (Loud.box rfl rfl) ?_
  rintro _ _ ⟨b3, rfl, rfl⟩
  refine Ops.pure rfl (Pure.assign rfl) ?_
  refine Ops.pure rfl (Pure.assign rfl) ?_
  refine Ops.nil ?_
  refine Run.seq ?_
  refine Run.region ?_
  refine Ops.pure rfl (Pure.move rfl) ?_
  refine Ops.go rfl (Loud.callR fn134 rfl (fun w hw => f_s_l04Code w _ a b v l c (RdL.boxM 0 rfl rfl w hw) (RdL.old hv w hw) hl (by omega) (by omega) (by omega) (by omega) (by omega) (by omega))) ?_
  rintro v12 _ ⟨L12, hQ12, rfl⟩
  obtain ⟨x12, rfl, rfl⟩ := hQ12
  refine Ops.pure rfl (Pure.move rfl) ?_
  refine Ops.pure rfl (Pure.extract rfl rfl) ?_
  refine Ops.pure rfl (Pure.extract rfl rfl) ?_
  refine Ops.pure rfl (Pure.assign rfl) ?_
  refine Ops.pure rfl (Pure.assign rfl) ?_
  refine Ops.nil ?_
  refine Run.seq ?_
  refine Run.seq ?_
  refine Run.region ?_
  refine Ops.pure rfl (Pure.move rfl) ?_
  refine Ops.pure rfl (Pure.eql rfl rfl) ?_
  refine Ops.nil ?_
  refine Run.cond rfl (fun c16 => ?_) (fun c16 => ?_)
  · skip
    replace c16 := dT c16
    refine Run.region ?_
    refine Ops.pure rfl (Pure.move rfl) ?_
    refine Ops.go rfl (Loud.callR fn134 rfl (fun w hw => f_s_l04Code w _ a b v l d (RdL.boxM 1 rfl rfl w hw) (RdL.old hv w hw) hl (by omega) (by omega) (by omega) (by omega) (by omega) (by omega))) ?_
    rintro v19 _ ⟨L19, hQ19, rfl⟩
    obtain ⟨x19, rfl, rfl⟩ := hQ19
    refine Ops.pure rfl (Pure.move rfl) ?_
    refine Ops.pure rfl (Pure.extract rfl rfl) ?_
    refine Ops.pure rfl (Pure.extract rfl rfl) ?_
    refine Ops.pure rfl (Pure.assign rfl) ?_
    refine Ops.nil ?_
    refine Run.seq ?_
    refine Run.seq ?_
    refine Run.region ?_
    refine Ops.pure rfl (Pure.move rfl) ?_
    refine Ops.pure rfl (Pure.eql rfl rfl) ?_
    refine Ops.pure rfl (Pure.move rfl) ?_
    refine Ops.guard rfl rfl rfl rfl (fun c24 => ?_) (fun c24 => ?_)
    · skip
      have c24' := dT c24
      refine Ops.pure rfl (Pure.move rfl) ?_
      refine Ops.guardY rfl rfl rfl c24 ?_
      refine Ops.pure rfl (Pure.move rfl) ?_
      refine Ops.guardY rfl rfl rfl c24 ?_
      refine Ops.pure rfl (Pure.eql rfl rfl) ?_
      refine Ops.pure rfl (Pure.pickT rfl c24 rfl) ?_
      refine Ops.nil ?_
      refine Run.cond rfl (fun c28 => ?_) (fun c28 => ?_)
      · skip
        replace c28 := dT c28
        refine Run.region ?_
        refine Ops.pure rfl (Pure.assign rfl) ?_
        refine Ops.nil ?_
        refine Run.seq ?_
        refine Run.seq ?_
        refine Run.region ?_
        refine Ops.pure rfl (Pure.move rfl) ?_
        refine Ops.pure rfl (Pure.neq rfl rfl) ?_
        refine Ops.nil ?_
        refine Run.cond rfl (fun c30 => ?_) (fun c30 => ?_)
        · skip
          replace c30 := nT c30
          refine Run.seq ?_
          refine Run.region ?_
          refine Ops.pure rfl (Pure.move rfl) ?_
          refine Ops.pure rfl (Pure.assign rfl) ?_
          refine Ops.pure rfl (Pure.assign rfl) ?_
          refine Ops.nil ?_
          refine Run.addNil 2 1 ?_
          refine Run.ext_ (Ext.take 0 rfl (Ext.nil _)) ?_
          refine Run.ret2 rfl rfl rfl ?_
          first
            | (have h2 : cvE a b l [c, d] = cvE a b l [c] := by rw [cvE_two, if_neg (by assumption)]
               have h3 := sh_bad (a := a) (b := b) (l := l) (c := c) (d := d) (by omega)
               rw [h3.1, h3.2, h2]
               exact retI_nil rfl)
            | (have h2 : cvE a b l [c, d] = cvE a b l [d] := by rw [cvE_two, if_pos (by assumption)]
               have h3 := sh_bad (a := a) (b := b) (l := l) (c := c) (d := d) (by omega)
               rw [h3.1, h3.2, h2]
               exact retI_nil rfl)
            | (have h2 : cvE a b l [c, d] = cvE a b l [d] := by rw [cvE_two, if_pos (by assumption)]
               have h3 := sh_same (a := a) (b := b) (l := l) (c := c) (d := d) (by first | omega | (simp_all; done)) (by first | omega | (simp_all; done))
               rw [h3.1, h3.2]
               exact retI_nil rfl)
        · skip
          replace c30 := nF c30
          refine Run.skip ?_
          refine Run.seq ?_
          have hc0 : cvE a b l [c] = 0 := by first | assumption | (simp_all; done)
          have hd0 : cvE a b l [c, d] = 0 := by first | (rw [cvE_two, if_pos hc0]; first | assumption | omega | (simp_all; done))
          have hk := cvE_in hc0
          have hon := length_ownL (l := l) (okP_size hk)
          have hli := okP_inn hk
          rw [ofL_yes hc0]
          refine Run.region ?_
          refine Ops.pure rfl (Pure.move rfl) ?_
          refine Ops.pure rfl (Pure.move rfl) ?_
          refine Ops.pure rfl (Pure.move rfl) ?_
          refine Ops.go rfl (Loud.callR fn135 rfl (fun w hw => f_s_l10Meet w _ a b v l _ c d (by first | exact RdL.boxM 2 rfl rfl w hw | exact RdL.boxM 1 rfl rfl w hw) (RdL.old hv w hw) hk (by first | exact (hon ▸ RdL.own 1 rfl w hw) | exact (hon ▸ RdL.own 0 rfl w hw)))) ?_
          rintro v35 _ ⟨L35, hQ35, rfl⟩
          subst hQ35
          refine Ops.pure rfl (Pure.assign rfl) ?_
          refine Ops.pure rfl (Pure.assign rfl) ?_
          refine Ops.nil ?_
          refine Run.ext_ (Ext.take 0 rfl (Ext.nil _)) ?_
          refine Run.ret2 rfl rfl rfl ?_
          have h3 := sh_ok hd0 (show ¬ c = d by first | assumption | omega | (simp_all; done))
          rw [h3.1, h3.2, hli]
          exact ⟨_, rfl, rfl⟩
      · skip
        replace c28 := dF c28
        refine Run.skip ?_
        refine Run.seq ?_
        refine Run.seq ?_
        refine Run.region ?_
        refine Ops.pure rfl (Pure.move rfl) ?_
        refine Ops.pure rfl (Pure.neq rfl rfl) ?_
        refine Ops.nil ?_
        refine Run.cond rfl (fun c30 => ?_) (fun c30 => ?_)
        · skip
          replace c30 := nT c30
          refine Run.seq ?_
          refine Run.region ?_
          refine Ops.pure rfl (Pure.move rfl) ?_
          refine Ops.pure rfl (Pure.assign rfl) ?_
          refine Ops.pure rfl (Pure.assign rfl) ?_
          refine Ops.nil ?_
          refine Run.addNil 2 1 ?_
          refine Run.ext_ (Ext.take 0 rfl (Ext.nil _)) ?_
          refine Run.ret2 rfl rfl rfl ?_
          first
            | (have h2 : cvE a b l [c, d] = cvE a b l [c] := by rw [cvE_two, if_neg (by assumption)]
               have h3 := sh_bad (a := a) (b := b) (l := l) (c := c) (d := d) (by omega)
               rw [h3.1, h3.2, h2]
               exact retI_nil rfl)
            | (have h2 : cvE a b l [c, d] = cvE a b l [d] := by rw [cvE_two, if_pos (by assumption)]
               have h3 := sh_bad (a := a) (b := b) (l := l) (c := c) (d := d) (by omega)
               rw [h3.1, h3.2, h2]
               exact retI_nil rfl)
            | (have h2 : cvE a b l [c, d] = cvE a b l [d] := by rw [cvE_two, if_pos (by assumption)]
               have h3 := sh_same (a := a) (b := b) (l := l) (c := c) (d := d) (by first | omega | (simp_all; done)) (by first | omega | (simp_all; done))
               rw [h3.1, h3.2]
               exact retI_nil rfl)
        · skip
          replace c30 := nF c30
          refine Run.skip ?_
          refine Run.seq ?_
          have hc0 : cvE a b l [c] = 0 := by first | assumption | (simp_all; done)
          have hd0 : cvE a b l [c, d] = 0 := by first | (rw [cvE_two, if_pos hc0]; first | assumption | omega | (simp_all; done))
          have hk := cvE_in hc0
          have hon := length_ownL (l := l) (okP_size hk)
          have hli := okP_inn hk
          rw [ofL_yes hc0]
          refine Run.region ?_
          refine Ops.pure rfl (Pure.move rfl) ?_
          refine Ops.pure rfl (Pure.move rfl) ?_
          refine Ops.pure rfl (Pure.move rfl) ?_
          refine Ops.go rfl (Loud.callR fn135 rfl (fun w hw => f_s_l10Meet w _ a b v l _ c d (by first | exact RdL.boxM 2 rfl rfl w hw | exact RdL.boxM 1 rfl rfl w hw) (RdL.old hv w hw) hk (by first | exact (hon ▸ RdL.own 1 rfl w hw) | exact (hon ▸ RdL.own 0 rfl w hw)))) ?_
          rintro v35 _ ⟨L35, hQ35, rfl⟩
          subst hQ35
          refine Ops.pure rfl (Pure.assign rfl) ?_
          refine Ops.pure rfl (Pure.assign rfl) ?_
          refine Ops.nil ?_
          refine Run.ext_ (Ext.take 0 rfl (Ext.nil _)) ?_
          refine Run.ret2 rfl rfl rfl ?_
          have h3 := sh_ok hd0 (show ¬ c = d by first | assumption | omega | (simp_all; done))
          rw [h3.1, h3.2, hli]
          exact ⟨_, rfl, rfl⟩
    · skip
      replace c24 := Bool.eq_false_of_ne c24
      have c24' := dF c24
      refine Ops.guardN rfl rfl rfl rfl (by rw [c24]; decide) ?_
      refine Ops.guardN rfl rfl rfl rfl (by rw [c24]; decide) ?_
      refine Ops.pure rfl (Pure.pickF rfl c24 rfl) ?_
      refine Ops.nil ?_
      refine Run.condEF rfl rfl ?_
      refine Run.skip ?_
      refine Run.seq ?_
      refine Run.seq ?_
      refine Run.region ?_
      refine Ops.pure rfl (Pure.move rfl) ?_
      refine Ops.pure rfl (Pure.neq rfl rfl) ?_
      refine Ops.nil ?_
      refine Run.cond rfl (fun c30 => ?_) (fun c30 => ?_)
      · skip
        replace c30 := nT c30
        refine Run.seq ?_
        refine Run.region ?_
        refine Ops.pure rfl (Pure.move rfl) ?_
        refine Ops.pure rfl (Pure.assign rfl) ?_
        refine Ops.pure rfl (Pure.assign rfl) ?_
        refine Ops.nil ?_
        refine Run.addNil 2 1 ?_
        refine Run.ext_ (Ext.take 0 rfl (Ext.nil _)) ?_
        refine Run.ret2 rfl rfl rfl ?_
        first
          | (have h2 : cvE a b l [c, d] = cvE a b l [c] := by rw [cvE_two, if_neg (by assumption)]
             have h3 := sh_bad (a := a) (b := b) (l := l) (c := c) (d := d) (by omega)
             rw [h3.1, h3.2, h2]
             exact retI_nil rfl)
          | (have h2 : cvE a b l [c, d] = cvE a b l [d] := by rw [cvE_two, if_pos (by assumption)]
             have h3 := sh_bad (a := a) (b := b) (l := l) (c := c) (d := d) (by omega)
             rw [h3.1, h3.2, h2]
             exact retI_nil rfl)
          | (have h2 : cvE a b l [c, d] = cvE a b l [d] := by rw [cvE_two, if_pos (by assumption)]
             have h3 := sh_same (a := a) (b := b) (l := l) (c := c) (d := d) (by first | omega | (simp_all; done)) (by first | omega | (simp_all; done))
             rw [h3.1, h3.2]
             exact retI_nil rfl)
      · skip
        replace c30 := nF c30
        refine Run.skip ?_
        refine Run.seq ?_
        have hc0 : cvE a b l [c] = 0 := by first | assumption | (simp_all; done)
        have hd0 : cvE a b l [c, d] = 0 := by first | (rw [cvE_two, if_pos hc0]; first | assumption | omega | (simp_all; done))
        have hk := cvE_in hc0
        have hon := length_ownL (l := l) (okP_size hk)
        have hli := okP_inn hk
        rw [ofL_yes hc0]
        refine Run.region ?_
        refine Ops.pure rfl (Pure.move rfl) ?_
        refine Ops.pure rfl (Pure.move rfl) ?_
        refine Ops.pure rfl (Pure.move rfl) ?_
        refine Ops.go rfl (Loud.callR fn135 rfl (fun w hw => f_s_l10Meet w _ a b v l _ c d (by first | exact RdL.boxM 2 rfl rfl w hw | exact RdL.boxM 1 rfl rfl w hw) (RdL.old hv w hw) hk (by first | exact (hon ▸ RdL.own 1 rfl w hw) | exact (hon ▸ RdL.own 0 rfl w hw)))) ?_
        rintro v35 _ ⟨L35, hQ35, rfl⟩
        subst hQ35
        refine Ops.pure rfl (Pure.assign rfl) ?_
        refine Ops.pure rfl (Pure.assign rfl) ?_
        refine Ops.nil ?_
        refine Run.ext_ (Ext.take 0 rfl (Ext.nil _)) ?_
        refine Run.ret2 rfl rfl rfl ?_
        have h3 := sh_ok hd0 (show ¬ c = d by first | assumption | omega | (simp_all; done))
        rw [h3.1, h3.2, hli]
        exact ⟨_, rfl, rfl⟩
  · skip
    replace c16 := dF c16
    refine Run.skip ?_
    refine Run.seq ?_
    refine Run.seq ?_
    refine Run.region ?_
    refine Ops.pure rfl (Pure.move rfl) ?_
    refine Ops.pure rfl (Pure.eql rfl rfl) ?_
    refine Ops.pure rfl (Pure.move rfl) ?_
    refine Ops.guard rfl rfl rfl rfl (fun c24 => ?_) (fun c24 => ?_)
    · skip
      have c24' := dT c24
      refine Ops.pure rfl (Pure.move rfl) ?_
      refine Ops.guardY rfl rfl rfl c24 ?_
      refine Ops.pure rfl (Pure.move rfl) ?_
      refine Ops.guardY rfl rfl rfl c24 ?_
      refine Ops.pure rfl (Pure.eql rfl rfl) ?_
      refine Ops.pure rfl (Pure.pickT rfl c24 rfl) ?_
      refine Ops.nil ?_
      refine Run.cond rfl (fun c28 => ?_) (fun c28 => ?_)
      · skip
        replace c28 := dT c28
        refine Run.region ?_
        refine Ops.pure rfl (Pure.assign rfl) ?_
        refine Ops.nil ?_
        refine Run.seq ?_
        refine Run.seq ?_
        refine Run.region ?_
        refine Ops.pure rfl (Pure.move rfl) ?_
        refine Ops.pure rfl (Pure.neq rfl rfl) ?_
        refine Ops.nil ?_
        refine Run.cond rfl (fun c30 => ?_) (fun c30 => ?_)
        · skip
          replace c30 := nT c30
          refine Run.seq ?_
          refine Run.region ?_
          refine Ops.pure rfl (Pure.move rfl) ?_
          refine Ops.pure rfl (Pure.assign rfl) ?_
          refine Ops.pure rfl (Pure.assign rfl) ?_
          refine Ops.nil ?_
          refine Run.addNil 2 1 ?_
          refine Run.ext_ (Ext.take 0 rfl (Ext.nil _)) ?_
          refine Run.ret2 rfl rfl rfl ?_
          first
            | (have h2 : cvE a b l [c, d] = cvE a b l [c] := by rw [cvE_two, if_neg (by assumption)]
               have h3 := sh_bad (a := a) (b := b) (l := l) (c := c) (d := d) (by omega)
               rw [h3.1, h3.2, h2]
               exact retI_nil rfl)
            | (have h2 : cvE a b l [c, d] = cvE a b l [d] := by rw [cvE_two, if_pos (by assumption)]
               have h3 := sh_bad (a := a) (b := b) (l := l) (c := c) (d := d) (by omega)
               rw [h3.1, h3.2, h2]
               exact retI_nil rfl)
            | (have h2 : cvE a b l [c, d] = cvE a b l [d] := by rw [cvE_two, if_pos (by assumption)]
               have h3 := sh_same (a := a) (b := b) (l := l) (c := c) (d := d) (by first | omega | (simp_all; done)) (by first | omega | (simp_all; done))
               rw [h3.1, h3.2]
               exact retI_nil rfl)
        · skip
          replace c30 := nF c30
          refine Run.skip ?_
          refine Run.seq ?_
          have hc0 : cvE a b l [c] = 0 := by first | assumption | (simp_all; done)
          have hd0 : cvE a b l [c, d] = 0 := by first | (rw [cvE_two, if_pos hc0]; first | assumption | omega | (simp_all; done))
          have hk := cvE_in hc0
          have hon := length_ownL (l := l) (okP_size hk)
          have hli := okP_inn hk
          rw [ofL_yes hc0]
          refine Run.region ?_
          refine Ops.pure rfl (Pure.move rfl) ?_
          refine Ops.pure rfl (Pure.move rfl) ?_
          refine Ops.pure rfl (Pure.move rfl) ?_
          refine Ops.go rfl (Loud.callR fn135 rfl (fun w hw => f_s_l10Meet w _ a b v l _ c d (by first | exact RdL.boxM 2 rfl rfl w hw | exact RdL.boxM 1 rfl rfl w hw) (RdL.old hv w hw) hk (by first | exact (hon ▸ RdL.own 1 rfl w hw) | exact (hon ▸ RdL.own 0 rfl w hw)))) ?_
          rintro v35 _ ⟨L35, hQ35, rfl⟩
          subst hQ35
          refine Ops.pure rfl (Pure.assign rfl) ?_
          refine Ops.pure rfl (Pure.assign rfl) ?_
          refine Ops.nil ?_
          refine Run.ext_ (Ext.take 0 rfl (Ext.nil _)) ?_
          refine Run.ret2 rfl rfl rfl ?_
          have h3 := sh_ok hd0 (show ¬ c = d by first | assumption | omega | (simp_all; done))
          rw [h3.1, h3.2, hli]
          exact ⟨_, rfl, rfl⟩
      · skip
        replace c28 := dF c28
        refine Run.skip ?_
        refine Run.seq ?_
        refine Run.seq ?_
        refine Run.region ?_
        refine Ops.pure rfl (Pure.move rfl) ?_
        refine Ops.pure rfl (Pure.neq rfl rfl) ?_
        refine Ops.nil ?_
        refine Run.cond rfl (fun c30 => ?_) (fun c30 => ?_)
        · skip
          replace c30 := nT c30
          refine Run.seq ?_
          refine Run.region ?_
          refine Ops.pure rfl (Pure.move rfl) ?_
          refine Ops.pure rfl (Pure.assign rfl) ?_
          refine Ops.pure rfl (Pure.assign rfl) ?_
          refine Ops.nil ?_
          refine Run.addNil 2 1 ?_
          refine Run.ext_ (Ext.take 0 rfl (Ext.nil _)) ?_
          refine Run.ret2 rfl rfl rfl ?_
          first
            | (have h2 : cvE a b l [c, d] = cvE a b l [c] := by rw [cvE_two, if_neg (by assumption)]
               have h3 := sh_bad (a := a) (b := b) (l := l) (c := c) (d := d) (by omega)
               rw [h3.1, h3.2, h2]
               exact retI_nil rfl)
            | (have h2 : cvE a b l [c, d] = cvE a b l [d] := by rw [cvE_two, if_pos (by assumption)]
               have h3 := sh_bad (a := a) (b := b) (l := l) (c := c) (d := d) (by omega)
               rw [h3.1, h3.2, h2]
               exact retI_nil rfl)
            | (have h2 : cvE a b l [c, d] = cvE a b l [d] := by rw [cvE_two, if_pos (by assumption)]
               have h3 := sh_same (a := a) (b := b) (l := l) (c := c) (d := d) (by first | omega | (simp_all; done)) (by first | omega | (simp_all; done))
               rw [h3.1, h3.2]
               exact retI_nil rfl)
        · skip
          replace c30 := nF c30
          refine Run.skip ?_
          refine Run.seq ?_
          have hc0 : cvE a b l [c] = 0 := by first | assumption | (simp_all; done)
          have hd0 : cvE a b l [c, d] = 0 := by first | (rw [cvE_two, if_pos hc0]; first | assumption | omega | (simp_all; done))
          have hk := cvE_in hc0
          have hon := length_ownL (l := l) (okP_size hk)
          have hli := okP_inn hk
          rw [ofL_yes hc0]
          refine Run.region ?_
          refine Ops.pure rfl (Pure.move rfl) ?_
          refine Ops.pure rfl (Pure.move rfl) ?_
          refine Ops.pure rfl (Pure.move rfl) ?_
          refine Ops.go rfl (Loud.callR fn135 rfl (fun w hw => f_s_l10Meet w _ a b v l _ c d (by first | exact RdL.boxM 2 rfl rfl w hw | exact RdL.boxM 1 rfl rfl w hw) (RdL.old hv w hw) hk (by first | exact (hon ▸ RdL.own 1 rfl w hw) | exact (hon ▸ RdL.own 0 rfl w hw)))) ?_
          rintro v35 _ ⟨L35, hQ35, rfl⟩
          subst hQ35
          refine Ops.pure rfl (Pure.assign rfl) ?_
          refine Ops.pure rfl (Pure.assign rfl) ?_
          refine Ops.nil ?_
          refine Run.ext_ (Ext.take 0 rfl (Ext.nil _)) ?_
          refine Run.ret2 rfl rfl rfl ?_
          have h3 := sh_ok hd0 (show ¬ c = d by first | assumption | omega | (simp_all; done))
          rw [h3.1, h3.2, hli]
          exact ⟨_, rfl, rfl⟩
    · skip
      replace c24 := Bool.eq_false_of_ne c24
      have c24' := dF c24
      refine Ops.guardN rfl rfl rfl rfl (by rw [c24]; decide) ?_
      refine Ops.guardN rfl rfl rfl rfl (by rw [c24]; decide) ?_
      refine Ops.pure rfl (Pure.pickF rfl c24 rfl) ?_
      refine Ops.nil ?_
      refine Run.condEF rfl rfl ?_
      refine Run.skip ?_
      refine Run.seq ?_
      refine Run.seq ?_
      refine Run.region ?_
      refine Ops.pure rfl (Pure.move rfl) ?_
      refine Ops.pure rfl (Pure.neq rfl rfl) ?_
      refine Ops.nil ?_
      refine Run.cond rfl (fun c30 => ?_) (fun c30 => ?_)
      · skip
        replace c30 := nT c30
        refine Run.seq ?_
        refine Run.region ?_
        refine Ops.pure rfl (Pure.move rfl) ?_
        refine Ops.pure rfl (Pure.assign rfl) ?_
        refine Ops.pure rfl (Pure.assign rfl) ?_
        refine Ops.nil ?_
        refine Run.addNil 2 1 ?_
        refine Run.ext_ (Ext.take 0 rfl (Ext.nil _)) ?_
        refine Run.ret2 rfl rfl rfl ?_
        first
          | (have h2 : cvE a b l [c, d] = cvE a b l [c] := by rw [cvE_two, if_neg (by assumption)]
             have h3 := sh_bad (a := a) (b := b) (l := l) (c := c) (d := d) (by omega)
             rw [h3.1, h3.2, h2]
             exact retI_nil rfl)
          | (have h2 : cvE a b l [c, d] = cvE a b l [d] := by rw [cvE_two, if_pos (by assumption)]
             have h3 := sh_bad (a := a) (b := b) (l := l) (c := c) (d := d) (by omega)
             rw [h3.1, h3.2, h2]
             exact retI_nil rfl)
          | (have h2 : cvE a b l [c, d] = cvE a b l [d] := by rw [cvE_two, if_pos (by assumption)]
             have h3 := sh_same (a := a) (b := b) (l := l) (c := c) (d := d) (by first | omega | (simp_all; done)) (by first | omega | (simp_all; done))
             rw [h3.1, h3.2]
             exact retI_nil rfl)
      · skip
        replace c30 := nF c30
        refine Run.skip ?_
        refine Run.seq ?_
        have hc0 : cvE a b l [c] = 0 := by first | assumption | (simp_all; done)
        have hd0 : cvE a b l [c, d] = 0 := by first | (rw [cvE_two, if_pos hc0]; first | assumption | omega | (simp_all; done))
        have hk := cvE_in hc0
        have hon := length_ownL (l := l) (okP_size hk)
        have hli := okP_inn hk
        rw [ofL_yes hc0]
        refine Run.region ?_
        refine Ops.pure rfl (Pure.move rfl) ?_
        refine Ops.pure rfl (Pure.move rfl) ?_
        refine Ops.pure rfl (Pure.move rfl) ?_
        refine Ops.go rfl (Loud.callR fn135 rfl (fun w hw => f_s_l10Meet w _ a b v l _ c d (by first | exact RdL.boxM 2 rfl rfl w hw | exact RdL.boxM 1 rfl rfl w hw) (RdL.old hv w hw) hk (by first | exact (hon ▸ RdL.own 1 rfl w hw) | exact (hon ▸ RdL.own 0 rfl w hw)))) ?_
        rintro v35 _ ⟨L35, hQ35, rfl⟩
        subst hQ35
        refine Ops.pure rfl (Pure.assign rfl) ?_
        refine Ops.pure rfl (Pure.assign rfl) ?_
        refine Ops.nil ?_
        refine Run.ext_ (Ext.take 0 rfl (Ext.nil _)) ?_
        refine Run.ret2 rfl rfl rfl ?_
        have h3 := sh_ok hd0 (show ¬ c = d by first | assumption | omega | (simp_all; done))
        rw [h3.1, h3.2, hli]
        exact ⟨_, rfl, rfl⟩

set_option maxRecDepth 4000 in
/-- impl.DistanceOf -/
theorem f_i_DistG (w : World) (a : Int) (b : Int) (v : Value) (l : List Int) (a' : Int) (b' : Int) (v' : Value) (l' : List Int) (hv : Rd w v 1 l.length (ints l)) (hl : l.length ≤ 1073741824) (a0 : -9223372036854775808 ≤ a) (a1 : a ≤ 9223372036854775807) (b0 : -9223372036854775808 ≤ b) (b1 : b ≤ 9223372036854775807) (hv' : Rd w v' 1 l'.length (ints l')) (hl' : l'.length ≤ 1073741824) (a0' : -9223372036854775808 ≤ a') (a1' : a' ≤ 9223372036854775807) (b0' : -9223372036854775808 ≤ b') (b1' : b' ≤ 9223372036854775807) : RetV Try.prog 64 [.agg #[.int .i64 a, .int .i64 b, v], .agg #[.int .i64 a', .int .i64 b', v']] w (.tuple #[.int .i64 (dsN a b l a' b' l'), .int .i64 (dsE a b l a' b' l')]) := by
  refine Ret.enter Try.func64 rfl Try.ntmps64 rfl ?_
  refine Run.seq ?_
  refine Run.region ?_
  refine Ops.go rfl (Loud.box rfl rfl) ?_
  rintro _ _ ⟨b2, rfl, rfl⟩
  refine Ops.go rfl (Loud.box rfl rfl) ?_
  rintro _ _ ⟨b3, rfl, rfl⟩
  refine Ops.pure rfl (Pure.assign rfl) ?_
  refine Ops.pure rfl (Pure.assign rfl) ?_
  refine Ops.nil ?_
  refine Run.seq ?_
  refine Run.seq ?_
  refine Run.region ?_
  refine Ops.pure rfl (Pure.ldBA 1 rfl cell35 rfl rfl rfl) ?_
  refine Ops.q rfl (QOp.call fn96 rfl (fun w hw => f_i_ValidPanel w _ _ _ _ (by exact RdL.old (by assumption) w hw) (by assumption) (by assumption) (by assumption) (by assumption) (by assumption))) ?_
  refine Ops.pure rfl (Pure.not rfl) ?_
  refine Ops.pure rfl (Pure.move rfl) ?_
  refine Ops.guard rfl rfl rfl rfl (fun c12 => ?_) (fun c12 => ?_)
  · skip
    have c12' := bF c12
    refine Ops.pure rfl (Pure.ldBA 0 rfl cell35 rfl rfl rfl) ?_
    refine Ops.guardY rfl rfl rfl c12 ?_
    refine Ops.q rfl (QOp.call fn96 rfl (fun w hw => f_i_ValidPanel w _ _ _ _ (by exact RdL.old (by assumption) w hw) (by assumption) (by assumption) (by assumption) (by assumption) (by assumption))) ?_
    refine Ops.guardY rfl rfl rfl c12 ?_
    refine Ops.pure rfl (Pure.not rfl) ?_
    refine Ops.pure rfl (Pure.pickF rfl c12 rfl) ?_
    refine Ops.nil ?_
    refine Run.cond rfl (fun c16 => ?_) (fun c16 => ?_)
    · skip
      replace c16 := bT c16
      refine Run.seq ?_
      refine Run.region ?_
      refine Ops.pure rfl (Pure.assign rfl) ?_
      refine Ops.pure rfl (Pure.assign rfl) ?_
      refine Ops.nil ?_
      refine Run.ret2 rfl rfl rfl ?_
      have hno : ¬ (okP a b l = true ∧ okP a' b' l' = true) := by first | (simp_all; done) | (intro hh; simp_all; done)
      rw [(ds_bad hno).1, (ds_bad hno).2]
    · skip
      replace c16 := bF c16
      refine Run.skip ?_
      refine Run.seq ?_
      refine Run.seq ?_
      have hok : okP a b l = true ∧ okP a' b' l' = true := by first | exact ⟨by assumption, by assumption⟩ | (simp_all; done)
      refine Run.region ?_
      refine Ops.pure rfl (Pure.fieldAddrB fld35_0 rfl) ?_
      refine Ops.pure rfl (Pure.ldB 1 rfl cell2 rfl rfl) ?_
      refine Ops.pure rfl (Pure.fieldAddrB fld35_0 rfl) ?_
      refine Ops.pure rfl (Pure.ldB 0 rfl cell2 rfl rfl) ?_
      refine Ops.pure rfl (Pure.neq rfl rfl) ?_
      refine Ops.pure rfl (Pure.move rfl) ?_
      refine Ops.guard rfl rfl rfl rfl (fun c22 => ?_) (fun c22 => ?_)
      · skip
        have c22' := nF c22
        refine Ops.pure rfl (Pure.fieldAddrB fld35_1 rfl) ?_
        refine Ops.guardY rfl rfl rfl c22 ?_
        refine Ops.pure rfl (Pure.ldB 1 rfl cell2 rfl rfl) ?_
        refine Ops.guardY rfl rfl rfl c22 ?_
        refine Ops.pure rfl (Pure.fieldAddrB fld35_1 rfl) ?_
        refine Ops.guardY rfl rfl rfl c22 ?_
        refine Ops.pure rfl (Pure.ldB 0 rfl cell2 rfl rfl) ?_
        refine Ops.guardY rfl rfl rfl c22 ?_
        refine Ops.pure rfl (Pure.neq rfl rfl) ?_
        refine Ops.pure rfl (Pure.pickF rfl c22 rfl) ?_
        refine Ops.nil ?_
        refine Run.cond rfl (fun c28 => ?_) (fun c28 => ?_)
        · skip
          replace c28 := nT c28
          refine Run.seq ?_
          refine Run.region ?_
          refine Ops.pure rfl (Pure.assign rfl) ?_
          refine Ops.pure rfl (Pure.assign rfl) ?_
          refine Ops.nil ?_
          refine Run.ret2 rfl rfl rfl ?_
          have hns : ¬ (a = a' ∧ b = b') := by first | omega | (simp_all; done) | (intro hh; simp_all; done)
          rw [(ds_size hok hns).1, (ds_size hok hns).2]
        · skip
          replace c28 := nF c28
          refine Run.skip ?_
          refine Run.seq ?_
          have hab : a = a' ∧ b = b' := by first | exact ⟨by assumption, by assumption⟩ | omega | (simp_all; done)
          obtain ⟨ha9, hb9⟩ := id hab
          have hli := okP_inn hok.1
          have hli2 := okP_inn hok.2
          rw [← ha9, ← hb9] at hli2
          have hib := (inn_eq (okP_size hok.1)).2.1
          refine Run.region ?_
          refine Ops.pure rfl (Pure.assign rfl) ?_
          refine Ops.nil ?_
          refine Run.seq ?_
          refine Run.seq ?_
          refine Run.region ?_
          refine Ops.pure rfl (Pure.fieldAddrB fld35_2 rfl) ?_
          refine Ops.pure rfl (Pure.ldB 1 rfl cell32 rfl rfl) ?_
          refine Ops.pure rfl (Pure.len sl32 (RdL.old hv) rfl) ?_
          refine Ops.pure rfl (Pure.move rfl) ?_
          refine Ops.nil ?_
          refine Run.block ?_
          refine Run.loop (X := Nat) (fun k => [(3, .pointer (some ⟨b3, 0, none⟩)), (6, .int .i64 (difN l l' k : Int)), (30, v), (31, .int .i64 l.length), (32, .int .i64 k)]) (fun k => [.box b3 35 [.int .i64 a', .int .i64 b', v']]) (fun k => k ≤ l.length) (fun k => l.length - k) 0 ?_ ?_ ?_ ?_
          · exact Nat.zero_le _
          · exact ⟨rfl, rfl, rfl, rfl, rfl, trivial⟩
          · exact Ext.take 0 rfl (Ext.nil _)
          · intro k hinv0
            have hdl := difN_le l l' k
            refine Run.seq ?_
            refine Run.region ?_
            refine Ops.pure rfl (Pure.lss rfl rfl) ?_
            refine Ops.nil ?_
            refine Run.seq ?_
            refine Run.cond rfl (fun c33 => ?_) (fun c33 => ?_)
            · skip
              replace c33 := dT c33
              refine Run.skip ?_
              refine Run.seq ?_
              refine Run.block ?_
              refine Run.seq ?_
              refine Run.region ?_
              refine Ops.pure rfl (Pure.move rfl) ?_
              refine Ops.pure rfl (Pure.idx1N sl32 (RdL.old hv) rfl rfl (by first | assumption | omega | (simp; omega))) ?_
              refine Ops.pure rfl (Pure.ld cell2 rfl (RdL.old hv) (by first | exact ints_get (by omega) | exact bools_get (by omega) | exact strs_get (by omega) | exact vals_get (by first | omega | (simp; omega)))) ?_
              refine Ops.pure rfl (Pure.assign rfl) ?_
              refine Ops.pure rfl (Pure.assign rfl) ?_
              refine Ops.nil ?_
              refine Run.seq ?_
              refine Run.region ?_
              refine Ops.pure rfl (Pure.move rfl) ?_
              refine Ops.pure rfl (Pure.fieldAddrB fld35_2 rfl) ?_
              refine Ops.pure rfl (Pure.ldB 0 rfl cell32 rfl rfl) ?_
              refine Ops.pure rfl (Pure.move rfl) ?_
              refine Ops.pure rfl (Pure.idx1N sl32 (RdL.old hv') rfl rfl (by first | assumption | omega | (simp; omega))) ?_
              refine Ops.pure rfl (Pure.ld cell2 rfl (RdL.old hv') (by first | exact ints_get (by omega) | exact bools_get (by omega) | exact strs_get (by omega) | exact vals_get (by first | omega | (simp; omega)))) ?_
              refine Ops.pure rfl (Pure.neq rfl rfl) ?_
              refine Ops.nil ?_
              refine Run.cond rfl (fun c43 => ?_) (fun c43 => ?_)
              · skip
                replace c43 := nT c43
                refine Run.region ?_
                refine Ops.pure rfl (Pure.move rfl) ?_
                refine Ops.pure rfl (Pure.add rfl rfl (by omega) (by omega)) ?_
                refine Ops.pure rfl (Pure.assign rfl) ?_
                refine Ops.nil ?_
                refine Run.blk ?_
                refine Run.region ?_
                refine Ops.pure rfl (Pure.add rfl rfl (by omega) (by omega)) ?_
                refine Ops.pure rfl (Pure.move rfl) ?_
                refine Ops.nil ?_
                refine Run.asrt ?_
                first
                  | exact ⟨k + 1, ⟨by omega, by omega⟩, ⟨rfl, congrArg (fun x => some (Value.int .i64 x)) (by rw [difN_diff c43]; omega), rfl, rfl, rfl, trivial⟩, Ext.refl _⟩
                  | exact ⟨k + 1, ⟨by omega, by omega⟩, ⟨rfl, congrArg (fun x => some (Value.int .i64 x)) (by rw [difN_same (by omega)]), rfl, rfl, rfl, trivial⟩, Ext.refl _⟩
              · skip
                replace c43 := nF c43
                refine Run.skip ?_
                refine Run.blk ?_
                refine Run.region ?_
                refine Ops.pure rfl (Pure.add rfl rfl (by omega) (by omega)) ?_
                refine Ops.pure rfl (Pure.move rfl) ?_
                refine Ops.nil ?_
                refine Run.asrt ?_
                first
                  | exact ⟨k + 1, ⟨by omega, by omega⟩, ⟨rfl, congrArg (fun x => some (Value.int .i64 x)) (by rw [difN_diff c43]; omega), rfl, rfl, rfl, trivial⟩, Ext.refl _⟩
                  | exact ⟨k + 1, ⟨by omega, by omega⟩, ⟨rfl, congrArg (fun x => some (Value.int .i64 x)) (by rw [difN_same (by omega)]), rfl, rfl, rfl, trivial⟩, Ext.refl _⟩
            · skip
              replace c33 := dF c33
              refine Run.exit rfl ?_
              refine Run.seq ?_
              refine Run.region ?_
              refine Ops.pure rfl (Pure.move rfl) ?_
              refine Ops.pure rfl (Pure.assign rfl) ?_
              refine Ops.pure rfl (Pure.assign rfl) ?_
              refine Ops.nil ?_
              refine Run.ret2 rfl rfl rfl ?_
              have e : k = l.length := by omega
              subst e
              rw [(ds_ok hok hab).1, (ds_ok hok hab).2]
      · skip
        replace c22 := Bool.eq_true_of_ne c22
        have c22' := nT c22
        refine Ops.guardN rfl rfl rfl rfl (by rw [c22]; decide) ?_
        refine Ops.guardN rfl rfl rfl rfl (by rw [c22]; decide) ?_
        refine Ops.guardN rfl rfl rfl rfl (by rw [c22]; decide) ?_
        refine Ops.guardN rfl rfl rfl rfl (by rw [c22]; decide) ?_
        refine Ops.pure rfl (Pure.pickT rfl c22 rfl) ?_
        refine Ops.nil ?_
        refine Run.condE rfl rfl ?_
        refine Run.seq ?_
        refine Run.region ?_
        refine Ops.pure rfl (Pure.assign rfl) ?_
        refine Ops.pure rfl (Pure.assign rfl) ?_
        refine Ops.nil ?_
        refine Run.ret2 rfl rfl rfl ?_
        have hns : ¬ (a = a' ∧ b = b') := by first | omega | (simp_all; done) | (intro hh; simp_all; done)
        rw [(ds_size hok hns).1, (ds_size hok hns).2]
  · skip
    replace c12 := Bool.eq_true_of_ne c12
    have c12' := bT c12
    refine Ops.guardN rfl rfl rfl rfl (by rw [c12]; decide) ?_
    refine Ops.guardN rfl rfl rfl rfl (by rw [c12]; decide) ?_
    refine Ops.pure rfl (Pure.pickT rfl c12 rfl) ?_
    refine Ops.nil ?_
    refine Run.condE rfl rfl ?_
    refine Run.seq ?_
    refine Run.region ?_
    refine Ops.pure rfl (Pure.assign rfl) ?_
    refine Ops.pure rfl (Pure.assign rfl) ?_
    refine Ops.nil ?_
    refine Run.ret2 rfl rfl rfl ?_
    have hno : ¬ (okP a b l = true ∧ okP a' b' l' = true) := by first | (simp_all; done) | (intro hh; simp_all; done)
    rw [(ds_bad hno).1, (ds_bad hno).2]

set_option maxRecDepth 4000 in
/-- spec.DistanceOf -/
theorem f_s_DistG (w : World) (a : Int) (b : Int) (v : Value) (l : List Int) (a' : Int) (b' : Int) (v' : Value) (l' : List Int) (hv : Rd w v 1 l.length (ints l)) (hl : l.length ≤ 1073741824) (a0 : -9223372036854775808 ≤ a) (a1 : a ≤ 9223372036854775807) (b0 : -9223372036854775808 ≤ b) (b1 : b ≤ 9223372036854775807) (hv' : Rd w v' 1 l'.length (ints l')) (hl' : l'.length ≤ 1073741824) (a0' : -9223372036854775808 ≤ a') (a1' : a' ≤ 9223372036854775807) (b0' : -9223372036854775808 ≤ b') (b1' : b' ≤ 9223372036854775807) : RetV Try.prog 65 [.agg #[.int .i64 a, .int .i64 b, v], .agg #[.int .i64 a', .int .i64 b', v']] w (.tuple #[.int .i64 (dsN a b l a' b' l'), .int .i64 (dsE a b l a' b' l')]) := by
  refine Ret.enter Try.func65 rfl Try.ntmps65 rfl ?_
  refine Run.seq ?_
  refine Run.region ?_
  refine Ops.go rfl (Loud.box rfl rfl) ?_
  rintro _ _ ⟨b2, rfl, rfl⟩
  refine Ops.go rfl (Loud.box rfl rfl) ?_
  rintro _ _ ⟨b3, rfl, rfl⟩
  refine Ops.pure rfl (Pure.assign rfl) ?_
  refine Ops.pure rfl (Pure.assign rfl) ?_
  refine Ops.nil ?_
  refine Run.seq ?_
  refine Run.seq ?_
  refine Run.region ?_
  refine Ops.q rfl (QOp.call fn99 rfl (fun w hw => f_s_l02Ok w _ _ _ _ _ (by exact RdL.boxM 1 rfl rfl w hw) (by exact RdL.old (by assumption) w hw) (by assumption) (by assumption) (by assumption) (by assumption) (by assumption))) ?_
  refine Ops.pure rfl (Pure.not rfl) ?_
  refine Ops.pure rfl (Pure.move rfl) ?_
  refine Ops.guard rfl rfl rfl rfl (fun c10 => ?_) (fun c10 => ?_)
  · skip
    have c10' := bF c10
    refine Ops.q rfl (QOp.call fn99 rfl (fun w hw => f_s_l02Ok w _ _ _ _ _ (by exact RdL.boxM 0 rfl rfl w hw) (by exact RdL.old (by assumption) w hw) (by assumption) (by assumption) (by assumption) (by assumption) (by assumption))) ?_
    refine Ops.guardY rfl rfl rfl c10 ?_
    refine Ops.pure rfl (Pure.not rfl) ?_
    refine Ops.pure rfl (Pure.pickF rfl c10 rfl) ?_
    refine Ops.nil ?_
    refine Run.cond rfl (fun c13 => ?_) (fun c13 => ?_)
    · skip
      replace c13 := bT c13
      refine Run.seq ?_
      refine Run.region ?_
      refine Ops.pure rfl (Pure.assign rfl) ?_
      refine Ops.pure rfl (Pure.assign rfl) ?_
      refine Ops.nil ?_
      refine Run.ret2 rfl rfl rfl ?_
      have hno : ¬ (okP a b l = true ∧ okP a' b' l' = true) := by first | (simp_all; done) | (intro hh; simp_all; done)
      rw [(ds_bad hno).1, (ds_bad hno).2]
    · skip
      replace c13 := bF c13
      refine Run.skip ?_
      refine Run.seq ?_
      refine Run.seq ?_
      have hok : okP a b l = true ∧ okP a' b' l' = true := by first | exact ⟨by assumption, by assumption⟩ | (simp_all; done)
      refine Run.region ?_
      refine Ops.pure rfl (Pure.fieldAddrB fld35_0 rfl) ?_
      refine Ops.pure rfl (Pure.ldB 1 rfl cell2 rfl rfl) ?_
      refine Ops.pure rfl (Pure.fieldAddrB fld35_0 rfl) ?_
      refine Ops.pure rfl (Pure.ldB 0 rfl cell2 rfl rfl) ?_
      refine Ops.pure rfl (Pure.neq rfl rfl) ?_
      refine Ops.pure rfl (Pure.move rfl) ?_
      refine Ops.guard rfl rfl rfl rfl (fun c19 => ?_) (fun c19 => ?_)
      · skip
        have c19' := nF c19
        refine Ops.pure rfl (Pure.fieldAddrB fld35_1 rfl) ?_
        refine Ops.guardY rfl rfl rfl c19 ?_
        refine Ops.pure rfl (Pure.ldB 1 rfl cell2 rfl rfl) ?_
        refine Ops.guardY rfl rfl rfl c19 ?_
        refine Ops.pure rfl (Pure.fieldAddrB fld35_1 rfl) ?_
        refine Ops.guardY rfl rfl rfl c19 ?_
        refine Ops.pure rfl (Pure.ldB 0 rfl cell2 rfl rfl) ?_
        refine Ops.guardY rfl rfl rfl c19 ?_
        refine Ops.pure rfl (Pure.neq rfl rfl) ?_
        refine Ops.pure rfl (Pure.pickF rfl c19 rfl) ?_
        refine Ops.nil ?_
        refine Run.cond rfl (fun c25 => ?_) (fun c25 => ?_)
        · skip
          replace c25 := nT c25
          refine Run.seq ?_
          refine Run.region ?_
          refine Ops.pure rfl (Pure.assign rfl) ?_
          refine Ops.pure rfl (Pure.assign rfl) ?_
          refine Ops.nil ?_
          refine Run.ret2 rfl rfl rfl ?_
          have hns : ¬ (a = a' ∧ b = b') := by first | omega | (simp_all; done) | (intro hh; simp_all; done)
          rw [(ds_size hok hns).1, (ds_size hok hns).2]
        · skip
          replace c25 := nF c25
          refine Run.skip ?_
          refine Run.seq ?_
          have hab : a = a' ∧ b = b' := by first | exact ⟨by assumption, by assumption⟩ | omega | (simp_all; done)
          obtain ⟨ha9, hb9⟩ := id hab
          have hli := okP_inn hok.1
          have hli2 := okP_inn hok.2
          rw [← ha9, ← hb9] at hli2
          have hib := (inn_eq (okP_size hok.1)).2.1
          refine Run.region ?_
          refine Ops.pure rfl (Pure.assign rfl) ?_
          refine Ops.nil ?_
          refine Run.seq ?_
          refine Run.seq ?_
          refine Run.region ?_
          refine Ops.pure rfl (Pure.assign rfl) ?_
          refine Ops.nil ?_
          refine Run.block ?_
          refine Run.loop (X := Nat) (fun k => [(2, .pointer (some ⟨b2, 0, none⟩)), (3, .pointer (some ⟨b3, 0, none⟩)), (6, .int .i64 (difN l l' k : Int)), (7, .int .i64 k)]) (fun k => [.box b3 35 [.int .i64 a', .int .i64 b', v'], .box b2 35 [.int .i64 a, .int .i64 b, v]]) (fun k => k ≤ l.length) (fun k => l.length - k) 0 ?_ ?_ ?_ ?_
          · exact Nat.zero_le _
          · exact ⟨rfl, rfl, rfl, rfl, trivial⟩
          · exact Ext.refl _
          · intro k hinv0
            have hdl := difN_le l l' k
            refine Run.seq ?_
            refine Run.seq ?_
            refine Run.region ?_
            refine Ops.pure rfl (Pure.move rfl) ?_
            refine Ops.pure rfl (Pure.fieldAddrB fld35_2 rfl) ?_
            refine Ops.pure rfl (Pure.ldB 1 rfl cell32 rfl rfl) ?_
            refine Ops.pure rfl (Pure.len sl32 (RdL.old hv) rfl) ?_
            refine Ops.pure rfl (Pure.lss rfl rfl) ?_
            refine Ops.nil ?_
            refine Run.cond rfl (fun c30 => ?_) (fun c30 => ?_)
            · skip
              replace c30 := dT c30
              refine Run.skip ?_
              refine Run.seq ?_
              refine Run.block ?_
              refine Run.seq ?_
              refine AnyK.start ([.box b3 35 [.int .i64 a', .int .i64 b', v'], .box b2 35 [.int .i64 a, .int .i64 b, v]]) follows (Ext.refl _) ?_
              refine AnyK.take 0 rfl (by kernel_rfl) rfl (QOp.pure (Pure.fieldAddrB fld35_2 rfl)) ?_
              refine AnyK.take 1 rfl (by kernel_rfl) rfl (QOp.pure (Pure.ldB 1 rfl cell32 rfl rfl)) ?_
              refine AnyK.take 2 rfl (by kernel_rfl) rfl (QOp.pure (Pure.move rfl)) ?_
              refine AnyK.take 3 rfl (by kernel_rfl) rfl (QOp.pure (Pure.idx1N sl32 (RdL.old hv) rfl rfl (by first | assumption | omega | (simp; omega)))) ?_
              refine AnyK.take 4 rfl (by kernel_rfl) rfl (QOp.pure (Pure.ld cell2 rfl (RdL.old hv) (by first | exact ints_get (by omega) | exact bools_get (by omega) | exact strs_get (by omega) | exact vals_get (by first | omega | (simp; omega))))) ?_
              refine AnyK.take 5 rfl (by kernel_rfl) rfl (QOp.pure (Pure.fieldAddrB fld35_2 rfl)) ?_
              refine AnyK.take 6 rfl (by kernel_rfl) rfl (QOp.pure (Pure.ldB 0 rfl cell32 rfl rfl)) ?_
              refine AnyK.take 7 rfl (by kernel_rfl) rfl (QOp.pure (Pure.move rfl)) ?_
              refine AnyK.take 8 rfl (by kernel_rfl) rfl (QOp.pure (Pure.idx1N sl32 (RdL.old hv') rfl rfl (by first | assumption | omega | (simp; omega)))) ?_
              refine AnyK.take 9 rfl (by kernel_rfl) rfl (QOp.pure (Pure.ld cell2 rfl (RdL.old hv') (by first | exact ints_get (by omega) | exact bools_get (by omega) | exact strs_get (by omega) | exact vals_get (by first | omega | (simp; omega))))) ?_
              refine AnyK.take 10 rfl (by kernel_rfl) rfl (QOp.pure (Pure.neq rfl rfl)) ?_
              refine AnyK.done (by kernel_rfl) ?_
              refine Run.cond rfl (fun c43 => ?_) (fun c43 => ?_)
              · skip
                replace c43 := nT c43
                refine Run.region ?_
                refine Ops.pure rfl (Pure.move rfl) ?_
                refine Ops.pure rfl (Pure.add rfl rfl (by omega) (by omega)) ?_
                refine Ops.pure rfl (Pure.assign rfl) ?_
                refine Ops.nil ?_
                refine Run.blk ?_
                refine Run.region ?_
                refine Ops.pure rfl (Pure.move rfl) ?_
                refine Ops.pure rfl (Pure.add rfl rfl (by omega) (by omega)) ?_
                refine Ops.pure rfl (Pure.assign rfl) ?_
                refine Ops.nil ?_
                refine Run.asrt ?_
                first
                  | exact ⟨k + 1, ⟨by omega, by omega⟩, ⟨rfl, rfl, congrArg (fun x => some (Value.int .i64 x)) (by rw [difN_diff c43]; omega), rfl, trivial⟩, Ext.refl _⟩
                  | exact ⟨k + 1, ⟨by omega, by omega⟩, ⟨rfl, rfl, congrArg (fun x => some (Value.int .i64 x)) (by rw [difN_same (by omega)]), rfl, trivial⟩, Ext.refl _⟩
              · skip
                replace c43 := nF c43
                refine Run.skip ?_
                refine Run.blk ?_
                refine Run.region ?_
                refine Ops.pure rfl (Pure.move rfl) ?_
                refine Ops.pure rfl (Pure.add rfl rfl (by omega) (by omega)) ?_
                refine Ops.pure rfl (Pure.assign rfl) ?_
                refine Ops.nil ?_
                refine Run.asrt ?_
                first
                  | exact ⟨k + 1, ⟨by omega, by omega⟩, ⟨rfl, rfl, congrArg (fun x => some (Value.int .i64 x)) (by rw [difN_diff c43]; omega), rfl, trivial⟩, Ext.refl _⟩
                  | exact ⟨k + 1, ⟨by omega, by omega⟩, ⟨rfl, rfl, congrArg (fun x => some (Value.int .i64 x)) (by rw [difN_same (by omega)]), rfl, trivial⟩, Ext.refl _⟩
            · skip
              replace c30 := dF c30
              refine Run.exit rfl ?_
              refine Run.seq ?_
              refine Run.region ?_
              refine Ops.pure rfl (Pure.move rfl) ?_
              refine Ops.pure rfl (Pure.assign rfl) ?_
              refine Ops.pure rfl (Pure.assign rfl) ?_
              refine Ops.nil ?_
              refine Run.ret2 rfl rfl rfl ?_
              have e : k = l.length := by omega
              subst e
              rw [(ds_ok hok hab).1, (ds_ok hok hab).2]
      · skip
        replace c19 := Bool.eq_true_of_ne c19
        have c19' := nT c19
        refine Ops.guardN rfl rfl rfl rfl (by rw [c19]; decide) ?_
        refine Ops.guardN rfl rfl rfl rfl (by rw [c19]; decide) ?_
        refine Ops.guardN rfl rfl rfl rfl (by rw [c19]; decide) ?_
        refine Ops.guardN rfl rfl rfl rfl (by rw [c19]; decide) ?_
        refine Ops.pure rfl (Pure.pickT rfl c19 rfl) ?_
        refine Ops.nil ?_
        refine Run.condE rfl rfl ?_
        refine Run.seq ?_
        refine Run.region ?_
        refine Ops.pure rfl (Pure.assign rfl) ?_
        refine Ops.pure rfl (Pure.assign rfl) ?_
        refine Ops.nil ?_
        refine Run.ret2 rfl rfl rfl ?_
        have hns : ¬ (a = a' ∧ b = b') := by first | omega | (simp_all; done) | (intro hh; simp_all; done)
        rw [(ds_size hok hns).1, (ds_size hok hns).2]
  · skip
    replace c10 := Bool.eq_true_of_ne c10
    have c10' := bT c10
    refine Ops.guardN rfl rfl rfl rfl (by rw [c10]; decide) ?_
    refine Ops.pure rfl (Pure.pickT rfl c10 rfl) ?_
    refine Ops.nil ?_
    refine Run.condE rfl rfl ?_
    refine Run.seq ?_
    refine Run.region ?_
    refine Ops.pure rfl (Pure.assign rfl) ?_
    refine Ops.pure rfl (Pure.assign rfl) ?_
    refine Ops.nil ?_
    refine Run.ret2 rfl rfl rfl ?_
    have hno : ¬ (okP a b l = true ∧ okP a' b' l' = true) := by first | (simp_all; done) | (intro hh; simp_all; done)
    rw [(ds_bad hno).1, (ds_bad hno).2]

set_option maxRecDepth 4000 in
/-- spec.DrawSharedPoints -/
theorem f_s_DrawSharedPoints (w : World) (vc : Value) (co : List Int) (hc : Rd w vc 1 co.length (AW.bytes co)) (hb : ∀ x ∈ co, 0 ≤ x ∧ x ≤ 255) (hcl : co.length ≤ 1000000000) : Ret Try.prog 57 [vc] w (fun u L => ∃ (a c : Int) (l : List Int) (v : Value) (x y : Int), -9223372036854775808 ≤ a ∧ a ≤ 9 ∧ 1 ≤ c ∧ c ≤ 9 ∧ l.length ≤ 120 ∧ v.oneCell' = true ∧ -1 ≤ x ∧ x ≤ 4 ∧ 0 ≤ y ∧ y ≤ 4 ∧ u = .tuple #[.agg #[.int .i64 a, .int .i64 c, v], .int .i64 x, .int .i64 y] ∧ L = [.row 2 1 v l.length (ints l)]) := by
  have hv1 := hc.one
  refine Ret.enter Try.func57 rfl Try.ntmps57 rfl ?_
  refine Run.seq ?_
  refine Run.region ?_
  refine Ops.go rfl (Loud.alloc zero35 rfl) ?_
  rintro _ _ ⟨b2, rfl, rfl⟩
  refine Ops.pure rfl (Pure.assign rfl) ?_
  refine Ops.pure rfl (Pure.assign rfl) ?_
  refine Ops.nil ?_
  refine Run.seq ?_
  refine Run.region ?_
  refine Ops.pure rfl (Pure.move rfl) ?_
  refine Ops.go rfl (Loud.callR fn87 rfl (fun w hw => f_s_l00From w vc co hv1)) ?_
  rintro v9 _ ⟨L9, hQ9, rfl⟩
  obtain ⟨s9, rfl, rfl⟩ := hQ9
  refine Ops.pure rfl (Pure.assign rfl) ?_
  refine Ops.nil ?_
  refine Run.seq ?_
  refine Run.region ?_
  refine Ops.pure rfl (Pure.move rfl) ?_
  refine Ops.go rfl (Loud.callO fn120 rfl (fun w hw => f_s_l02Bent _ w _ vc co _ _ _ (Sat.front 0 rfl hw) hc hb hcl (by omega))) ?_
  rintro v11 L11 hQ11
  obtain ⟨a11, c11, l11, x11, q11, sd11, ha11, hA11, hc11, hC11, hn11, h11, hq11, rfl, rfl⟩ := hQ11
  refine Ops.go rfl (Loud.alloc zero35 rfl) ?_
  rintro _ _ ⟨b6, rfl, rfl⟩
  refine Ops.store (Stores.box 0 rfl rfl rfl size35 (one3 h11) rfl rfl) ?_
  refine Ops.nil ?_
  refine Run.seq ?_
  refine Run.region ?_
  refine Ops.pure rfl (Pure.move rfl) ?_
  refine Ops.go rfl (Loud.callO fn118 rfl (fun w hw => f_s_l00Src_pick _ w _ vc co _ _ _ 4 (Sat.front 2 rfl hw) hc hb hcl (by omega) (by omega))) ?_
  rintro v13 L13 hQ13
  obtain ⟨x13, q13, sd13, hx13, hy13, hq13, rfl, rfl⟩ := hQ13
  refine Ops.pure rfl (Pure.move rfl) ?_
  refine Ops.go rfl (Loud.callO fn118 rfl (fun w hw => f_s_l00Src_pick _ w _ vc co _ _ _ 12 (Sat.front 0 rfl hw) hc hb hcl (by omega) (by omega))) ?_
  rintro v15 L15 hQ15
  obtain ⟨x15, q15, sd15, hx15, hy15, hq15, rfl, rfl⟩ := hQ15
  refine Ops.pure rfl (Pure.quo rfl rfl (by omega) (by omega) (by omega)) ?_
  refine Ops.pure rfl (Pure.sub rfl rfl (by omega) (by omega)) ?_
  refine Ops.pure rfl (Pure.assign rfl) ?_
  refine Ops.nil ?_
  refine Run.seq ?_
  refine AnyK.start ([.box b6 35 [.int .i64 a11, .int .i64 c11, x11]]) follows (Ext.take 1 rfl (Ext.nil _)) ?_
  refine AnyK.take 0 rfl (by kernel_rfl) rfl (QOp.pure (Pure.ldBA 0 rfl cell35 rfl rfl rfl)) ?_
  refine AnyK.take 1 rfl (by kernel_rfl) rfl (QOp.pure (Pure.move rfl)) ?_
  refine AnyK.take 2 rfl (by kernel_rfl) rfl (QOp.pure (Pure.move rfl)) ?_
  refine AnyK.one 3 (by kernel_rfl) ?_
  refine OneK.loud rfl rfl (Loud.callO fn118 rfl (fun w hw => f_s_l00Src_pick _ w _ vc co _ _ _ 4 (Sat.front 0 rfl hw) hc hb hcl (by omega) (by omega))) ?_
  rintro v21 L21 hQ21
  obtain ⟨x21, q21, sd21, hx21, hy21, hq21, rfl, rfl⟩ := hQ21
  refine ⟨(by first | exact Ext.take 1 rfl (Ext.nil _) | exact Ext.take 0 rfl (Ext.nil _)), ?_⟩
  refine AnyK.one 4 (by kernel_rfl) ?_
  refine OneK.store rfl (Stores.box 3 rfl rfl rfl size35 (one3 h11) rfl rfl) (by first | exact Ext.take 1 rfl (Ext.nil _) | exact Ext.take 0 rfl (Ext.nil _)) ?_
  refine AnyK.take 5 rfl (by kernel_rfl) rfl (QOp.pure (Pure.assign rfl)) ?_
  refine AnyK.take 6 rfl (by kernel_rfl) rfl (QOp.pure (Pure.assign rfl)) ?_
  refine AnyK.done (by kernel_rfl) ?_
  refine Run.retC2x 3 rfl rfl rfl rfl rfl cell35 rfl (Ext.take 2 rfl (Ext.nil _)) ?_
  exact ⟨a11, c11, l11, x11, _, _, by omega, by omega, by omega, by omega, by omega, h11, by omega, by omega, by omega, by omega, rfl, rfl⟩

set_option maxRecDepth 4000 in
/-- spec.DrawCurvePoints -/
theorem f_s_DrawCurvePoints (w : World) (vc : Value) (co : List Int) (hc : Rd w vc 1 co.length (AW.bytes co)) (hb : ∀ x ∈ co, 0 ≤ x ∧ x ≤ 255) (hcl : co.length ≤ 1000000000) : Ret Try.prog 60 [vc] w (fun u L => ∃ (a c : Int) (l : List Int) (v : Value) (x : Int), -9223372036854775808 ≤ a ∧ a ≤ 9 ∧ 1 ≤ c ∧ c ≤ 9 ∧ l.length ≤ 120 ∧ v.oneCell' = true ∧ -1 ≤ x ∧ x ≤ 5 ∧ u = .tuple #[.agg #[.int .i64 a, .int .i64 c, v], .int .i64 x] ∧ L = [.row 2 1 v l.length (ints l)]) := by
  have hv1 := hc.one
  refine Ret.enter Try.func60 rfl Try.ntmps60 rfl ?_
  refine Run.seq ?_
  refine Run.region ?_
  refine Ops.go rfl (Loud.alloc zero35 rfl) ?_
  rintro _ _ ⟨b2, rfl, rfl⟩
  refine Ops.pure rfl (Pure.assign rfl) ?_
  refine Ops.nil ?_
  refine Run.seq ?_
  refine Run.region ?_
  refine Ops.pure rfl (Pure.move rfl) ?_
  refine Ops.go rfl (Loud.callR fn87 rfl (fun w hw => f_s_l00From w vc co hv1)) ?_
  rintro v7 _ ⟨L7, hQ7, rfl⟩
  obtain ⟨s7, rfl, rfl⟩ := hQ7
  refine Ops.pure rfl (Pure.assign rfl) ?_
  refine Ops.nil ?_
  refine Run.seq ?_
  refine Run.region ?_
  refine Ops.pure rfl (Pure.move rfl) ?_
  refine Ops.go rfl (Loud.callO fn120 rfl (fun w hw => f_s_l02Bent _ w _ vc co _ _ _ (Sat.front 0 rfl hw) hc hb hcl (by omega))) ?_
  rintro v9 L9 hQ9
  obtain ⟨a9, c9, l9, x9, q9, sd9, ha9, hA9, hc9, hC9, hn9, h9, hq9, rfl, rfl⟩ := hQ9
  refine Ops.go rfl (Loud.alloc zero35 rfl) ?_
  rintro _ _ ⟨b5, rfl, rfl⟩
  refine Ops.store (Stores.box 0 rfl rfl rfl size35 (one3 h9) rfl rfl) ?_
  refine Ops.nil ?_
  refine Run.seq ?_
  refine AnyK.start ([.box b5 35 [.int .i64 a9, .int .i64 c9, x9]]) follows (Ext.take 0 rfl (Ext.nil _)) ?_
  refine AnyK.take 0 rfl (by kernel_rfl) rfl (QOp.pure (Pure.ldBA 0 rfl cell35 rfl rfl rfl)) ?_
  refine AnyK.take 1 rfl (by kernel_rfl) rfl (QOp.pure (Pure.move rfl)) ?_
  refine AnyK.take 3 rfl (by kernel_rfl) rfl (QOp.pure (Pure.move rfl)) ?_
  refine AnyK.one 2 (by kernel_rfl) ?_
  refine OneK.loud rfl rfl (Loud.callO fn118 rfl (fun w hw => f_s_l00Src_pick _ w _ vc co _ _ _ 5 (Sat.front 2 rfl hw) hc hb hcl (by omega) (by omega))) ?_
  rintro v12 L12 hQ12
  obtain ⟨x12, q12, sd12, hx12, hy12, hq12, rfl, rfl⟩ := hQ12
  refine ⟨(by first | exact Ext.take 1 rfl (Ext.nil _) | exact Ext.take 0 rfl (Ext.nil _)), ?_⟩
  refine AnyK.one 4 (by kernel_rfl) ?_
  refine OneK.loud rfl rfl (Loud.callO fn118 rfl (fun w hw => f_s_l00Src_pick _ w _ vc co _ _ _ 12 (Sat.front 0 rfl hw) hc hb hcl (by omega) (by omega))) ?_
  rintro v14 L14 hQ14
  obtain ⟨x14, q14, sd14, hx14, hy14, hq14, rfl, rfl⟩ := hQ14
  refine ⟨(by first | exact Ext.take 1 rfl (Ext.nil _) | exact Ext.take 0 rfl (Ext.nil _)), ?_⟩
  refine AnyK.take 5 rfl (by kernel_rfl) rfl (QOp.pure (Pure.quo rfl rfl (by omega) (by omega) (by omega))) ?_
  refine AnyK.take 6 rfl (by kernel_rfl) rfl (QOp.pure (Pure.sub rfl rfl (by omega) (by omega))) ?_
  refine AnyK.one 7 (by kernel_rfl) ?_
  refine OneK.store rfl (Stores.box 3 rfl rfl rfl size35 (one3 h9) rfl rfl) (by first | exact Ext.take 1 rfl (Ext.nil _) | exact Ext.take 0 rfl (Ext.nil _)) ?_
  refine AnyK.take 8 rfl (by kernel_rfl) rfl (QOp.pure (Pure.assign rfl)) ?_
  refine AnyK.done (by kernel_rfl) ?_
  refine Run.retC1x 3 rfl rfl rfl rfl cell35 rfl (Ext.take 2 rfl (Ext.nil _)) ?_
  exact ⟨a9, c9, l9, x9, _, by omega, by omega, by omega, by omega, by omega, h9, by omega, by omega, rfl, rfl⟩

end Go.Proofs.Ytmfinopdokkjcaa
