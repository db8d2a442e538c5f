/- Contracts of functions, printed by program from annotations. -/
import Derived.Test.YtkplanpcmkbfiaaSeaJ
namespace Go.Proofs.Ytkplanpcmkbfiaa
open Go Go.AW Go.RowKit
set_option linter.unusedVariables false
set_option linter.unusedSimpArgs false

/-- the code of a search -/
def scE (a b : Int) (l : List Int) (c e : Int) : Int := if okP a b l = true then (if (1 ≤ c ∧ c ≤ 1000) ∧ (0 ≤ e ∧ e ≤ 3) then (if l.length ≤ 12 then 0 else 5) else 2) else 1
theorem sc_bad {a b c e : Int} {l : List Int} (h : okP a b l = false) : scE a b l c e = 1 := by unfold scE; rw [if_neg (by rw [h]; decide)]
theorem sc_out {a b c e : Int} {l : List Int} (h : okP a b l = true) (hc : ¬ ((1 ≤ c ∧ c ≤ 1000) ∧ (0 ≤ e ∧ e ≤ 3))) : scE a b l c e = 2 := by unfold scE; rw [if_pos h, if_neg hc]
theorem sc_big {a b c e : Int} {l : List Int} (h : okP a b l = true) (hc : (1 ≤ c ∧ c ≤ 1000) ∧ (0 ≤ e ∧ e ≤ 3)) (hl : 12 < (l.length : Int)) : scE a b l c e = 5 := by unfold scE; rw [if_pos h, if_pos hc, if_neg (by omega)]
theorem sc_ok {a b c e : Int} {l : List Int} (h : okP a b l = true) (hc : (1 ≤ c ∧ c ≤ 1000) ∧ (0 ≤ e ∧ e ≤ 3)) (hl : ¬ 12 < (l.length : Int)) : scE a b l c e = 0 := by unfold scE; rw [if_pos h, if_pos hc, if_pos (by omega)]
theorem sc_zero {a b c e : Int} {l : List Int} (h : scE a b l c e = 0) : okP a b l = true ∧ (1 ≤ c ∧ c ≤ 1000) ∧ (0 ≤ e ∧ e ≤ 3) ∧ l.length ≤ 12 := by
  unfold scE at h
  split at h
  · split at h
    · split at h
      · exact ⟨by assumption, (by assumption : _ ∧ _).1, (by assumption : _ ∧ _).2, by assumption⟩
      · omega
    · omega
  · omega
/-- how many lists of edits lead to a number of curves -/
def ceN (a b : Int) (l : List Int) (c e : Int) : Int := if scE a b l c e = 0 then ((cnL a b c (lv e.toNat 0 [] l) : Nat) : Int) else 0
theorem ce_bad {a b c e : Int} {l : List Int} (h : ¬ scE a b l c e = 0) : ceN a b l c e = 0 := by unfold ceN; rw [if_neg h]
theorem ce_ok {a b c : Int} {l : List Int} {M : Nat} (h : scE a b l c M = 0) : ceN a b l c M = ((cnL a b c (lv M 0 [] l) : Nat) : Int) := by unfold ceN; rw [if_pos h, Int.toNat_natCast]
/-- the numbers of curves after each single edit -/
def caL (a b : Int) (l : List Int) : List Int := if scE a b l 1 1 = 0 then alL a b (lv 1 0 [] l) else []
theorem sc_01 (a b : Int) (l : List Int) : scE a b l 1 0 = scE a b l 1 1 := by
  unfold scE
  rw [if_pos (show ((1 : Int) ≤ 1 ∧ (1 : Int) ≤ 1000) ∧ ((0 : Int) ≤ 0 ∧ (0 : Int) ≤ 3) by decide), if_pos (show ((1 : Int) ≤ 1 ∧ (1 : Int) ≤ 1000) ∧ ((0 : Int) ≤ 1 ∧ (1 : Int) ≤ 3) by decide)]
theorem ca_bad {a b : Int} {l : List Int} (h : ¬ scE a b l 1 1 = 0) : caL a b l = [] := by unfold caL; rw [if_neg h]
theorem ca_ok {a b : Int} {l : List Int} (h : scE a b l 1 1 = 0) : caL a b l = alL a b (lv 1 0 [] l) := by unfold caL; rw [if_pos h]
/-- the least and the greatest number of curves -/
def crgE (a b : Int) (l : List Int) (e : Int) : Int := if scE a b l 1 e = 0 then (if lv e.toNat 0 [] l = [] then 3 else 0) else scE a b l 1 e
def crgV (a b : Int) (l : List Int) (e x : Int) : Int := if crgE a b l e = 0 then x else 0
theorem crg_bad {a b e : Int} {l : List Int} (h : ¬ scE a b l 1 e = 0) : crgE a b l e = scE a b l 1 e ∧ ∀ x, crgV a b l e x = 0 := by
  have h1 : crgE a b l e = scE a b l 1 e := by unfold crgE; rw [if_neg h]
  exact ⟨h1, fun x => by unfold crgV; rw [h1, if_neg h]⟩
theorem crg_none {a b : Int} {l : List Int} {M : Nat} (h : scE a b l 1 M = 0) (hn : lv M 0 [] l = []) : crgE a b l M = 3 ∧ ∀ x, crgV a b l M x = 0 := by
  have h1 : crgE a b l M = 3 := by unfold crgE; rw [if_pos h, Int.toNat_natCast, if_pos hn]
  exact ⟨h1, fun x => by unfold crgV; rw [h1]; rfl⟩
theorem crg_ok {a b : Int} {l : List Int} {M : Nat} (h : scE a b l 1 M = 0) (hn : ¬ lv M 0 [] l = []) : crgE a b l M = 0 ∧ ∀ x, crgV a b l M x = x := by
  have h1 : crgE a b l M = 0 := by unfold crgE; rw [if_pos h, Int.toNat_natCast, if_neg hn]
  exact ⟨h1, fun x => by unfold crgV; rw [h1]; rfl⟩
theorem alL_pos {a b : Int} {l : List Int} (hk : okP a b l = true) (M : Nat) : ∀ x ∈ alL a b (lv M 0 [] l), 1 ≤ x := by
  intro x hx
  unfold alL at hx
  obtain ⟨y, hy, rfl⟩ := List.mem_map.1 hx
  have h1 := okP_size (lv_ok M 0 [] l hk y hy)
  have := cnt_pos (l := y.2) h1.1 h1.2.2.1
  omega
theorem alL_nil {a b : Int} {d : List Lf} : alL a b d = [] ↔ d = [] := by
  unfold alL
  rw [List.map_eq_nil_iff]
theorem most_iff {a b : Int} {l : List Int} (hk : okP a b l = true) (M : Nat) : mostL (alL a b (lv M 0 [] l)) = 0 ↔ lv M 0 [] l = [] := (leastL_pos _ rfl (alL_pos hk M)).2.2.1.trans alL_nil
/-- the fewest edits -/
def feF (a b : Int) (l : List Int) (c e : Int) : Option Nat := if scE a b l c e = 0 then firstF (fun n => (cut (hitC a b c) (lv n 0 [] l)).2) (e.toNat + 1) 0 else none
def feE (a b : Int) (l : List Int) (c e : Int) : Int := if scE a b l c e = 0 then (if (feF a b l c e).isSome then 0 else 3) else scE a b l c e
def feL (a b : Int) (l : List Int) (c e : Int) : List (Int × Int) := match feF a b l c e with
  | some n => lastE (cut (hitC a b c) (lv n 0 [] l)).1
  | none => []
theorem fe_bad {a b c e : Int} {l : List Int} (h : ¬ scE a b l c e = 0) : feE a b l c e = scE a b l c e ∧ feL a b l c e = [] := by
  have h1 : feF a b l c e = none := by unfold feF; rw [if_neg h]
  exact ⟨by unfold feE; rw [if_neg h], by unfold feL; rw [h1]⟩
theorem fe_none {a b c : Int} {l : List Int} {M : Nat} (h : scE a b l c M = 0) (hn : ∀ j, j < M + 1 → (cut (hitC a b c) (lv j 0 [] l)).2 = false) : feE a b l c M = 3 ∧ feL a b l c M = [] := by
  have h1 : feF a b l c M = none := by unfold feF; rw [if_pos h, Int.toNat_natCast]; exact firstF_none (fun j _ hj => hn j (by omega))
  exact ⟨by unfold feE; rw [if_pos h, h1]; rfl, by unfold feL; rw [h1]⟩
theorem fe_some {a b c : Int} {l : List Int} {M k : Nat} (h : scE a b l c M = 0) (hk : k < M + 1) (hc : (cut (hitC a b c) (lv k 0 [] l)).2 = true) (hn : ∀ j, j < k → (cut (hitC a b c) (lv j 0 [] l)).2 = false) : feF a b l c M = some k ∧ feE a b l c M = 0 ∧ feL a b l c M = lastE (cut (hitC a b c) (lv k 0 [] l)).1 := by
  have h1 : feF a b l c M = some k := by unfold feF; rw [if_pos h, Int.toNat_natCast]; exact firstF_some (Nat.zero_le _) (by omega) hc (fun j _ hj => hn j hj)
  exact ⟨h1, by unfold feE; rw [if_pos h, h1]; rfl, by unfold feL; rw [h1]⟩
theorem cut_ne {hit : Lf → Bool} {A : List Lf} (h : (cut hit A).2 = true) : (cut hit A).1 ≠ [] := by
  obtain ⟨B, x, h1, _⟩ := cut_last h
  rw [h1]
  simp

set_option maxRecDepth 4000 in
/-- impl.searchCode -/
theorem f_i_searchCode (w : World) (a : Int) (b : Int) (v : Value) (l : List Int) (c : Int) (e : Int) (hv : Rd w v 1 l.length (ints l)) (hl : l.length ≤ 1073741824) (a0 : -9223372036854775808 ≤ a) (a1 : a ≤ 9223372036854775807) (b0 : -9223372036854775808 ≤ b) (b1 : b ≤ 9223372036854775807) : RetV Try.prog 72 [.agg #[.int .i64 a, .int .i64 b, v], .int .i64 c, .int .i64 e] w (.int .i64 (scE a b l c e)) := by
  refine Ret.enter Try.func72 rfl Try.ntmps72 rfl ?_
  refine Run.seq ?_
  refine Run.region ?_
  refine Ops.go rfl (Loud.box rfl rfl) ?_
  rintro _ _ ⟨b3, rfl, rfl⟩
  refine Ops.pure rfl (Pure.assign rfl) ?_
  refine Ops.nil ?_
  refine Run.seq ?_
  refine Run.seq ?_
  refine Run.region ?_
  refine Ops.pure rfl (Pure.ldBA 0 rfl cell28 rfl rfl rfl) ?_
  refine Ops.q rfl (QOp.call fn100 rfl (fun w hw => f_i_ValidPanel w _ _ _ _ (by exact RdL.old (by assumption) w hw) (by assumption) (by assumption) (by assumption) (by assumption) (by assumption))) ?_
  refine Ops.pure rfl (Pure.not rfl) ?_
  refine Ops.nil ?_
  refine Run.cond rfl (fun c9 => ?_) (fun c9 => ?_)
  · skip
    replace c9 := bT c9
    refine Run.seq ?_
    refine Run.region ?_
    refine Ops.pure rfl (Pure.assign rfl) ?_
    refine Ops.nil ?_
    refine Run.ret1 rfl rfl ?_
    rw [sc_bad (by simp_all)]
  · skip
    replace c9 := bF c9
    refine Run.skip ?_
    refine Run.seq ?_
    refine Run.seq ?_
    refine Run.region ?_
    refine Ops.pure rfl (Pure.move rfl) ?_
    refine Ops.q rfl (QOp.call fn128 rfl (fun w hw => f_i_inRange w _ _ _)) ?_
    refine Ops.pure rfl (Pure.not rfl) ?_
    refine Ops.pure rfl (Pure.move rfl) ?_
    refine Ops.guard rfl rfl rfl rfl (fun c13 => ?_) (fun c13 => ?_)
    · skip
      have c13' := nF c13
      refine Ops.pure rfl (Pure.move rfl) ?_
      refine Ops.guardY rfl rfl rfl c13 ?_
      refine Ops.q rfl (QOp.call fn128 rfl (fun w hw => f_i_inRange w _ _ _)) ?_
      refine Ops.guardY rfl rfl rfl c13 ?_
      refine Ops.pure rfl (Pure.not rfl) ?_
      refine Ops.pure rfl (Pure.pickF rfl c13 rfl) ?_
      refine Ops.nil ?_
      refine Run.cond rfl (fun c17 => ?_) (fun c17 => ?_)
      · skip
        replace c17 := nT c17
        refine Run.seq ?_
        refine Run.region ?_
        refine Ops.pure rfl (Pure.assign rfl) ?_
        refine Ops.nil ?_
        refine Run.ret1 rfl rfl ?_
        rw [sc_out (by simp_all) (by first | omega | (simp_all; omega))]
      · skip
        replace c17 := nF c17
        refine Run.skip ?_
        refine Run.seq ?_
        refine Run.seq ?_
        refine Run.region ?_
        refine Ops.pure rfl (Pure.fieldAddrB fld28_2 rfl) ?_
        refine Ops.pure rfl (Pure.ldB 0 rfl cell22 rfl rfl) ?_
        refine Ops.pure rfl (Pure.len sl22 (RdL.old hv) rfl) ?_
        refine Ops.pure rfl (Pure.gtr rfl rfl) ?_
        refine Ops.nil ?_
        refine Run.cond rfl (fun c21 => ?_) (fun c21 => ?_)
        · skip
          replace c21 := dT c21
          refine Run.seq ?_
          refine Run.region ?_
          refine Ops.pure rfl (Pure.assign rfl) ?_
          refine Ops.nil ?_
          refine Run.ret1 rfl rfl ?_
          rw [sc_big (by simp_all) (by first | omega | (simp_all; omega)) (by first | omega | (simp_all; omega))]
        · skip
          replace c21 := dF c21
          refine Run.skip ?_
          refine Run.seq ?_
          refine Run.region ?_
          refine Ops.pure rfl (Pure.assign rfl) ?_
          refine Ops.nil ?_
          refine Run.ret1 rfl rfl ?_
          rw [sc_ok (by simp_all) (by first | omega | (simp_all; omega)) (by first | omega | (simp_all; omega))]
    · skip
      replace c13 := Bool.eq_true_of_ne c13
      have c13' := nT c13
      refine Ops.guardN rfl rfl rfl rfl (by rw [c13]; decide) ?_
      refine Ops.guardN rfl rfl rfl rfl (by rw [c13]; decide) ?_
      refine Ops.pure rfl (Pure.pickT rfl c13 rfl) ?_
      refine Ops.nil ?_
      refine Run.condE rfl rfl ?_
      refine Run.seq ?_
      refine Run.region ?_
      refine Ops.pure rfl (Pure.assign rfl) ?_
      refine Ops.nil ?_
      refine Run.ret1 rfl rfl ?_
      rw [sc_out (by simp_all) (by first | omega | (simp_all; omega))]

set_option maxRecDepth 4000 in
/-- impl.CountEdits -/
theorem f_i_CountEdits (w : World) (a : Int) (b : Int) (v : Value) (l : List Int) (c : Int) (e : Int) (hv : Rd w v 1 l.length (ints l)) (hl : l.length ≤ 1073741824) (a0 : -9223372036854775808 ≤ a) (a1 : a ≤ 9223372036854775807) (b0 : -9223372036854775808 ≤ b) (b1 : b ≤ 9223372036854775807) (e0 : -9223372036854775808 ≤ e) (e1 : e ≤ 9223372036854775807) : RetV Try.prog 25 [.agg #[.int .i64 a, .int .i64 b, v], .int .i64 c, .int .i64 e] w (.tuple #[.int .i64 (ceN a b l c e), .int .i64 (scE a b l c e)]) := by
  refine Ret.enter Try.func25 rfl Try.ntmps25 rfl ?_
  refine Run.seq ?_
  refine Run.region ?_
  refine Ops.go rfl (Loud.box rfl rfl) ?_
  rintro _ _ ⟨b3, rfl, rfl⟩
  refine Ops.go rfl (Loud.box rfl rfl) ?_
  rintro _ _ ⟨b4, rfl, rfl⟩
  refine Ops.pure rfl (Pure.assign rfl) ?_
  refine Ops.pure rfl (Pure.assign rfl) ?_
  refine Ops.nil ?_
  refine Run.seq ?_
  refine Run.seq ?_
  refine Run.region ?_
  refine Ops.pure rfl (Pure.ldBA 1 rfl cell28 rfl rfl rfl) ?_
  refine Ops.pure rfl (Pure.ldB 0 rfl cell2 rfl rfl) ?_
  refine Ops.pure rfl (Pure.move rfl) ?_
  refine Ops.q rfl (QOp.call fn72 rfl (fun w hw => f_i_searchCode w _ _ _ _ _ _ (by exact RdL.old (by assumption) w hw) (by assumption) (by assumption) (by assumption) (by assumption) (by assumption))) ?_
  refine Ops.pure rfl (Pure.assign rfl) ?_
  refine Ops.nil ?_
  refine Run.seq ?_
  refine Run.region ?_
  refine Ops.pure rfl (Pure.move rfl) ?_
  refine Ops.pure rfl (Pure.neq rfl rfl) ?_
  refine Ops.nil ?_
  refine Run.cond rfl (fun c15 => ?_) (fun c15 => ?_)
  · skip
    replace c15 := nT c15
    refine Run.seq ?_
    refine Run.region ?_
    refine Ops.pure rfl (Pure.move rfl) ?_
    refine Ops.pure rfl (Pure.assign rfl) ?_
    refine Ops.pure rfl (Pure.assign rfl) ?_
    refine Ops.nil ?_
    refine Run.ret2 rfl rfl rfl ?_
    rw [ce_bad c15]
  · skip
    replace c15 := nF c15
    obtain ⟨hok, hcc, hee, hl12⟩ := sc_zero c15
    obtain ⟨M, rfl⟩ := Int.eq_ofNat_of_zero_le hee.1
    have hvo := hv.one
    refine Run.skip ?_
    refine Run.seq ?_
    refine Run.region ?_
    refine Ops.go rfl (Loud.alloc zero2 rfl) ?_
    rintro _ _ ⟨b9, rfl, rfl⟩
    refine Ops.store (Stores.box 0 rfl rfl rfl size2 (allOne rfl) rfl rfl) ?_
    refine Ops.nil ?_
    refine Run.seq ?_
    refine Run.region ?_
    refine Ops.pure rfl (Pure.ldBA 2 rfl cell28 rfl rfl rfl) ?_
    refine Ops.pure rfl (Pure.move rfl) ?_
    refine Ops.pure rfl (Pure.makeFuncN rfl) ?_
    refine Ops.go rfl (Loud.callO fn73 rfl (fun w hw => f_each _ w a b v l M (fun _ => false) _ _ _ (fun d : List Lf => [.box b9 2 [.int .i64 ((cnL a b c d : Nat) : Int)], .box b4 2 [.int .i64 c]]) _ [.box b3 28 [.int .i64 a, .int .i64 b, v]] [] fn77 see_ce (by omega) hl12 hw rfl hok (RdL.old hv) hvo)) ?_
    rintro v20 L20 hQ20
    rw [cut_none (fun _ => rfl)] at hQ20
    obtain ⟨x20, rfl, hx20, rfl⟩ := hQ20
    subst hx20
    refine Ops.nil ?_
    refine Run.seq ?_
    refine Run.region ?_
    refine Ops.pure rfl (Pure.ldB 0 rfl cell2 rfl rfl) ?_
    refine Ops.pure rfl (Pure.assign rfl) ?_
    refine Ops.pure rfl (Pure.assign rfl) ?_
    refine Ops.nil ?_
    refine Run.ret2 rfl rfl rfl ?_
    rw [ce_ok c15, c15]

set_option maxRecDepth 4000 in
/-- impl.CurvesAfter -/
theorem f_i_CurvesAfter (w : World) (a : Int) (b : Int) (v : Value) (l : List Int) (hv : Rd w v 1 l.length (ints l)) (hl : l.length ≤ 1073741824) (a0 : -9223372036854775808 ≤ a) (a1 : a ≤ 9223372036854775807) (b0 : -9223372036854775808 ≤ b) (b1 : b ≤ 9223372036854775807) : Ret Try.prog 16 [.agg #[.int .i64 a, .int .i64 b, v]] w (retI (caL a b l) (scE a b l 1 1)) := by
  refine Ret.enter Try.func16 rfl Try.ntmps16 rfl ?_
  refine Run.seq ?_
  refine Run.region ?_
  refine Ops.go rfl (Loud.box rfl rfl) ?_
  rintro _ _ ⟨b1, rfl, rfl⟩
  refine Ops.pure rfl (Pure.assign rfl) ?_
  refine Ops.pure rfl (Pure.assign rfl) ?_
  refine Ops.nil ?_
  refine Run.seq ?_
  refine Run.seq ?_
  refine Run.region ?_
  refine Ops.pure rfl (Pure.ldBA 0 rfl cell28 rfl rfl rfl) ?_
  refine Ops.q rfl (QOp.call fn72 rfl (fun w hw => (f_i_searchCode w a b v l 1 0 (RdL.old hv w hw) hl a0 a1 b0 (by assumption)).cong (by rw [sc_01]))) ?_
  refine Ops.pure rfl (Pure.assign rfl) ?_
  refine Ops.nil ?_
  refine Run.seq ?_
  refine Run.region ?_
  refine Ops.pure rfl (Pure.move rfl) ?_
  refine Ops.pure rfl (Pure.neq rfl rfl) ?_
  refine Ops.nil ?_
  refine Run.cond rfl (fun c9 => ?_) (fun c9 => ?_)
  · skip
    replace c9 := nT c9
    refine Run.seq ?_
    refine Run.region ?_
    refine Ops.pure rfl (Pure.move rfl) ?_
    refine Ops.pure rfl (Pure.assign rfl) ?_
    refine Ops.pure rfl (Pure.assign rfl) ?_
    refine Ops.nil ?_
    refine Run.addNil 2 1 ?_
    refine Run.ext_ (Ext.take 0 rfl (Ext.nil _)) ?_
    refine Run.ret2 rfl rfl rfl ?_
    exact retI_nil (ca_bad c9)
  · skip
    replace c9 := nF c9
    obtain ⟨hok, hcc, hee, hl12⟩ := sc_zero c9
    have hvo := hv.one
    refine Run.skip ?_
    refine Run.seq ?_
    refine Run.region ?_
    refine Ops.go rfl (Loud.lit sl22 rfl rfl rfl (by simp [Value.oneCell'])) ?_
    rintro v11 _ rfl
    refine Ops.go rfl (Loud.alloc zero22 rfl) ?_
    rintro _ _ ⟨b5, rfl, rfl⟩
    refine Ops.have_ (fun w hw => row_one 1 hw rfl) (fun h11 => ?_)
    refine Ops.store (Stores.box1 0 rfl rfl rfl size22 h11 rfl) ?_
    refine Ops.nil ?_
    refine Run.seq ?_
    refine Run.region ?_
    refine Ops.pure rfl (Pure.ldBA 2 rfl cell28 rfl rfl rfl) ?_
    refine Ops.pure rfl (Pure.makeFunc1 rfl) ?_
    refine Ops.go rfl (Loud.callO fn73 rfl (fun w hw => f_each _ w a b v l 1 (fun _ => false) _ _ _ (fun x : Value × List Lf => [.box b5 22 [x.1], .row 2 1 x.1 x.2.length (ints (alL a b x.2))]) _ [.box b1 28 [.int .i64 a, .int .i64 b, v]] (v11, []) fn74 see_ca (by omega) hl12 hw rfl hok (RdL.old hv) hvo)) ?_
    rintro v14 L14 hQ14
    rw [cut_none (fun _ => rfl)] at hQ14
    obtain ⟨⟨x14, d14⟩, rfl, hx14, rfl⟩ := hQ14
    simp only at hx14
    subst hx14
    refine Ops.nil ?_
    refine Run.seq ?_
    refine Run.region ?_
    refine Ops.pure rfl (Pure.ldB 0 rfl cell22 rfl rfl) ?_
    refine Ops.pure rfl (Pure.assign rfl) ?_
    refine Ops.pure rfl (Pure.assign rfl) ?_
    refine Ops.nil ?_
    refine Run.ext_ (Ext.take 1 rfl (Ext.nil _)) ?_
    refine Run.ret2 rfl rfl rfl ?_
    rw [ca_ok c9, c9]
    exact ⟨_, rfl, by rw [length_alL]⟩

set_option maxRecDepth 4000 in
/-- impl.CurveRange -/
theorem f_i_CurveRange (w : World) (a : Int) (b : Int) (v : Value) (l : List Int) (e : Int) (hv : Rd w v 1 l.length (ints l)) (hl : l.length ≤ 1073741824) (a0 : -9223372036854775808 ≤ a) (a1 : a ≤ 9223372036854775807) (b0 : -9223372036854775808 ≤ b) (b1 : b ≤ 9223372036854775807) (e0 : -9223372036854775808 ≤ e) (e1 : e ≤ 9223372036854775807) : RetV Try.prog 23 [.agg #[.int .i64 a, .int .i64 b, v], .int .i64 e] w (.tuple #[.int .i64 (crgV a b l e (leastL (alL a b (lv e.toNat 0 [] l)))), .int .i64 (crgV a b l e (mostL (alL a b (lv e.toNat 0 [] l)))), .int .i64 (crgE a b l e)]) := by
  refine Ret.enter Try.func23 rfl Try.ntmps23 rfl ?_
  refine Run.seq ?_
  refine Run.region ?_
  refine Ops.go rfl (Loud.box rfl rfl) ?_
  rintro _ _ ⟨b2, rfl, rfl⟩
  refine Ops.pure rfl (Pure.assign rfl) ?_
  refine Ops.pure rfl (Pure.assign rfl) ?_
  refine Ops.pure rfl (Pure.assign rfl) ?_
  refine Ops.nil ?_
  refine Run.seq ?_
  refine Run.seq ?_
  refine Run.region ?_
  refine Ops.pure rfl (Pure.ldBA 0 rfl cell28 rfl rfl rfl) ?_
  refine Ops.pure rfl (Pure.move rfl) ?_
  refine Ops.q rfl (QOp.call fn72 rfl (fun w hw => f_i_searchCode w _ _ _ _ _ _ (by exact RdL.old (by assumption) w hw) (by assumption) (by assumption) (by assumption) (by assumption) (by assumption))) ?_
  refine Ops.pure rfl (Pure.assign rfl) ?_
  refine Ops.nil ?_
  refine Run.seq ?_
  refine Run.region ?_
  refine Ops.pure rfl (Pure.move rfl) ?_
  refine Ops.pure rfl (Pure.neq rfl rfl) ?_
  refine Ops.nil ?_
  refine Run.cond rfl (fun c14 => ?_) (fun c14 => ?_)
  · skip
    replace c14 := nT c14
    refine Run.seq ?_
    refine Run.region ?_
    refine Ops.pure rfl (Pure.move rfl) ?_
    refine Ops.pure rfl (Pure.assign rfl) ?_
    refine Ops.pure rfl (Pure.assign rfl) ?_
    refine Ops.pure rfl (Pure.assign rfl) ?_
    refine Ops.nil ?_
    refine Run.ret3 rfl rfl rfl rfl ?_
    obtain ⟨e1, e2⟩ := crg_bad c14
    rw [e1, e2, e2]
  · skip
    replace c14 := nF c14
    obtain ⟨hok, hcc, hee, hl12⟩ := sc_zero c14
    obtain ⟨M, rfl⟩ := Int.eq_ofNat_of_zero_le hee.1
    have hvo := hv.one
    have hmi := most_iff hok M
    rw [Int.toNat_natCast]
    refine Run.skip ?_
    refine Run.seq ?_
    refine Run.region ?_
    refine Ops.go rfl (Loud.alloc zero2 rfl) ?_
    rintro _ _ ⟨b8, rfl, rfl⟩
    refine Ops.go rfl (Loud.alloc zero2 rfl) ?_
    rintro _ _ ⟨b9, rfl, rfl⟩
    refine Ops.store (Stores.box 1 rfl rfl rfl size2 (allOne rfl) rfl rfl) ?_
    refine Ops.store (Stores.box 0 rfl rfl rfl size2 (allOne rfl) rfl rfl) ?_
    refine Ops.nil ?_
    refine Run.seq ?_
    refine Run.region ?_
    refine Ops.pure rfl (Pure.ldBA 2 rfl cell28 rfl rfl rfl) ?_
    refine Ops.pure rfl (Pure.move rfl) ?_
    refine Ops.pure rfl (Pure.makeFuncN rfl) ?_
    refine Ops.go rfl (Loud.callO fn73 rfl (fun w hw => f_each _ w a b v l M (fun _ => false) _ _ _ (fun d : List Lf => [.box b8 2 [.int .i64 (leastL (alL a b d))], .box b9 2 [.int .i64 (mostL (alL a b d))]]) _ [.box b2 28 [.int .i64 a, .int .i64 b, v]] [] fn76 see_cr (by omega) hl12 (Sat.front 1 rfl hw) rfl hok (RdL.old hv) hvo)) ?_
    rintro v19 L19 hQ19
    rw [cut_none (fun _ => rfl)] at hQ19
    obtain ⟨x19, rfl, hx19, rfl⟩ := hQ19
    subst hx19
    refine Ops.nil ?_
    refine Run.seq ?_
    refine Run.seq ?_
    refine Run.region ?_
    refine Ops.pure rfl (Pure.ldB 1 rfl cell2 rfl rfl) ?_
    refine Ops.pure rfl (Pure.eql rfl rfl) ?_
    refine Ops.nil ?_
    refine Run.cond rfl (fun c21 => ?_) (fun c21 => ?_)
    · skip
      replace c21 := dT c21
      refine Run.seq ?_
      refine Run.region ?_
      refine Ops.pure rfl (Pure.assign rfl) ?_
      refine Ops.pure rfl (Pure.assign rfl) ?_
      refine Ops.pure rfl (Pure.assign rfl) ?_
      refine Ops.nil ?_
      refine Run.ret3 rfl rfl rfl rfl ?_
      obtain ⟨e1, e2⟩ := crg_none c14 (hmi.1 c21)
      rw [e1, e2, e2]
    · skip
      replace c21 := dF c21
      refine Run.skip ?_
      refine Run.seq ?_
      refine Any.start follows ?_
      refine Any.take 0 rfl (by kernel_rfl) rfl (QOp.pure (Pure.ldB 0 rfl cell2 rfl rfl)) ?_
      refine Any.take 1 rfl (by kernel_rfl) rfl (QOp.pure (Pure.ldB 1 rfl cell2 rfl rfl)) ?_
      refine Any.take 2 rfl (by kernel_rfl) rfl (QOp.pure (Pure.assign rfl)) ?_
      refine Any.take 3 rfl (by kernel_rfl) rfl (QOp.pure (Pure.assign rfl)) ?_
      refine Any.take 4 rfl (by kernel_rfl) rfl (QOp.pure (Pure.assign rfl)) ?_
      refine Any.done (by kernel_rfl) ?_
      refine Run.ret3 rfl rfl rfl rfl ?_
      obtain ⟨e1, e2⟩ := crg_ok c14 (fun h => c21 (hmi.2 h))
      rw [e1, e2, e2]

set_option maxRecDepth 4000 in
/-- impl.FewestEdits -/
theorem f_i_FewestEdits (w : World) (a : Int) (b : Int) (v : Value) (l : List Int) (c : Int) (e : Int) (hv : Rd w v 1 l.length (ints l)) (hl : l.length ≤ 1073741824) (a0 : -9223372036854775808 ≤ a) (a1 : a ≤ 9223372036854775807) (b0 : -9223372036854775808 ≤ b) (b1 : b ≤ 9223372036854775807) (e0 : -9223372036854775808 ≤ e) (e1 : e ≤ 9223372036854775807) : Ret Try.prog 27 [.agg #[.int .i64 a, .int .i64 b, v], .int .i64 c, .int .i64 e] w (retE (feL a b l c e) (feE a b l c e)) := by
  refine Ret.enter Try.func27 rfl Try.ntmps27 rfl ?_
  refine Run.seq ?_
  refine Run.region ?_
  refine Ops.go rfl (Loud.box rfl rfl) ?_
  rintro _ _ ⟨b3, rfl, rfl⟩
  refine Ops.go rfl (Loud.box rfl rfl) ?_
  rintro _ _ ⟨b4, rfl, rfl⟩
  refine Ops.pure rfl (Pure.assign rfl) ?_
  refine Ops.pure rfl (Pure.assign rfl) ?_
  refine Ops.nil ?_
  refine Run.seq ?_
  refine Run.seq ?_
  refine Run.region ?_
  refine Ops.pure rfl (Pure.ldBA 1 rfl cell28 rfl rfl rfl) ?_
  refine Ops.pure rfl (Pure.ldB 0 rfl cell2 rfl rfl) ?_
  refine Ops.pure rfl (Pure.move rfl) ?_
  refine Ops.q rfl (QOp.call fn72 rfl (fun w hw => f_i_searchCode w _ _ _ _ _ _ (by exact RdL.old (by assumption) w hw) (by assumption) (by assumption) (by assumption) (by assumption) (by assumption))) ?_
  refine Ops.pure rfl (Pure.assign rfl) ?_
  refine Ops.nil ?_
  refine Run.seq ?_
  refine Run.region ?_
  refine Ops.pure rfl (Pure.move rfl) ?_
  refine Ops.pure rfl (Pure.neq rfl rfl) ?_
  refine Ops.nil ?_
  refine Run.cond rfl (fun c16 => ?_) (fun c16 => ?_)
  · skip
    replace c16 := nT c16
    refine Run.seq ?_
    refine Run.region ?_
    refine Ops.pure rfl (Pure.move rfl) ?_
    refine Ops.pure rfl (Pure.assign rfl) ?_
    refine Ops.pure rfl (Pure.assign rfl) ?_
    refine Ops.nil ?_
    refine Run.addNil 74 2 ?_
    refine Run.ext_ (Ext.take 0 rfl (Ext.nil _)) ?_
    refine Run.ret2 rfl rfl rfl ?_
    obtain ⟨e1, e2⟩ := fe_bad c16
    rw [e1]
    exact retE_nil e2
  · skip
    replace c16 := nF c16
    obtain ⟨hok, hcc, hee, hl12⟩ := sc_zero c16
    obtain ⟨M, rfl⟩ := Int.eq_ofNat_of_zero_le hee.1
    have hvo := hv.one
    refine Run.skip ?_
    refine Run.seq ?_
    refine Run.region ?_
    refine Ops.go rfl (Loud.lit0 sl41) ?_
    rintro v18 _ rfl
    refine Ops.go rfl (Loud.alloc zero41 rfl) ?_
    rintro _ _ ⟨b9, rfl, rfl⟩
    refine Ops.have_ (fun w hw => row_one 1 hw rfl) (fun h18 => ?_)
    refine Ops.store (Stores.box1 0 rfl rfl rfl size41 h18 rfl) ?_
    refine Ops.nil ?_
    refine Run.seq ?_
    refine Run.seq ?_
    refine Run.region ?_
    refine Ops.pure rfl (Pure.move rfl) ?_
    refine Ops.pure rfl (Pure.add rfl rfl (by omega) (by omega)) ?_
    refine Ops.pure rfl (Pure.move rfl) ?_
    refine Ops.nil ?_
    refine Run.block ?_
    refine Run.loop3 (X := Nat) (Y := Value) (Z := List (Int × Int)) (fun k vo eo => [(3, .pointer (some ⟨b3, 0, none⟩)), (4, .pointer (some ⟨b4, 0, none⟩)), (9, .pointer (some ⟨b9, 0, none⟩)), (20, .int .i64 ((M : Int) + 1)), (21, .int .i64 k)]) (fun k vo eo => [.box b9 41 [vo], .box b4 2 [.int .i64 c], .row 74 2 vo eo.length (edits eo), .box b3 28 [.int .i64 a, .int .i64 b, v]]) (fun k vo eo => k ≤ M + 1 ∧ ∀ j, j < k → (cut (hitC a b c) (lv j 0 [] l)).2 = false) (fun k vo eo => M + 1 - k) 0 v18 [] ?_ ?_ ?_ ?_
    · exact ⟨Nat.zero_le _, fun j hj => absurd hj (Nat.not_lt_zero _)⟩
    · exact ⟨rfl, rfl, rfl, rfl, rfl, trivial⟩
    · exact Ext.take 0 rfl (Ext.take 1 rfl (Ext.take 0 rfl (Ext.refl _)))
    · intro k vo eo hinv0
      refine Run.seq ?_
      refine Run.region ?_
      refine Ops.pure rfl (Pure.lss rfl rfl) ?_
      refine Ops.nil ?_
      refine Run.seq ?_
      refine Run.cond rfl (fun c22 => ?_) (fun c22 => ?_)
      · skip
        replace c22 := dT c22
        refine Run.skip ?_
        refine Run.seq ?_
        refine Run.block ?_
        refine Run.seq ?_
        refine Run.region ?_
        refine Ops.pure rfl (Pure.move rfl) ?_
        refine Ops.pure rfl (Pure.assign rfl) ?_
        refine Ops.nil ?_
        refine Run.seq ?_
        refine Run.region ?_
        refine Ops.pure rfl (Pure.ldBA 3 rfl cell28 rfl rfl rfl) ?_
        refine Ops.pure rfl (Pure.move rfl) ?_
        refine Ops.pure rfl (Pure.makeFuncN rfl) ?_
        refine Ops.go rfl (Loud.callO fn73 rfl (fun w hw => f_each _ w a b v l k (hitC a b c) _ _ _ (fun x : Value × List (Int × Int) => [.box b9 41 [x.1], .box b4 2 [.int .i64 c], .row 74 2 x.1 x.2.length (edits x.2)]) _ [.box b3 28 [.int .i64 a, .int .i64 b, v]] (vo, eo) fn78 see_fe (by omega) hl12 hw (fun h => absurd rfl h) hok (RdL.old hv) hvo)) ?_
        rintro v27 L27 hQ27
        obtain ⟨⟨x27, e27⟩, rfl, hx27, rfl⟩ := hQ27
        refine Ops.nil ?_
        refine Run.cond rfl (fun c27 => ?_) (fun c27 => ?_)
        · skip
          skip
          refine Run.seq ?_
          refine Run.region ?_
          refine Ops.pure rfl (Pure.ldB 0 rfl cell41 rfl rfl) ?_
          refine Ops.pure rfl (Pure.assign rfl) ?_
          refine Ops.pure rfl (Pure.assign rfl) ?_
          refine Ops.nil ?_
          refine Run.ext_ (Ext.take 2 rfl (Ext.nil _)) ?_
          refine Run.ret2 rfl rfl rfl ?_
          obtain ⟨_, e1, e2⟩ := fe_some c16 (by omega) c27 hinv0.2
          have e3 := hx27 (cut_ne c27)
          simp only at e3
          rw [e1, e2, ← e3]
          exact ⟨_, rfl, rfl⟩
        · skip
          skip
          refine Run.skip ?_
          refine Run.blk ?_
          refine Run.region ?_
          refine Ops.pure rfl (Pure.add rfl rfl (by omega) (by omega)) ?_
          refine Ops.pure rfl (Pure.move rfl) ?_
          refine Ops.nil ?_
          refine Run.asrt ?_
          exact ⟨k + 1, x27, e27, ⟨⟨by omega, fun j hj => step_lt (p := fun j => (cut (hitC a b c) (lv j 0 [] l)).2 = false) hj hinv0.2 c27⟩, by omega⟩, ⟨rfl, rfl, rfl, rfl, rfl, trivial⟩, Ext.refl _⟩
      · skip
        replace c22 := dF c22
        refine Run.exit rfl ?_
        refine Run.seq ?_
        refine Run.region ?_
        refine Ops.pure rfl (Pure.assign rfl) ?_
        refine Ops.pure rfl (Pure.assign rfl) ?_
        refine Ops.nil ?_
        refine Run.addNil 74 2 ?_
        refine Run.ext_ (Ext.take 0 rfl (Ext.nil _)) ?_
        refine Run.ret2 rfl rfl rfl ?_
        obtain ⟨e1, e2⟩ := fe_none c16 (fun j hj => hinv0.2 j (by omega))
        rw [e1]
        exact retE_nil e2

end Go.Proofs.Ytkplanpcmkbfiaa
