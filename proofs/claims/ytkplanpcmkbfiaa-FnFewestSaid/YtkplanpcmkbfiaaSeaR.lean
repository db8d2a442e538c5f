/- Contracts of functions, printed by program from annotations. -/
import Derived.Test.YtkplanpcmkbfiaaSeaW
namespace Go.Proofs.Ytkplanpcmkbfiaa
open Go Go.AW Go.RowKit
set_option linter.unusedVariables false
set_option linter.unusedSimpArgs false

theorem walk_all {w0 : World} {bs : Nat} {a b c : Int} {once : Bool} : ∀ n, WalkOk w0 bs a b c once n
  | 0 => fun w k vb vn vf va d es m F h1 h2 h3 h4 h5 h6 h7 h8 => f_walk1 w0 w bs a b c once 0 k vb vn vf va d es m F (fun q hq => by omega) h1 h2 h3 h4 h5 h6 h7 h8
  | n + 1 => fun w k vb vn vf va d es m F h1 h2 h3 h4 h5 h6 h7 h8 => f_walk1 w0 w bs a b c once (n + 1) k vb vn vf va d es m F (fun q hq => by
      obtain rfl : n = q := by omega
      exact walk_all n) h1 h2 h3 h4 h5 h6 h7 h8
theorem fsE_last {a b c : Int} {A : List Lf} (h : (cut (hitC a b c) A).2 = true) : fsE a b c (cut (hitC a b c) A).1 = lastE (cut (hitC a b c) A).1 := by
  obtain ⟨B, x, h1, h2, h3⟩ := cut_last h
  rw [h1, lastE_snoc]
  unfold fsE
  rw [List.find?_append, find_none (by rw [List.any_eq_false]; intro y hy; rw [h3 y hy]; decide), List.find?_cons, h2]
  rfl

set_option maxRecDepth 4000 in
/-- spec.l11Run -/
theorem f_s_l11Run (w : World) (p : Nat) (a : Int) (b : Int) (v : Value) (l : List Int) (c : Int) (n : Nat) (once : Bool) (hp : Rd w (boxS p) 3 1 [.int .i64 a, .int .i64 b, v]) (hv : Rd w v 1 l.length (ints l)) (hok : okP a b l = true) (hl12 : l.length ≤ 12) (hn : n ≤ 3) : Ret Try.prog 70 [.pointer (some ⟨p, 0, none⟩), .int .i64 c, .int .i64 (n : Int), .bool once] w (fun u L => ∃ bs vb vn vf va, u = .pointer (some ⟨bs, 0, none⟩) ∧ L = .box bs 93 [.int .i64 a, .int .i64 b, vb, .int .i64 c, vn, vf, .bool (((cut (hitO once a b c) (lv n 0 [] l)).1).any (hitC a b c)), .int .i64 ((cnL a b c ((cut (hitO once a b c) (lv n 0 [] l)).1) : Nat) : Int), .int .i64 (leastL (alL a b ((cut (hitO once a b c) (lv n 0 [] l)).1))), .int .i64 (mostL (alL a b ((cut (hitO once a b c) (lv n 0 [] l)).1))), va] :: .row 2 1 vb (l).length (ints (l)) :: .row 74 2 vn ([] : List (Int × Int)).length (edits ([] : List (Int × Int))) :: .row 74 2 vf (fsE a b c ((cut (hitO once a b c) (lv n 0 [] l)).1)).length (edits (fsE a b c ((cut (hitO once a b c) (lv n 0 [] l)).1))) :: .row 2 1 va ((cut (hitO once a b c) (lv n 0 [] l)).1).length (ints (alL a b ((cut (hitO once a b c) (lv n 0 [] l)).1))) :: []) := by
  have hlv := lv_len n 0 [] l hl12
  have hlb := lvB_le hn
  refine Ret.enter Try.func70 rfl Try.ntmps70 rfl ?_
  refine Run.seq ?_
  refine Run.region ?_
  refine Ops.pure rfl (Pure.assign rfl) ?_
  refine Ops.nil ?_
  refine Run.seq ?_
  refine Run.region ?_
  refine Ops.pure rfl (Pure.move rfl) ?_
  refine Ops.go rfl (Loud.callR fn112 rfl (fun w hw => f_s_l02Own w p a b v l (RdL.old hp w hw) (RdL.old hv w hw) (by omega))) ?_
  rintro v11 _ ⟨L11, hQ11, rfl⟩
  obtain ⟨x11, h11, rfl, rfl⟩ := hQ11
  refine Ops.pure rfl (Pure.move rfl) ?_
  refine Ops.pure rfl (Pure.build rfl (bld93_p0_1 _ _ _ _ (by first | rfl | assumption))) ?_
  refine Ops.go rfl (Loud.box rfl rfl) ?_
  rintro _ _ ⟨b14, rfl, rfl⟩
  refine Ops.pure rfl (Pure.assign rfl) ?_
  refine Ops.nil ?_
  refine Run.seq ?_
  refine Run.addNil 2 1 ?_
  refine Run.addNil 74 2 ?_
  refine Run.addNil 74 2 ?_
  refine Run.ext_ (Ext.take 3 rfl (Ext.take 3 rfl (Ext.take 0 rfl (Ext.take 0 rfl (Ext.take 0 rfl (Ext.nil _)))))) ?_
  refine Run.region ?_
  refine Ops.pure rfl (Pure.move rfl) ?_
  refine Ops.pure rfl (Pure.move rfl) ?_
  refine Ops.pure rfl (Pure.move rfl) ?_
  refine Ops.go rfl (Loud.callO fn127 rfl (fun w hw => walk_all n w 0 x11 (.slice none 0 0) (.slice none 0 0) (.slice none 0 0) [] [] l [] hw hok hl12 (Nat.zero_le _) (by simp only [List.length_nil]; omega) (by simp only [List.length_nil]; omega) (fun x hx => by cases hx) (fun _ => rfl))) ?_
  rintro v18 L18 hQ18
  obtain ⟨vn18, vf18, va18, rfl, rfl⟩ := hQ18
  refine Ops.nil ?_
  refine Run.seq ?_
  refine Run.region ?_
  refine Ops.pure rfl (Pure.move rfl) ?_
  refine Ops.pure rfl (Pure.assign rfl) ?_
  refine Ops.nil ?_
  refine Run.ret1 rfl rfl ?_
  exact ⟨_, _, _, _, _, rfl, rfl⟩

set_option maxRecDepth 4000 in
/-- spec.l11Code -/
theorem f_s_l11Code (w : World) (p : Nat) (a : Int) (b : Int) (v : Value) (l : List Int) (c : Int) (e : Int) (hp : Rd w (boxS p) 3 1 [.int .i64 a, .int .i64 b, v]) (hv : Rd w v 1 l.length (ints l)) (hl : l.length ≤ 1073741824) (a0 : -9223372036854775808 ≤ a) (a1 : a ≤ 9223372036854775807) (b0 : -9223372036854775808 ≤ b) (b1 : b ≤ 9223372036854775807) : RetV Try.prog 69 [.pointer (some ⟨p, 0, none⟩), .int .i64 c, .int .i64 e] w (.int .i64 (scE a b l c e)) := by
  refine Ret.enter Try.func69 rfl Try.ntmps69 rfl ?_
  refine Run.seq ?_
  refine Run.region ?_
  refine Ops.pure rfl (Pure.assign rfl) ?_
  refine Ops.nil ?_
  refine Run.seq ?_
  refine Run.seq ?_
  refine Run.region ?_
  refine Ops.pure rfl (Pure.move rfl) ?_
  refine Ops.q rfl (QOp.call fn84 rfl (fun w hw => f_s_l02Ok w _ _ _ _ _ (by exact RdL.old (by assumption) w hw) (by exact RdL.old (by assumption) w hw) (by assumption) (by assumption) (by assumption) (by assumption) (by assumption))) ?_
  refine Ops.pure rfl (Pure.not rfl) ?_
  refine Ops.nil ?_
  refine Run.cond rfl (fun c9 => ?_) (fun c9 => ?_)
  · skip
    replace c9 := bT c9
    refine Run.seq ?_
    refine Run.region ?_
    refine Ops.pure rfl (Pure.assign rfl) ?_
    refine Ops.nil ?_
    refine Run.ret1 rfl rfl ?_
    rw [sc_bad (by simp_all)]
  · skip
    replace c9 := bF c9
    refine Run.skip ?_
    refine Run.seq ?_
    refine Run.seq ?_
    refine Run.region ?_
    refine Ops.pure rfl (Pure.move rfl) ?_
    refine Ops.q rfl (QOp.call fn121 rfl (fun w hw => f_s_l00In w _ _ _)) ?_
    refine Ops.pure rfl (Pure.not rfl) ?_
    refine Ops.pure rfl (Pure.move rfl) ?_
    refine Ops.guard rfl rfl rfl rfl (fun c13 => ?_) (fun c13 => ?_)
    · skip
      have c13' := nF c13
      refine Ops.pure rfl (Pure.move rfl) ?_
      refine Ops.guardY rfl rfl rfl c13 ?_
      refine Ops.q rfl (QOp.call fn121 rfl (fun w hw => f_s_l00In w _ _ _)) ?_
      refine Ops.guardY rfl rfl rfl c13 ?_
      refine Ops.pure rfl (Pure.not rfl) ?_
      refine Ops.pure rfl (Pure.pickF rfl c13 rfl) ?_
      refine Ops.nil ?_
      refine Run.cond rfl (fun c17 => ?_) (fun c17 => ?_)
      · skip
        replace c17 := nT c17
        refine Run.seq ?_
        refine Run.region ?_
        refine Ops.pure rfl (Pure.assign rfl) ?_
        refine Ops.nil ?_
        refine Run.ret1 rfl rfl ?_
        rw [sc_out (by simp_all) (by first | omega | (simp_all; omega))]
      · skip
        replace c17 := nF c17
        refine Run.skip ?_
        refine Run.seq ?_
        refine Run.seq ?_
        refine Run.region ?_
        refine Ops.pure rfl (Pure.move rfl) ?_
        refine Ops.pure rfl (Pure.nilchk rfl) ?_
        refine Ops.pure rfl (Pure.fieldAddrB fld28_2 rfl) ?_
        refine Ops.pure rfl (Pure.ldP cell22 rfl (RdL.old hp) rfl) ?_
        refine Ops.pure rfl (Pure.len sl22 (RdL.old hv) rfl) ?_
        refine Ops.pure rfl (Pure.gtr rfl rfl) ?_
        refine Ops.nil ?_
        refine Run.cond rfl (fun c23 => ?_) (fun c23 => ?_)
        · skip
          replace c23 := dT c23
          refine Run.seq ?_
          refine Run.region ?_
          refine Ops.pure rfl (Pure.assign rfl) ?_
          refine Ops.nil ?_
          refine Run.ret1 rfl rfl ?_
          rw [sc_big (by simp_all) (by first | omega | (simp_all; omega)) (by first | omega | (simp_all; omega))]
        · skip
          replace c23 := dF c23
          refine Run.skip ?_
          refine Run.seq ?_
          refine Run.region ?_
          refine Ops.pure rfl (Pure.assign rfl) ?_
          refine Ops.nil ?_
          refine Run.ret1 rfl rfl ?_
          rw [sc_ok (by simp_all) (by first | omega | (simp_all; omega)) (by first | omega | (simp_all; omega))]
    · skip
      replace c13 := Bool.eq_true_of_ne c13
      have c13' := nT c13
      refine Ops.guardN rfl rfl rfl rfl (by rw [c13]; decide) ?_
      refine Ops.guardN rfl rfl rfl rfl (by rw [c13]; decide) ?_
      refine Ops.pure rfl (Pure.pickT rfl c13 rfl) ?_
      refine Ops.nil ?_
      refine Run.condE rfl rfl ?_
      refine Run.seq ?_
      refine Run.region ?_
      refine Ops.pure rfl (Pure.assign rfl) ?_
      refine Ops.nil ?_
      refine Run.ret1 rfl rfl ?_
      rw [sc_out (by simp_all) (by first | omega | (simp_all; omega))]

set_option maxRecDepth 4000 in
/-- spec.CountEdits -/
theorem f_s_CountEdits (w : World) (a : Int) (b : Int) (v : Value) (l : List Int) (c : Int) (e : Int) (hv : Rd w v 1 l.length (ints l)) (hl : l.length ≤ 1073741824) (a0 : -9223372036854775808 ≤ a) (a1 : a ≤ 9223372036854775807) (b0 : -9223372036854775808 ≤ b) (b1 : b ≤ 9223372036854775807) (e0 : -9223372036854775808 ≤ e) (e1 : e ≤ 9223372036854775807) : RetV Try.prog 24 [.agg #[.int .i64 a, .int .i64 b, v], .int .i64 c, .int .i64 e] w (.tuple #[.int .i64 (ceN a b l c e), .int .i64 (scE a b l c e)]) := by
  refine Ret.enter Try.func24 rfl Try.ntmps24 rfl ?_
  refine Run.seq ?_
  refine Run.region ?_
  refine Ops.go rfl (Loud.box rfl rfl) ?_
  rintro _ _ ⟨b3, rfl, rfl⟩
  refine Ops.pure rfl (Pure.assign rfl) ?_
  refine Ops.pure rfl (Pure.assign rfl) ?_
  refine Ops.nil ?_
  refine Run.seq ?_
  refine Run.region ?_
  refine Ops.pure rfl (Pure.move rfl) ?_
  refine Ops.pure rfl (Pure.move rfl) ?_
  refine Ops.q rfl (QOp.call fn69 rfl (fun w hw => f_s_l11Code w _ a b v l c e (RdL.boxM 0 rfl rfl w hw) (RdL.old hv w hw) hl a0 a1 b0 b1)) ?_
  refine Ops.pure rfl (Pure.assign rfl) ?_
  refine Ops.nil ?_
  refine Run.seq ?_
  refine Run.seq ?_
  refine Run.region ?_
  refine Ops.pure rfl (Pure.move rfl) ?_
  refine Ops.pure rfl (Pure.neq rfl rfl) ?_
  refine Ops.nil ?_
  refine Run.cond rfl (fun c13 => ?_) (fun c13 => ?_)
  · skip
    replace c13 := nT c13
    refine Run.seq ?_
    refine Run.region ?_
    refine Ops.pure rfl (Pure.move rfl) ?_
    refine Ops.pure rfl (Pure.assign rfl) ?_
    refine Ops.pure rfl (Pure.assign rfl) ?_
    refine Ops.nil ?_
    refine Run.ret2 rfl rfl rfl ?_
    rw [ce_bad c13]
  · skip
    replace c13 := nF c13
    obtain ⟨hok, hcc, hee, hl12⟩ := sc_zero c13
    obtain ⟨M, rfl⟩ := Int.eq_ofNat_of_zero_le hee.1
    refine Run.skip ?_
    refine Run.seq ?_
    refine Run.region ?_
    refine Ops.pure rfl (Pure.move rfl) ?_
    refine Ops.pure rfl (Pure.move rfl) ?_
    refine Ops.go rfl (Loud.callR fn70 rfl (fun w hw => f_s_l11Run w _ a b v l c M false (RdL.boxM 0 rfl rfl w hw) (RdL.old hv w hw) hok hl12 (by omega))) ?_
    rintro v17 _ ⟨L17, hQ17, rfl⟩
    rw [cut_keep (cut_off (a := a) (b := b) (c := c) rfl (lv M 0 [] l))] at hQ17
    obtain ⟨bs17, vb17, vn17, vf17, va17, rfl, rfl⟩ := hQ17
    refine Ops.pure rfl (Pure.nilchk rfl) ?_
    refine Ops.pure rfl (Pure.fieldAddrB fld93_5 rfl) ?_
    refine Ops.pure rfl (Pure.ldB 0 rfl cell2 rfl rfl) ?_
    refine Ops.pure rfl (Pure.assign rfl) ?_
    refine Ops.pure rfl (Pure.assign rfl) ?_
    refine Ops.nil ?_
    refine Run.ret2 rfl rfl rfl ?_
    rw [ce_ok c13, c13]

set_option maxRecDepth 4000 in
/-- spec.CurvesAfter -/
theorem f_s_CurvesAfter (w : World) (a : Int) (b : Int) (v : Value) (l : List Int) (hv : Rd w v 1 l.length (ints l)) (hl : l.length ≤ 1073741824) (a0 : -9223372036854775808 ≤ a) (a1 : a ≤ 9223372036854775807) (b0 : -9223372036854775808 ≤ b) (b1 : b ≤ 9223372036854775807) : Ret Try.prog 14 [.agg #[.int .i64 a, .int .i64 b, v]] w (retI (caL a b l) (scE a b l 1 1)) := by
  refine Ret.enter Try.func14 rfl Try.ntmps14 rfl ?_
  refine Run.seq ?_
  refine Run.region ?_
  refine Ops.go rfl (Loud.box rfl rfl) ?_
  rintro _ _ ⟨b1, rfl, rfl⟩
  refine Ops.pure rfl (Pure.assign rfl) ?_
  refine Ops.pure rfl (Pure.assign rfl) ?_
  refine Ops.nil ?_
  refine Run.seq ?_
  refine Run.region ?_
  refine Ops.q rfl (QOp.call fn69 rfl (fun w hw => f_s_l11Code w _ a b v l 1 1 (RdL.boxM 0 rfl rfl w hw) (RdL.old hv w hw) hl a0 a1 b0 (by assumption))) ?_
  refine Ops.pure rfl (Pure.assign rfl) ?_
  refine Ops.nil ?_
  refine Run.seq ?_
  refine Run.seq ?_
  refine Run.region ?_
  refine Ops.pure rfl (Pure.move rfl) ?_
  refine Ops.pure rfl (Pure.neq rfl rfl) ?_
  refine Ops.nil ?_
  refine Run.cond rfl (fun c7 => ?_) (fun c7 => ?_)
  · skip
    replace c7 := nT c7
    refine Run.seq ?_
    refine Run.region ?_
    refine Ops.pure rfl (Pure.move rfl) ?_
    refine Ops.pure rfl (Pure.assign rfl) ?_
    refine Ops.pure rfl (Pure.assign rfl) ?_
    refine Ops.nil ?_
    refine Run.addNil 2 1 ?_
    refine Run.ext_ (Ext.take 0 rfl (Ext.nil _)) ?_
    refine Run.ret2 rfl rfl rfl ?_
    exact retI_nil (ca_bad c7)
  · skip
    replace c7 := nF c7
    obtain ⟨hok, hcc, hee, hl12⟩ := sc_zero c7
    have hlv := lv_len 1 0 [] l hl12
    have hlb := lvB_le (n := 1) (by omega)
    refine Run.skip ?_
    refine Run.seq ?_
    refine Run.region ?_
    refine Ops.go rfl (Loud.lit sl22 rfl rfl rfl (by simp [Value.oneCell'])) ?_
    rintro v9 _ rfl
    refine Ops.go rfl (Loud.callR fn70 rfl (fun w hw => f_s_l11Run w _ a b v l 1 1 false (RdL.boxM 1 rfl rfl w hw) (RdL.old hv w hw) hok hl12 (by omega))) ?_
    rintro v10 _ ⟨L10, hQ10, rfl⟩
    rw [cut_keep (cut_off (a := a) (b := b) (c := 1) rfl (lv 1 0 [] l))] at hQ10
    obtain ⟨bs10, vb10, vn10, vf10, va10, rfl, rfl⟩ := hQ10
    refine Ops.pure rfl (Pure.nilchk rfl) ?_
    refine Ops.pure rfl (Pure.fieldAddrB fld93_8 rfl) ?_
    refine Ops.pure rfl (Pure.ldB 0 rfl cell22 rfl rfl) ?_
    refine Ops.go rfl (Loud.append 5 rfl sl22 rfl rfl (RdL.own 4 rfl) (by simp [Value.oneCell']) (by omega) (by omega)) ?_
    rintro v14 _ rfl
    refine Ops.pure rfl (Pure.assign rfl) ?_
    refine Ops.pure rfl (Pure.assign rfl) ?_
    refine Ops.nil ?_
    refine Run.ext_ (Ext.take 5 rfl (Ext.nil _)) ?_
    refine Run.ret2 rfl rfl rfl ?_
    rw [ca_ok c7, c7]
    exact ⟨_, rfl, by rw [length_alL, Nat.zero_add]; rfl⟩

set_option maxRecDepth 4000 in
/-- spec.CurveRange -/
theorem f_s_CurveRange (w : World) (a : Int) (b : Int) (v : Value) (l : List Int) (e : Int) (hv : Rd w v 1 l.length (ints l)) (hl : l.length ≤ 1073741824) (a0 : -9223372036854775808 ≤ a) (a1 : a ≤ 9223372036854775807) (b0 : -9223372036854775808 ≤ b) (b1 : b ≤ 9223372036854775807) (e0 : -9223372036854775808 ≤ e) (e1 : e ≤ 9223372036854775807) : RetV Try.prog 22 [.agg #[.int .i64 a, .int .i64 b, v], .int .i64 e] w (.tuple #[.int .i64 (crgV a b l e (leastL (alL a b (lv e.toNat 0 [] l)))), .int .i64 (crgV a b l e (mostL (alL a b (lv e.toNat 0 [] l)))), .int .i64 (crgE a b l e)]) := by
  refine Ret.enter Try.func22 rfl Try.ntmps22 rfl ?_
  refine Run.seq ?_
  refine Run.region ?_
  refine Ops.go rfl (Loud.box rfl rfl) ?_
  rintro _ _ ⟨b2, rfl, rfl⟩
  refine Ops.pure rfl (Pure.assign rfl) ?_
  refine Ops.pure rfl (Pure.assign rfl) ?_
  refine Ops.pure rfl (Pure.assign rfl) ?_
  refine Ops.nil ?_
  refine Run.seq ?_
  refine Run.region ?_
  refine Ops.pure rfl (Pure.move rfl) ?_
  refine Ops.q rfl (QOp.call fn69 rfl (fun w hw => f_s_l11Code w _ a b v l 1 e (RdL.boxM 0 rfl rfl w hw) (RdL.old hv w hw) hl a0 a1 b0 b1)) ?_
  refine Ops.pure rfl (Pure.assign rfl) ?_
  refine Ops.nil ?_
  refine Run.seq ?_
  refine Run.seq ?_
  refine Run.region ?_
  refine Ops.pure rfl (Pure.move rfl) ?_
  refine Ops.pure rfl (Pure.neq rfl rfl) ?_
  refine Ops.nil ?_
  refine Run.cond rfl (fun c12 => ?_) (fun c12 => ?_)
  · skip
    replace c12 := nT c12
    refine Run.seq ?_
    refine Run.region ?_
    refine Ops.pure rfl (Pure.move rfl) ?_
    refine Ops.pure rfl (Pure.assign rfl) ?_
    refine Ops.pure rfl (Pure.assign rfl) ?_
    refine Ops.pure rfl (Pure.assign rfl) ?_
    refine Ops.nil ?_
    refine Run.ret3 rfl rfl rfl rfl ?_
    obtain ⟨e1, e2⟩ := crg_bad c12
    rw [e1, e2, e2]
  · skip
    replace c12 := nF c12
    obtain ⟨hok, hcc, hee, hl12⟩ := sc_zero c12
    obtain ⟨M, rfl⟩ := Int.eq_ofNat_of_zero_le hee.1
    rw [Int.toNat_natCast]
    refine Run.skip ?_
    refine Run.seq ?_
    refine Run.region ?_
    refine Ops.pure rfl (Pure.move rfl) ?_
    refine Ops.go rfl (Loud.callR fn70 rfl (fun w hw => f_s_l11Run w _ a b v l 1 M false (RdL.boxM 0 rfl rfl w hw) (RdL.old hv w hw) hok hl12 (by omega))) ?_
    rintro v15 _ ⟨L15, hQ15, rfl⟩
    rw [cut_keep (cut_off (a := a) (b := b) (c := 1) rfl (lv M 0 [] l))] at hQ15
    obtain ⟨bs15, vb15, vn15, vf15, va15, rfl, rfl⟩ := hQ15
    refine Ops.pure rfl (Pure.assign rfl) ?_
    refine Ops.nil ?_
    refine Run.seq ?_
    refine Run.seq ?_
    refine Run.region ?_
    refine Ops.pure rfl (Pure.move rfl) ?_
    refine Ops.pure rfl (Pure.nilchk rfl) ?_
    refine Ops.pure rfl (Pure.fieldAddrB fld93_8 rfl) ?_
    refine Ops.pure rfl (Pure.ldB 0 rfl cell22 rfl rfl) ?_
    refine Ops.pure rfl (Pure.len sl22 (RdL.own 4 rfl) rfl) ?_
    refine Ops.pure rfl (Pure.eql rfl rfl) ?_
    refine Ops.nil ?_
    refine Run.cond rfl (fun c21 => ?_) (fun c21 => ?_)
    · skip
      replace c21 := dT c21
      refine Run.seq ?_
      refine Run.region ?_
      refine Ops.pure rfl (Pure.assign rfl) ?_
      refine Ops.pure rfl (Pure.assign rfl) ?_
      refine Ops.pure rfl (Pure.assign rfl) ?_
      refine Ops.nil ?_
      refine Run.ret3 rfl rfl rfl rfl ?_
      obtain ⟨e1, e2⟩ := crg_none c12 (List.eq_nil_of_length_eq_zero (by omega))
      rw [e1, e2, e2]
    · skip
      replace c21 := dF c21
      refine Run.skip ?_
      refine Run.seq ?_
      refine Any.start follows ?_
      refine Any.take 0 rfl (by kernel_rfl) rfl (QOp.pure (Pure.move rfl)) ?_
      refine Any.take 1 rfl (by kernel_rfl) rfl (QOp.pure (Pure.nilchk rfl)) ?_
      refine Any.take 2 rfl (by kernel_rfl) rfl (QOp.pure (Pure.fieldAddrB fld93_6 rfl)) ?_
      refine Any.take 3 rfl (by kernel_rfl) rfl (QOp.pure (Pure.ldB 0 rfl cell2 rfl rfl)) ?_
      refine Any.take 4 rfl (by kernel_rfl) rfl (QOp.pure (Pure.move rfl)) ?_
      refine Any.take 5 rfl (by kernel_rfl) rfl (QOp.pure (Pure.nilchk rfl)) ?_
      refine Any.take 6 rfl (by kernel_rfl) rfl (QOp.pure (Pure.fieldAddrB fld93_7 rfl)) ?_
      refine Any.take 7 rfl (by kernel_rfl) rfl (QOp.pure (Pure.ldB 0 rfl cell2 rfl rfl)) ?_
      refine Any.take 8 rfl (by kernel_rfl) rfl (QOp.pure (Pure.assign rfl)) ?_
      refine Any.take 9 rfl (by kernel_rfl) rfl (QOp.pure (Pure.assign rfl)) ?_
      refine Any.take 10 rfl (by kernel_rfl) rfl (QOp.pure (Pure.assign rfl)) ?_
      refine Any.done (by kernel_rfl) ?_
      refine Run.ret3 rfl rfl rfl rfl ?_
      obtain ⟨e1, e2⟩ := crg_ok c12 (fun h => c21 (by rw [h]; rfl))
      rw [e1, e2, e2]

set_option maxRecDepth 4000 in
/-- spec.FewestEdits -/
theorem f_s_FewestEdits (w : World) (a : Int) (b : Int) (v : Value) (l : List Int) (c : Int) (e : Int) (hv : Rd w v 1 l.length (ints l)) (hl : l.length ≤ 1073741824) (a0 : -9223372036854775808 ≤ a) (a1 : a ≤ 9223372036854775807) (b0 : -9223372036854775808 ≤ b) (b1 : b ≤ 9223372036854775807) (e0 : -9223372036854775808 ≤ e) (e1 : e ≤ 9223372036854775807) : Ret Try.prog 26 [.agg #[.int .i64 a, .int .i64 b, v], .int .i64 c, .int .i64 e] w (retE (feL a b l c e) (feE a b l c e)) := by
  refine Ret.enter Try.func26 rfl Try.ntmps26 rfl ?_
  refine Run.seq ?_
  refine Run.region ?_
  refine Ops.go rfl (Loud.box rfl rfl) ?_
  rintro _ _ ⟨b3, rfl, rfl⟩
  refine Ops.pure rfl (Pure.assign rfl) ?_
  refine Ops.pure rfl (Pure.assign rfl) ?_
  refine Ops.nil ?_
  refine Run.seq ?_
  refine Run.region ?_
  refine Ops.pure rfl (Pure.move rfl) ?_
  refine Ops.pure rfl (Pure.move rfl) ?_
  refine Ops.q rfl (QOp.call fn69 rfl (fun w hw => f_s_l11Code w _ a b v l c e (RdL.boxM 0 rfl rfl w hw) (RdL.old hv w hw) hl a0 a1 b0 b1)) ?_
  refine Ops.pure rfl (Pure.assign rfl) ?_
  refine Ops.nil ?_
  refine Run.seq ?_
  refine Run.seq ?_
  refine Run.region ?_
  refine Ops.pure rfl (Pure.move rfl) ?_
  refine Ops.pure rfl (Pure.neq rfl rfl) ?_
  refine Ops.nil ?_
  refine Run.cond rfl (fun c15 => ?_) (fun c15 => ?_)
  · skip
    replace c15 := nT c15
    refine Run.seq ?_
    refine Run.region ?_
    refine Ops.pure rfl (Pure.move rfl) ?_
    refine Ops.pure rfl (Pure.assign rfl) ?_
    refine Ops.pure rfl (Pure.assign rfl) ?_
    refine Ops.nil ?_
    refine Run.addNil 74 2 ?_
    refine Run.ext_ (Ext.take 0 rfl (Ext.nil _)) ?_
    refine Run.ret2 rfl rfl rfl ?_
    obtain ⟨e1, e2⟩ := fe_bad c15
    rw [e1]
    exact retE_nil e2
  · skip
    replace c15 := nF c15
    obtain ⟨hok, hcc, hee, hl12⟩ := sc_zero c15
    obtain ⟨M, rfl⟩ := Int.eq_ofNat_of_zero_le hee.1
    refine Run.skip ?_
    refine Run.seq ?_
    refine Run.seq ?_
    refine Run.region ?_
    refine Ops.pure rfl (Pure.assign rfl) ?_
    refine Ops.nil ?_
    refine Run.block ?_
    refine Run.loop (X := Nat) (fun k => [(1, .int .i64 c), (2, .int .i64 (M : Int)), (3, .pointer (some ⟨b3, 0, none⟩)), (9, .int .i64 k)]) (fun k => [.box b3 28 [.int .i64 a, .int .i64 b, v]]) (fun k => k ≤ M + 1 ∧ ∀ j, j < k → (cut (hitC a b c) (lv j 0 [] l)).2 = false) (fun k => M + 1 - k) 0 ?_ ?_ ?_ ?_
    · exact ⟨Nat.zero_le _, fun j hj => absurd hj (Nat.not_lt_zero _)⟩
    · exact ⟨rfl, rfl, rfl, rfl, trivial⟩
    · exact Ext.refl _
    · intro k hinv0
      refine Run.seq ?_
      refine Run.seq ?_
      refine Run.region ?_
      refine Ops.pure rfl (Pure.move rfl) ?_
      refine Ops.pure rfl (Pure.move rfl) ?_
      refine Ops.pure rfl (Pure.leq rfl rfl) ?_
      refine Ops.nil ?_
      refine Run.cond rfl (fun c19 => ?_) (fun c19 => ?_)
      · skip
        replace c19 := dT c19
        refine Run.skip ?_
        refine Run.seq ?_
        refine Run.block ?_
        refine Run.seq ?_
        refine Run.region ?_
        refine Ops.pure rfl (Pure.move rfl) ?_
        refine Ops.pure rfl (Pure.move rfl) ?_
        refine Ops.go rfl (Loud.callR fn70 rfl (fun w hw => f_s_l11Run w _ a b v l c k true (RdL.boxM 0 rfl rfl w hw) (RdL.old hv w hw) hok hl12 (by omega))) ?_
        rintro v24 _ ⟨L24, hQ24, rfl⟩
        rw [hitO_true] at hQ24
        obtain ⟨bs24, vb24, vn24, vf24, va24, rfl, rfl⟩ := hQ24
        refine Ops.pure rfl (Pure.assign rfl) ?_
        refine Ops.nil ?_
        refine Run.seq ?_
        refine Run.region ?_
        refine Ops.pure rfl (Pure.move rfl) ?_
        refine Ops.pure rfl (Pure.nilchk rfl) ?_
        refine Ops.pure rfl (Pure.fieldAddrB fld93_4 rfl) ?_
        refine Ops.pure rfl (Pure.ldB 0 rfl cell4 rfl rfl) ?_
        refine Ops.nil ?_
        refine Run.cond rfl (fun c28 => ?_) (fun c28 => ?_)
        · skip
          skip
          refine Run.seq ?_
          refine Run.region ?_
          refine Ops.pure rfl (Pure.move rfl) ?_
          refine Ops.pure rfl (Pure.nilchk rfl) ?_
          refine Ops.pure rfl (Pure.fieldAddrB fld93_3 rfl) ?_
          refine Ops.pure rfl (Pure.ldB 0 rfl cell41 rfl rfl) ?_
          refine Ops.pure rfl (Pure.assign rfl) ?_
          refine Ops.pure rfl (Pure.assign rfl) ?_
          refine Ops.nil ?_
          refine Run.ext_ (Ext.take 3 rfl (Ext.nil _)) ?_
          refine Run.ret2 rfl rfl rfl ?_
          rw [cut_anyL] at c28
          obtain ⟨_, e1, e2⟩ := fe_some c15 (by omega) c28 hinv0.2
          rw [e1, e2, ← fsE_last c28]
          exact ⟨_, rfl, rfl⟩
        · skip
          skip
          refine Run.skip ?_
          refine Run.blk ?_
          refine Run.region ?_
          refine Ops.pure rfl (Pure.move rfl) ?_
          refine Ops.pure rfl (Pure.add rfl rfl (by omega) (by omega)) ?_
          refine Ops.pure rfl (Pure.assign rfl) ?_
          refine Ops.nil ?_
          refine Run.asrt ?_
          exact ⟨k + 1, ⟨⟨by omega, fun j hj => step_lt (p := fun j => (cut (hitC a b c) (lv j 0 [] l)).2 = false) hj hinv0.2 (by rw [← cut_anyL]; exact c28)⟩, by omega⟩, ⟨rfl, rfl, rfl, rfl, trivial⟩, Ext.take 5 rfl (Ext.nil _)⟩
      · skip
        replace c19 := dF c19
        refine Run.exit rfl ?_
        refine Run.seq ?_
        refine Run.region ?_
        refine Ops.pure rfl (Pure.assign rfl) ?_
        refine Ops.pure rfl (Pure.assign rfl) ?_
        refine Ops.nil ?_
        refine Run.addNil 74 2 ?_
        refine Run.ext_ (Ext.take 0 rfl (Ext.nil _)) ?_
        refine Run.ret2 rfl rfl rfl ?_
        obtain ⟨e1, e2⟩ := fe_none c15 (fun j hj => hinv0.2 j (by omega))
        rw [e1]
        exact retE_nil e2

end Go.Proofs.Ytkplanpcmkbfiaa
