/- Contracts of functions, printed by program from annotations. -/
import Derived.Test.YtkplanpcmkbfiaaSeaI
import Derived.Test.YtkplanpcmkbfiaaEds2
namespace Go.Proofs.Ytkplanpcmkbfiaa
open Go Go.AW Go.RowKit
set_option linter.unusedVariables false
set_option linter.unusedSimpArgs false

theorem from_all {w0 : World} {a b : Int} {v : Value} {l : List Int} {M : Nat} {hit : Lf → Bool} {fs : Nat} {caps : List Value} {T : Type} {H : T → List Ent} {R : T → List Lf → Prop} (pm ps pp pf : Nat) (hfn : FnOk Try.prog fs) (hsee : SeeOk w0 a b hit fs caps H R) (hM : M ≤ 3) (hl12 : l.length ≤ 12) :
    ∀ n, FromOk w0 a b v l M hit fs caps H R pm ps pp pf n
  | 0 => fun w k es m ve va F x d h1 h2 h3 h4 h5 h6 h7 h8 h9 h10 => f_from1 w0 w a b v l M hit fs caps T H R pm ps pp pf 0 k es m ve va F x d hfn hsee (fun q hq => by omega) hM hl12 h1 h2 h3 h4 h5 h6 h7 h8 h9 h10
  | n + 1 => fun w k es m ve va F x d h1 h2 h3 h4 h5 h6 h7 h8 h9 h10 => f_from1 w0 w a b v l M hit fs caps T H R pm ps pp pf (n + 1) k es m ve va F x d hfn hsee (fun q hq => by
      obtain rfl : n = q := by omega
      exact from_all pm ps pp pf hfn hsee hM hl12 n) hM hl12 h1 h2 h3 h4 h5 h6 h7 h8 h9 h10

set_option maxRecDepth 4000 in
/-- (impl.Panel).eachEdits -/
theorem f_each (w0 : World) (w : World) (a : Int) (b : Int) (v : Value) (l : List Int) (M : Nat) (hit : Lf → Bool) (fs : Nat) (caps : List Value) (T : Type) (H : T → List Ent) (R : T → List Lf → Prop) (F : List Ent) (x : T) (hfn : FnOk Try.prog fs) (hsee : SeeOk w0 a b hit fs caps H R) (hM : M ≤ 3) (hl12 : l.length ≤ 12) (hw : Sat w0 w (H x ++ F)) (hr : R x []) (hok : okP a b l = true) (hv : RdL w0 F v 1 l.length (ints l)) (hvo : v.oneCell' = true) : RetO Try.prog 73 [.agg #[.int .i64 a, .int .i64 b, v], .int .i64 (M : Int), .func (.func fs) #[] caps.toArray] w0 w (fun u L => ∃ x', u = .bool (cut hit (lv M 0 [] l)).2 ∧ R x' (cut hit (lv M 0 [] l)).1 ∧ L = H x' ++ F) := by
  have hlv := lv_len M 0 [] l hl12
  have hlb := lvB_le hM
  refine RetO.enter Try.func73 rfl Try.ntmps73 rfl hw ?_
  refine Run.seq ?_
  refine Run.region ?_
  refine Ops.go rfl (Loud.box rfl rfl) ?_
  rintro _ _ ⟨b3, rfl, rfl⟩
  refine Ops.go rfl (Loud.box rfl rfl) ?_
  rintro _ _ ⟨b4, rfl, rfl⟩
  refine Ops.go rfl (Loud.box rfl rfl) ?_
  rintro _ _ ⟨b5, rfl, rfl⟩
  refine Ops.pure rfl (Pure.assign rfl) ?_
  refine Ops.nil ?_
  refine Run.seq ?_
  refine Run.region ?_
  refine Ops.go rfl (Loud.alloc zero148 rfl) ?_
  rintro _ _ ⟨b7, rfl, rfl⟩
  refine Ops.nil ?_
  refine Run.seq ?_
  refine Run.region ?_
  refine Ops.pure rfl (Pure.makeFuncN rfl) ?_
  refine Ops.store (Stores.box 0 rfl rfl rfl size148 (allOne rfl) rfl rfl) ?_
  refine Ops.nil ?_
  refine Run.seq ?_
  refine Run.addNil 74 2 ?_
  refine Run.region ?_
  refine Ops.pure rfl (Pure.ldB 1 rfl cell148 rfl rfl) ?_
  refine Ops.pure rfl (Pure.ldBA 4 rfl cell28 rfl rfl rfl) ?_
  refine Ops.go rfl (Loud.callOF fn129 rfl rfl rfl (fun w hw => from_all b4 b5 b3 b7 hfn hsee hM hl12 M w 0 [] l _ v _ x [] (Sat.tofrom (A := [_, _, _, _, _]) 0 rfl rfl hw) ⟨RdL.boxM 2 rfl rfl, RdL.boxM 1 rfl rfl, RdL.boxM 3 rfl rfl, hv.ext (by (try simp only [List.eraseIdx_cons_zero, List.cons_append, List.nil_append]); repeat (first | exact Ext.refl _ | apply Ext.both | apply Ext.skipc' | apply Ext.skipa')), RdL.boxM 0 rfl rfl⟩ hr (LvI.nil l) hok (Nat.zero_le _) (Nat.zero_add M) (by simp only [List.length_nil]; omega) (hv.ext (by (try simp only [List.eraseIdx_cons_zero, List.cons_append, List.nil_append]); repeat (first | exact Ext.refl _ | apply Ext.both | apply Ext.skipc' | apply Ext.skipa'))) hvo)) ?_
  rintro v11 L11 ⟨x11, rfl, hx11, rfl⟩
  rw [List.nil_append] at hx11
  refine Ops.pure rfl (Pure.assign rfl) ?_
  refine Ops.nil ?_
  refine Run.ext_ (L' := H x11 ++ F) (Ext.under (by (try simp only [List.eraseIdx_cons_zero, List.cons_append, List.nil_append]); repeat (first | exact Ext.refl _ | apply Ext.skipc'))) ?_
  refine Run.ret1 rfl rfl ?_
  exact ⟨x11, rfl, hx11, rfl⟩

set_option maxRecDepth 4000 in
/-- impl.CountEdits 1 -/
theorem f_see_ce (w0 : World) (w : World) (a : Int) (b : Int) (c : Int) (es : List (Int × Int)) (m : List Int) (ve : Value) (va : Value) (F : List Ent) (d : List Lf) (bc : Nat) (bm : Nat) (hw : Sat w0 w (.row 74 2 ve es.length (edits es) :: .box bm 2 [.int .i64 ((cnL a b c (d) : Nat) : Int)] :: .box bc 2 [.int .i64 c] :: F)) (hd : d.length ≤ 999999) (hok : okP a b m = true) (hva : RdL w0 F va 1 m.length (ints m)) (hvo : va.oneCell' = true) : RetO Try.prog 77 [ve, .agg #[.int .i64 a, .int .i64 b, va], .pointer (some ⟨bc, 0, none⟩), .pointer (some ⟨bm, 0, none⟩)] w0 w (fun u L => u = .bool false ∧ L = .box bm 2 [.int .i64 ((cnL a b c (d ++ [(es, m)]) : Nat) : Int)] :: .box bc 2 [.int .i64 c] :: F) := by
  have hcn := cnL_le a b c d
  refine RetO.enter Try.func77 rfl Try.ntmps77 rfl hw ?_
  refine Run.seq ?_
  refine Run.region ?_
  refine Ops.go rfl (Loud.box rfl rfl) ?_
  rintro _ _ ⟨b5, rfl, rfl⟩
  refine Ops.pure rfl (Pure.assign rfl) ?_
  refine Ops.nil ?_
  refine Run.seq ?_
  refine Run.seq ?_
  refine Any.start follows ?_
  refine Any.take 0 rfl (by kernel_rfl) rfl (QOp.pure (Pure.ldBA 0 rfl cell28 rfl rfl rfl)) ?_
  refine Any.take 1 rfl (by kernel_rfl) rfl (QOp.call fn75 rfl (fun w hw => f_i_countCurves w a b va m (RdL.ext hva (by repeat (first | exact Ext.refl _ | apply Ext.both | apply Ext.skipc' | apply Ext.skipa')) w hw) hok)) ?_
  refine Any.take 2 rfl (by kernel_rfl) rfl (QOp.pure (Pure.ldB 3 rfl cell2 rfl rfl)) ?_
  refine Any.take 3 rfl (by kernel_rfl) rfl (QOp.pure (Pure.eql rfl rfl)) ?_
  refine Any.done (by kernel_rfl) ?_
  refine Run.cond rfl (fun c10 => ?_) (fun c10 => ?_)
  · skip
    replace c10 := dT c10
    refine Run.region ?_
    refine Ops.pure rfl (Pure.ldB 2 rfl cell2 rfl rfl) ?_
    refine Ops.pure rfl (Pure.add rfl rfl (by omega) (by omega)) ?_
    refine Ops.store (Stores.box 2 rfl rfl rfl size2 (allOne rfl) rfl rfl) ?_
    refine Ops.nil ?_
    refine Run.seq ?_
    refine Run.region ?_
    refine Ops.pure rfl (Pure.assign rfl) ?_
    refine Ops.nil ?_
    refine Run.ext_ (Ext.take 2 rfl (Ext.take 2 rfl (Ext.right [_, _] _))) ?_
    refine Run.ret1 rfl rfl ?_
    first
      | exact ⟨rfl, by rw [cnL_yes c10]; rfl⟩
      | exact ⟨rfl, by rw [cnL_no c10]; try rfl⟩
  · skip
    replace c10 := dF c10
    refine Run.skip ?_
    refine Run.seq ?_
    refine Run.region ?_
    refine Ops.pure rfl (Pure.assign rfl) ?_
    refine Ops.nil ?_
    refine Run.ext_ (Ext.take 2 rfl (Ext.take 2 rfl (Ext.right [_, _] _))) ?_
    refine Run.ret1 rfl rfl ?_
    first
      | exact ⟨rfl, by rw [cnL_yes c10]; rfl⟩
      | exact ⟨rfl, by rw [cnL_no c10]; try rfl⟩

set_option maxRecDepth 4000 in
/-- impl.FewestEdits 1 -/
theorem f_see_fe (w0 : World) (w : World) (a : Int) (b : Int) (c : Int) (es : List (Int × Int)) (m : List Int) (ve : Value) (va : Value) (F : List Ent) (vo : Value) (eo : List (Int × Int)) (bo : Nat) (bc : Nat) (hw : Sat w0 w (.row 74 2 ve es.length (edits es) :: .box bo 41 [vo] :: .box bc 2 [.int .i64 c] :: .row 74 2 vo eo.length (edits eo) :: F)) (hok : okP a b m = true) (hva : RdL w0 F va 1 m.length (ints m)) (hvo : va.oneCell' = true) : RetO Try.prog 78 [ve, .agg #[.int .i64 a, .int .i64 b, va], .pointer (some ⟨bo, 0, none⟩), .pointer (some ⟨bc, 0, none⟩)] w0 w (fun u L => u = .bool (hitC a b c (es, m)) ∧ L = .box bo 41 [ve] :: .box bc 2 [.int .i64 c] :: .row 74 2 ve es.length (edits es) :: F) := by
  refine RetO.enter Try.func78 rfl Try.ntmps78 rfl hw ?_
  refine Run.seq ?_
  refine Run.region ?_
  refine Ops.go rfl (Loud.box rfl rfl) ?_
  rintro _ _ ⟨b5, rfl, rfl⟩
  refine Ops.pure rfl (Pure.assign rfl) ?_
  refine Ops.nil ?_
  refine Run.seq ?_
  refine Run.have_ (fun w hw => row_one 1 hw rfl) (fun hve => ?_)
  refine Run.region ?_
  refine Ops.pure rfl (Pure.move rfl) ?_
  refine Ops.store (Stores.box1 2 rfl rfl rfl size41 (by assumption) rfl) ?_
  refine Ops.nil ?_
  refine Run.seq ?_
  refine Any.start follows ?_
  refine Any.take 0 rfl (by kernel_rfl) rfl (QOp.pure (Pure.ldBA 0 rfl cell28 rfl rfl rfl)) ?_
  refine Any.take 1 rfl (by kernel_rfl) rfl (QOp.call fn75 rfl (fun w hw => f_i_countCurves w a b va m (RdL.ext hva (by repeat (first | exact Ext.refl _ | apply Ext.both | apply Ext.skipc' | apply Ext.skipa')) w hw) hok)) ?_
  refine Any.take 2 rfl (by kernel_rfl) rfl (QOp.pure (Pure.ldB 3 rfl cell2 rfl rfl)) ?_
  refine Any.take 3 rfl (by kernel_rfl) rfl (QOp.pure (Pure.eql rfl rfl)) ?_
  refine Any.take 4 rfl (by kernel_rfl) rfl (QOp.pure (Pure.assign rfl)) ?_
  refine Any.done (by kernel_rfl) ?_
  refine Run.ext_ (Ext.take 2 rfl (Ext.take 2 rfl (Ext.take 1 rfl (Ext.right [_, _] _)))) ?_
  refine Run.ret1 rfl rfl ?_
  exact ⟨rfl, rfl⟩

set_option maxRecDepth 4000 in
/-- impl.CurvesAfter 1 -/
theorem f_see_ca (w0 : World) (w : World) (a : Int) (b : Int) (es : List (Int × Int)) (m : List Int) (ve : Value) (va : Value) (F : List Ent) (vo : Value) (d : List Lf) (bo : Nat) (hw : Sat w0 w (.row 74 2 ve es.length (edits es) :: .box bo 22 [vo] :: .row 2 1 vo d.length (ints (alL a b (d))) :: F)) (hd : d.length ≤ 999999) (hok : okP a b m = true) (hva : RdL w0 F va 1 m.length (ints m)) (hvo : va.oneCell' = true) : RetO Try.prog 74 [ve, .agg #[.int .i64 a, .int .i64 b, va], .pointer (some ⟨bo, 0, none⟩)] w0 w (fun u L => ∃ vo', u = .bool false ∧ L = .box bo 22 [vo'] :: .row 2 1 vo' (d ++ [(es, m)]).length (ints (alL a b (d ++ [(es, m)]))) :: F) := by
  refine RetO.enter Try.func74 rfl Try.ntmps74 rfl hw ?_
  refine Run.seq ?_
  refine Run.region ?_
  refine Ops.go rfl (Loud.box rfl rfl) ?_
  rintro _ _ ⟨b4, rfl, rfl⟩
  refine Ops.pure rfl (Pure.assign rfl) ?_
  refine Ops.nil ?_
  refine Run.seq ?_
  refine Any.start follows ?_
  refine Any.take 0 rfl (by kernel_rfl) rfl (QOp.pure (Pure.ldB 2 rfl cell22 rfl rfl)) ?_
  refine Any.take 1 rfl (by kernel_rfl) rfl (QOp.pure (Pure.ldBA 0 rfl cell28 rfl rfl rfl)) ?_
  refine Any.take 2 rfl (by kernel_rfl) rfl (QOp.call fn75 rfl (fun w hw => f_i_countCurves w a b va m (RdL.ext hva (by repeat (first | exact Ext.refl _ | apply Ext.both | apply Ext.skipc' | apply Ext.skipa')) w hw) hok)) ?_
  refine Any.one 3 (by kernel_rfl) ?_
  refine OneL.loud rfl rfl (Loud.lit sl22 rfl rfl rfl (by simp [Value.oneCell'])) ?_
  rintro v9 _ rfl
  refine ⟨.inr (by first | exact Ext.right _ _ | exact Ext.right [_] _ | exact Ext.refl _), ?_⟩
  refine Any.one 4 (by kernel_rfl) ?_
  refine OneL.loud rfl rfl (Loud.append 4 rfl sl22 rfl rfl (RdL.own 0 rfl) (by simp [Value.oneCell']) (by omega) (by omega)) ?_
  rintro v10 _ rfl
  refine ⟨.inl (by kernel_rfl), ?_⟩
  refine Any.one 5 (by kernel_rfl) ?_
  refine OneL.store rfl (Stores.have_ (fun w hw => row_one 4 hw rfl) (fun h10 => Stores.box1 3 rfl rfl rfl size22 h10 rfl)) (by kernel_rfl) ?_
  refine Any.done (by kernel_rfl) ?_
  refine Run.seq ?_
  skip
  refine Run.region ?_
  refine Ops.pure rfl (Pure.assign rfl) ?_
  refine Ops.nil ?_
  refine Run.ext_ (Ext.take 3 rfl (Ext.take 3 rfl (Ext.right [_, _, _] _))) ?_
  refine Run.ret1 rfl rfl ?_
  exact ⟨_, rfl, by rw [alL_snoc, List.length_append, ints, ints, List.map_append]; rfl⟩

set_option maxRecDepth 4000 in
/-- impl.CurveRange 1 -/
theorem f_see_cr (w0 : World) (w : World) (a : Int) (b : Int) (es : List (Int × Int)) (m : List Int) (ve : Value) (va : Value) (F : List Ent) (d : List Lf) (bl : Nat) (bm : Nat) (hw : Sat w0 w (.row 74 2 ve es.length (edits es) :: .box bl 2 [.int .i64 (leastL (alL a b (d)))] :: .box bm 2 [.int .i64 (mostL (alL a b (d)))] :: F)) (hd : d.length ≤ 999999) (hok : okP a b m = true) (hva : RdL w0 F va 1 m.length (ints m)) (hvo : va.oneCell' = true) : RetO Try.prog 76 [ve, .agg #[.int .i64 a, .int .i64 b, va], .pointer (some ⟨bl, 0, none⟩), .pointer (some ⟨bm, 0, none⟩)] w0 w (fun u L => u = .bool false ∧ L = .box bl 2 [.int .i64 (leastL (alL a b (d ++ [(es, m)])))] :: .box bm 2 [.int .i64 (mostL (alL a b (d ++ [(es, m)])))] :: F) := by
  refine RetO.enter Try.func76 rfl Try.ntmps76 rfl hw ?_
  refine Run.seq ?_
  refine Run.region ?_
  refine Ops.go rfl (Loud.box rfl rfl) ?_
  rintro _ _ ⟨b5, rfl, rfl⟩
  refine Ops.pure rfl (Pure.assign rfl) ?_
  refine Ops.nil ?_
  refine Run.seq ?_
  refine Run.region ?_
  refine Ops.pure rfl (Pure.ldBA 0 rfl cell28 rfl rfl rfl) ?_
  refine Ops.q rfl (QOp.call fn75 rfl (fun w hw => f_i_countCurves w a b va m (RdL.ext hva (by repeat (first | exact Ext.refl _ | apply Ext.both | apply Ext.skipc' | apply Ext.skipa')) w hw) hok)) ?_
  refine Ops.pure rfl (Pure.assign rfl) ?_
  refine Ops.nil ?_
  refine Run.seq ?_
  refine Run.seq ?_
  refine Run.region ?_
  refine Ops.pure rfl (Pure.ldB 2 rfl cell2 rfl rfl) ?_
  refine Ops.pure rfl (Pure.eql rfl rfl) ?_
  refine Ops.pure rfl (Pure.move rfl) ?_
  refine Ops.guard rfl rfl rfl rfl (fun c12 => ?_) (fun c12 => ?_)
  · skip
    have c12' := dF c12
    refine Ops.pure rfl (Pure.move rfl) ?_
    refine Ops.guardY rfl rfl rfl c12 ?_
    refine Ops.pure rfl (Pure.ldB 2 rfl cell2 rfl rfl) ?_
    refine Ops.guardY rfl rfl rfl c12 ?_
    refine Ops.pure rfl (Pure.lss rfl rfl) ?_
    refine Ops.pure rfl (Pure.pickF rfl c12 rfl) ?_
    refine Ops.nil ?_
    refine Run.cond rfl (fun c16 => ?_) (fun c16 => ?_)
    · skip
      replace c16 := dT c16
      refine Run.region ?_
      refine Ops.pure rfl (Pure.move rfl) ?_
      refine Ops.store (Stores.box 2 rfl rfl rfl size2 (allOne rfl) rfl rfl) ?_
      refine Ops.nil ?_
      refine Run.seq ?_
      refine Run.region ?_
      refine Ops.pure rfl (Pure.ldB 3 rfl cell2 rfl rfl) ?_
      refine Ops.pure rfl (Pure.move rfl) ?_
      refine Ops.pure rfl (Pure.maxI rfl rfl) ?_
      refine Ops.store (Stores.box 3 rfl rfl rfl size2 (allOne rfl) rfl rfl) ?_
      refine Ops.nil ?_
      refine Run.seq ?_
      refine Run.region ?_
      refine Ops.pure rfl (Pure.assign rfl) ?_
      refine Ops.nil ?_
      refine Run.ext_ (Ext.take 2 rfl (Ext.take 2 rfl (Ext.right [_, _] _))) ?_
      refine Run.ret1 rfl rfl ?_
      first
        | exact ⟨rfl, by rw [alL_snoc, leastL_snoc, mostL_snoc, if_pos (by first | omega | (simp_all; omega) | (simp_all; done))]; rfl⟩
        | exact ⟨rfl, by rw [alL_snoc, leastL_snoc, mostL_snoc, if_neg (by first | omega | (simp_all; omega) | (simp_all; done))]; rfl⟩
    · skip
      replace c16 := dF c16
      refine Run.skip ?_
      refine Run.seq ?_
      refine Run.region ?_
      refine Ops.pure rfl (Pure.ldB 3 rfl cell2 rfl rfl) ?_
      refine Ops.pure rfl (Pure.move rfl) ?_
      refine Ops.pure rfl (Pure.maxI rfl rfl) ?_
      refine Ops.store (Stores.box 3 rfl rfl rfl size2 (allOne rfl) rfl rfl) ?_
      refine Ops.nil ?_
      refine Run.seq ?_
      refine Run.region ?_
      refine Ops.pure rfl (Pure.assign rfl) ?_
      refine Ops.nil ?_
      refine Run.ext_ (Ext.take 2 rfl (Ext.take 2 rfl (Ext.right [_, _] _))) ?_
      refine Run.ret1 rfl rfl ?_
      first
        | exact ⟨rfl, by rw [alL_snoc, leastL_snoc, mostL_snoc, if_pos (by first | omega | (simp_all; omega) | (simp_all; done))]; rfl⟩
        | exact ⟨rfl, by rw [alL_snoc, leastL_snoc, mostL_snoc, if_neg (by first | omega | (simp_all; omega) | (simp_all; done))]; rfl⟩
  · skip
    replace c12 := Bool.eq_true_of_ne c12
    have c12' := dT c12
    refine Ops.guardN rfl rfl rfl rfl (by rw [c12]; decide) ?_
    refine Ops.guardN rfl rfl rfl rfl (by rw [c12]; decide) ?_
    refine Ops.pure rfl (Pure.pickT rfl c12 rfl) ?_
    refine Ops.nil ?_
    refine Run.condE rfl rfl ?_
    refine Run.region ?_
    refine Ops.pure rfl (Pure.move rfl) ?_
    refine Ops.store (Stores.box 2 rfl rfl rfl size2 (allOne rfl) rfl rfl) ?_
    refine Ops.nil ?_
    refine Run.seq ?_
    refine Run.region ?_
    refine Ops.pure rfl (Pure.ldB 3 rfl cell2 rfl rfl) ?_
    refine Ops.pure rfl (Pure.move rfl) ?_
    refine Ops.pure rfl (Pure.maxI rfl rfl) ?_
    refine Ops.store (Stores.box 3 rfl rfl rfl size2 (allOne rfl) rfl rfl) ?_
    refine Ops.nil ?_
    refine Run.seq ?_
    refine Run.region ?_
    refine Ops.pure rfl (Pure.assign rfl) ?_
    refine Ops.nil ?_
    refine Run.ext_ (Ext.take 2 rfl (Ext.take 2 rfl (Ext.right [_, _] _))) ?_
    refine Run.ret1 rfl rfl ?_
    first
      | exact ⟨rfl, by rw [alL_snoc, leastL_snoc, mostL_snoc, if_pos (by first | omega | (simp_all; omega) | (simp_all; done))]; rfl⟩
      | exact ⟨rfl, by rw [alL_snoc, leastL_snoc, mostL_snoc, if_neg (by first | omega | (simp_all; omega) | (simp_all; done))]; rfl⟩

theorem see_ce {w0 : World} {a b c : Int} {bc bm : Nat} : SeeOk w0 a b (fun _ => false) 77 [.pointer (some ⟨bc, 0, none⟩), .pointer (some ⟨bm, 0, none⟩)] (fun d : List Lf => [.box bm 2 [.int .i64 ((cnL a b c d : Nat) : Int)], .box bc 2 [.int .i64 c]]) (fun x d => x = d) := by
  intro w es m ve va F x d hw hr hd hok hva hvo
  subst hr
  exact (f_see_ce w0 w a b c es m ve va F x bc bm hw hd hok hva hvo).mono (fun u L ⟨h1, h2⟩ => ⟨x ++ [(es, m)], h1, rfl, h2⟩)
theorem see_fe {w0 : World} {a b c : Int} {bo bc : Nat} : SeeOk w0 a b (hitC a b c) 78 [.pointer (some ⟨bo, 0, none⟩), .pointer (some ⟨bc, 0, none⟩)] (fun x : Value × List (Int × Int) => [.box bo 41 [x.1], .box bc 2 [.int .i64 c], .row 74 2 x.1 x.2.length (edits x.2)]) (fun x d => d ≠ [] → x.2 = lastE d) := by
  intro w es m ve va F x d hw hr hd hok hva hvo
  exact (f_see_fe w0 w a b c es m ve va F x.1 x.2 bo bc hw hok hva hvo).mono (fun u L ⟨h1, h2⟩ => ⟨(ve, es), h1, fun _ => (lastE_snoc d (es, m)).symm, h2⟩)
theorem see_ca {w0 : World} {a b : Int} {bo : Nat} : SeeOk w0 a b (fun _ => false) 74 [.pointer (some ⟨bo, 0, none⟩)] (fun x : Value × List Lf => [.box bo 22 [x.1], .row 2 1 x.1 x.2.length (ints (alL a b x.2))]) (fun x d => x.2 = d) := by
  intro w es m ve va F x d hw hr hd hok hva hvo
  subst hr
  exact (f_see_ca w0 w a b es m ve va F x.1 x.2 bo hw hd hok hva hvo).mono (fun u L ⟨vo', h1, h2⟩ => ⟨(vo', x.2 ++ [(es, m)]), h1, rfl, h2⟩)
theorem see_cr {w0 : World} {a b : Int} {bl bm : Nat} : SeeOk w0 a b (fun _ => false) 76 [.pointer (some ⟨bl, 0, none⟩), .pointer (some ⟨bm, 0, none⟩)] (fun d : List Lf => [.box bl 2 [.int .i64 (leastL (alL a b d))], .box bm 2 [.int .i64 (mostL (alL a b d))]]) (fun x d => x = d) := by
  intro w es m ve va F x d hw hr hd hok hva hvo
  subst hr
  exact (f_see_cr w0 w a b es m ve va F x bl bm hw hd hok hva hvo).mono (fun u L ⟨h1, h2⟩ => ⟨x ++ [(es, m)], h1, rfl, h2⟩)

end Go.Proofs.Ytkplanpcmkbfiaa
