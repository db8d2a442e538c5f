/- Contracts of functions, printed by program from annotations. -/
import Derived.Test.YtkplanpcmkbfiaaSeaM
import Derived.Test.YtkplanpcmkbfiaaChg
import Derived.Test.YtkplanpcmkbfiaaAwv
namespace Go.Proofs.Ytkplanpcmkbfiaa
open Go Go.AW Go.RowKit
set_option linter.unusedVariables false
set_option linter.unusedSimpArgs false

theorem lvC_pre {n j : Nat} {es : List (Int × Int)} {m : List Int} {c : Nat} : ∀ d, ∃ r, lvC n j es m (c + d) = lvC n j es m c ++ r
  | 0 => ⟨[], by rw [List.append_nil]; rfl⟩
  | d + 1 => by
    obtain ⟨r, hr⟩ := lvC_pre (n := n) (j := j) (es := es) (m := m) (c := c) d
    by_cases h : ((c + d : Nat) : Int) = m.getD j 0
    · exact ⟨r, by rw [← Nat.add_assoc, lvC_skip h, hr]⟩
    · exact ⟨r ++ lv n (j + 1) (es ++ [((j : Int), ((c + d : Nat) : Int))]) (m.set j ((c + d : Nat) : Int)), by rw [← Nat.add_assoc, lvC_take h, hr, List.append_assoc]⟩
theorem lvI_pre {n k : Nat} {es : List (Int × Int)} {m : List Int} {i : Nat} : ∀ d, ∃ r, lvI n k es m (i + d) = lvI n k es m i ++ r
  | 0 => ⟨[], by rw [List.append_nil]; rfl⟩
  | d + 1 => by
    obtain ⟨r, hr⟩ := lvI_pre (n := n) (k := k) (es := es) (m := m) (i := i) d
    exact ⟨r ++ lvC n (k + (i + d)) es m 3, by rw [← Nat.add_assoc, lvI_succ, hr, List.append_assoc]⟩
theorem lv_pre {q k : Nat} {es : List (Int × Int)} {m : List Int} {i c : Nat} (hi : k + i < m.length) (hc : c < 3) (hn : ¬ (c : Int) = m.getD (k + i) 0) :
    ∃ r, lv (q + 1) k es m = ((lvI q k es m i ++ lvC q (k + i) es m c) ++ lv q (k + i + 1) (es ++ [(((k + i : Nat) : Int), (c : Int))]) (m.set (k + i) (c : Int))) ++ r := by
  obtain ⟨r1, h1⟩ := lvC_pre (n := q) (j := k + i) (es := es) (m := m) (c := c + 1) (3 - (c + 1))
  obtain ⟨r2, h2⟩ := lvI_pre (n := q) (k := k) (es := es) (m := m) (i := i + 1) (m.length - k - (i + 1))
  rw [show c + 1 + (3 - (c + 1)) = 3 by omega, lvC_take hn] at h1
  rw [show i + 1 + (m.length - k - (i + 1)) = m.length - k by omega, lvI_succ, h1] at h2
  exact ⟨r1 ++ r2, by rw [lv_succ, h2]; simp only [List.append_assoc]⟩
theorem cut_keep {hit : Lf → Bool} {A : List Lf} (h : (cut hit A).2 = false) : (cut hit A).1 = A := (cut_app_no [] h).1
theorem cut_hit {hit : Lf → Bool} {q k : Nat} {es : List (Int × Int)} {m : List Int} {i c : Nat} (hi : k + i < m.length) (hc : c < 3) (hn : ¬ (c : Int) = m.getD (k + i) 0)
    (hA : (cut hit (lvI q k es m i ++ lvC q (k + i) es m c)).2 = false) (hB : (cut hit (lv q (k + i + 1) (es ++ [(((k + i : Nat) : Int), (c : Int))]) (m.set (k + i) (c : Int)))).2 = true) :
    cut hit (lv (q + 1) k es m) = ((lvI q k es m i ++ lvC q (k + i) es m c) ++ (cut hit (lv q (k + i + 1) (es ++ [(((k + i : Nat) : Int), (c : Int))]) (m.set (k + i) (c : Int)))).1, true) := by
  obtain ⟨r, hr⟩ := lv_pre (q := q) (es := es) hi hc hn
  have h1 := (cut_app_no (lv q (k + i + 1) (es ++ [(((k + i : Nat) : Int), (c : Int))]) (m.set (k + i) (c : Int))) hA).2
  rw [hr, cut_app_yes r (by rw [h1]; exact hB), h1, hB]
theorem cut_more {hit : Lf → Bool} {q k : Nat} {es : List (Int × Int)} {m : List Int} {i c : Nat} (hn : ¬ (c : Int) = m.getD (k + i) 0)
    (hA : (cut hit (lvI q k es m i ++ lvC q (k + i) es m c)).2 = false) (hB : (cut hit (lv q (k + i + 1) (es ++ [(((k + i : Nat) : Int), (c : Int))]) (m.set (k + i) (c : Int)))).2 = false) :
    (cut hit (lvI q k es m i ++ lvC q (k + i) es m (c + 1))).2 = false := by
  rw [lvC_take hn, ← List.append_assoc, (cut_app_no _ hA).2]
  exact hB
theorem edits_one : ∀ (es : List (Int × Int)), ∀ u ∈ edits es, u.oneCell' = true
  | [], u, h => by cases h
  | e :: es, u, h => by
    rcases List.mem_cons.1 h with rfl | h
    · rfl
    · rcases List.mem_cons.1 h with rfl | h
      · rfl
      · exact edits_one es u h
theorem row_snoc {t : Nat} {v : Value} {es : List (Int × Int)} {e : Int × Int} : Ent.row t 2 v (0 + es.length + 1) (([] ++ edits es) ++ encE e) = Ent.row t 2 v (es ++ [e]).length (edits (es ++ [e])) := by
  rw [List.length_append, List.length_singleton, edits_append, Nat.zero_add]
  rfl
theorem Ext.under {A F G : List Ent} (h : Ext F G) : Ext (A ++ F) (A ++ G) := by
  obtain ⟨r, hr⟩ := h
  exact ⟨r, by rw [List.append_assoc]; exact List.Perm.append_left A hr⟩
theorem Ext.mid {A B F G : List Ent} (h : Ext (B ++ F) G) : Ext (B ++ (A ++ F)) (A ++ G) := by
  obtain ⟨r, hr⟩ := h
  refine ⟨r, ?_⟩
  refine List.Perm.trans ?_ (List.Perm.append_left A hr)
  rw [← List.append_assoc, ← List.append_assoc, ← List.append_assoc]
  exact (List.perm_append_comm.append_right F).append_right r
theorem Sat.tofrom {w0 w : World} {A Hx F : List Ent} {r r' : Ent} (i : Nat) (hA : A[i]? = some r') (he : r' = r) (hw : Sat w0 w (A ++ (Hx ++ F))) : Sat w0 w (r :: (Hx ++ (A.eraseIdx i ++ F))) := by
  subst he
  refine hw.perm ?_
  refine List.Perm.trans ((perm_eraseIdx A i r' hA).symm.append_right _) ?_
  rw [List.cons_append]
  refine List.Perm.cons _ ?_
  rw [← List.append_assoc, ← List.append_assoc]
  exact List.perm_append_comm.append_right F
/-- What a search does with a leaf. -/
def SeeOk (w0 : World) (a b : Int) (hit : Lf → Bool) (fs : Nat) (caps : List Value) {T : Type} (H : T → List Ent) (R : T → List Lf → Prop) : Prop :=
  ∀ (w : World) (es : List (Int × Int)) (m : List Int) (ve va : Value) (F : List Ent) (x : T) (d : List Lf), Sat w0 w (.row 74 2 ve es.length (edits es) :: (H x ++ F)) → R x d → d.length ≤ 999999 → okP a b m = true → RdL w0 F va 1 m.length (ints m) → va.oneCell' = true →
    RetO Try.prog fs ([ve, .agg #[.int .i64 a, .int .i64 b, va]] ++ caps) w0 w (fun u L => ∃ x', u = .bool (hit (es, m)) ∧ R x' (d ++ [(es, m)]) ∧ L = H x' ++ F)
structure FromEnv (w0 : World) (F : List Ent) (a b : Int) (v : Value) (l : List Int) (M fs : Nat) (caps : List Value) (pm ps pp pf : Nat) : Prop where
  many : RdL w0 F (boxS pm) 1 1 [.int .i64 (M : Int)]
  see : RdL w0 F (boxS ps) 1 1 [.func (.func fs) #[] caps.toArray]
  pan : RdL w0 F (boxS pp) 3 1 [.int .i64 a, .int .i64 b, v]
  brk : RdL w0 F v 1 l.length (ints l)
  own : RdL w0 F (boxS pf) 1 1 [.func (.func 129) #[] #[.pointer (some ⟨pm, 0, none⟩), .pointer (some ⟨ps, 0, none⟩), .pointer (some ⟨pp, 0, none⟩), .pointer (some ⟨pf, 0, none⟩)]]
theorem FromEnv.ext {w0 : World} {F G : List Ent} {a b : Int} {v : Value} {l : List Int} {M fs : Nat} {caps : List Value} {pm ps pp pf : Nat} (h : FromEnv w0 F a b v l M fs caps pm ps pp pf) (he : Ext F G) : FromEnv w0 G a b v l M fs caps pm ps pp pf :=
  ⟨h.many.ext he, h.see.ext he, h.pan.ext he, h.brk.ext he, h.own.ext he⟩
def FromOk (w0 : World) (a b : Int) (v : Value) (l : List Int) (M : Nat) (hit : Lf → Bool) (fs : Nat) (caps : List Value) {T : Type} (H : T → List Ent) (R : T → List Lf → Prop) (pm ps pp pf : Nat) (n : Nat) : Prop :=
  ∀ (w : World) (k : Nat) (es : List (Int × Int)) (m : List Int) (ve va : Value) (F : List Ent) (x : T) (d : List Lf), Sat w0 w (.row 74 2 ve es.length (edits es) :: (H x ++ F)) → FromEnv w0 F a b v l M fs caps pm ps pp pf → R x d → LvI l k es m → okP a b m = true → k ≤ l.length → es.length + n = M → d.length + (lv n k es m).length ≤ 999999 → RdL w0 F va 1 m.length (ints m) → va.oneCell' = true →
    RetO Try.prog 129 [.int .i64 (k : Int), ve, .agg #[.int .i64 a, .int .i64 b, va], .pointer (some ⟨pm, 0, none⟩), .pointer (some ⟨ps, 0, none⟩), .pointer (some ⟨pp, 0, none⟩), .pointer (some ⟨pf, 0, none⟩)] w0 w (fun u L => ∃ x', u = .bool (cut hit (lv n k es m)).2 ∧ R x' (d ++ (cut hit (lv n k es m)).1) ∧ L = H x' ++ F)

set_option maxRecDepth 4000 in
set_option maxHeartbeats 1000000 in
/-- (impl.Panel).eachEdits 1 -/
theorem f_from1 (w0 : World) (w : World) (a : Int) (b : Int) (v : Value) (l : List Int) (M : Nat) (hit : Lf → Bool) (fs : Nat) (caps : List Value) (T : Type) (H : T → List Ent) (R : T → List Lf → Prop) (pm : Nat) (ps : Nat) (pp : Nat) (pf : Nat) (n : Nat) (k : Nat) (es : List (Int × Int)) (m : List Int) (ve : Value) (va : Value) (F : List Ent) (x : T) (d : List Lf) (hfn : FnOk Try.prog fs) (hsee : SeeOk w0 a b hit fs caps H R) (ih : ∀ q, n = q + 1 → FromOk w0 a b v l M hit fs caps H R pm ps pp pf q) (hM : M ≤ 3) (hl12 : l.length ≤ 12) (hw : Sat w0 w (.row 74 2 ve es.length (edits es) :: (H x ++ F))) (hE : FromEnv w0 F a b v l M fs caps pm ps pp pf) (hr : R x d) (hI : LvI l k es m) (hok : okP a b m = true) (hk : k ≤ l.length) (hn : es.length + n = M) (hd : d.length + (lv n k es m).length ≤ 999999) (hva : RdL w0 F va 1 m.length (ints m)) (hvo : va.oneCell' = true) : RetO Try.prog 129 [.int .i64 (k : Int), ve, .agg #[.int .i64 a, .int .i64 b, va], .pointer (some ⟨pm, 0, none⟩), .pointer (some ⟨ps, 0, none⟩), .pointer (some ⟨pp, 0, none⟩), .pointer (some ⟨pf, 0, none⟩)] w0 w (fun u L => ∃ x', u = .bool (cut hit (lv n k es m)).2 ∧ R x' (d ++ (cut hit (lv n k es m)).1) ∧ L = H x' ++ F) := by
  refine RetO.enter Try.func129 rfl Try.ntmps129 rfl hw ?_
  refine Run.seq ?_
  refine Run.region ?_
  refine Ops.go rfl (Loud.box rfl rfl) ?_
  rintro _ _ ⟨b9, rfl, rfl⟩
  refine Ops.pure rfl (Pure.assign rfl) ?_
  refine Ops.nil ?_
  refine Run.seq ?_
  refine Run.seq ?_
  refine Run.region ?_
  refine Ops.pure rfl (Pure.move rfl) ?_
  refine Ops.pure rfl (Pure.len sl41 (RdL.own 1 rfl) rfl) ?_
  refine Ops.pure rfl (Pure.ldP cell2 rfl (RdL.ext hE.many (by repeat (first | exact Ext.refl _ | apply Ext.both | apply Ext.skipc' | apply Ext.skipa'))) rfl) ?_
  refine Ops.pure rfl (Pure.eql rfl rfl) ?_
  refine Ops.nil ?_
  refine Run.cond rfl (fun c15 => ?_) (fun c15 => ?_)
  · skip
    replace c15 := dT c15
    refine Run.seq ?_
    refine Run.region ?_
    refine Ops.pure rfl (Pure.ldP cell100 rfl (RdL.ext hE.see (by repeat (first | exact Ext.refl _ | apply Ext.both | apply Ext.skipc' | apply Ext.skipa'))) rfl) ?_
    refine Ops.pure rfl (Pure.move rfl) ?_
    refine Ops.pure rfl (Pure.ldBA 0 rfl cell28 rfl rfl rfl) ?_
    refine Ops.go rfl (Loud.callOF hfn rfl rfl rfl (fun w hw => hsee w es m ve va (_ :: F) x d (Sat.tofrom (A := [_, _]) 1 rfl rfl hw) hr (by omega) hok (hva.ext (by repeat (first | exact Ext.refl _ | apply Ext.both | apply Ext.skipc' | apply Ext.skipa'))) hvo)) ?_
    rintro v19 L19 ⟨x19, rfl, hx19, rfl⟩
    refine Ops.pure rfl (Pure.assign rfl) ?_
    refine Ops.nil ?_
    refine Run.ext_ (L' := H x19 ++ F) (Ext.under (by (try simp only [List.eraseIdx_cons_zero, List.eraseIdx_cons_succ, List.set_cons_zero, List.set_cons_succ, List.cons_append, List.nil_append]); repeat (first | exact Ext.refl _ | apply Ext.both | apply Ext.skipc' | apply Ext.skipa'))) ?_
    refine Run.ret1 rfl rfl ?_
    obtain rfl : n = 0 := by omega
    rw [lv_zero, cut_one]
    exact ⟨x19, rfl, hx19, rfl⟩
  · skip
    replace c15 := dF c15
    obtain ⟨q, rfl⟩ : ∃ q, n = q + 1 := ⟨n - 1, by omega⟩
    have hih := ih q rfl
    have hml := hI.len
    refine Run.skip ?_
    refine Run.seq ?_
    refine Run.block ?_
    refine Run.loop2 (X := Nat) (Y := T) (fun i y => [(0, .int .i64 ((k + i : Nat) : Int)), (1, ve), (5, .pointer (some ⟨pp, 0, none⟩)), (6, .pointer (some ⟨pf, 0, none⟩)), (9, .pointer (some ⟨b9, 0, none⟩))]) (fun i y => .box b9 28 [.int .i64 a, .int .i64 b, va] :: .row 74 2 ve es.length (edits es) :: (H y ++ F)) (fun i y => R y (d ++ lvI q k es m i) ∧ (cut hit (lvI q k es m i)).2 = false ∧ k + i ≤ l.length) (fun i y => l.length - (k + i)) 0 x ?_ ?_ ?_ ?_
    · exact ⟨by rw [lvI_zero, List.append_nil]; exact hr, rfl, by omega⟩
    · exact ⟨rfl, rfl, rfl, rfl, rfl, trivial⟩
    · exact Ext.refl _
    · rintro i y ⟨hy, hcy, hki⟩
      refine Run.seq ?_
      refine Run.seq ?_
      refine Run.region ?_
      refine Ops.pure rfl (Pure.move rfl) ?_
      refine Ops.pure rfl (Pure.fieldAddrB fld28_2 rfl) ?_
      refine Ops.pure rfl (Pure.ldP cell22 rfl (RdL.ext hE.pan (by repeat (first | exact Ext.refl _ | apply Ext.both | apply Ext.skipc' | apply Ext.skipa'))) rfl) ?_
      refine Ops.pure rfl (Pure.len sl22 (RdL.ext hE.brk (by repeat (first | exact Ext.refl _ | apply Ext.both | apply Ext.skipc' | apply Ext.skipa'))) rfl) ?_
      refine Ops.pure rfl (Pure.lss rfl rfl) ?_
      refine Ops.nil ?_
      refine Run.cond rfl (fun c24 => ?_) (fun c24 => ?_)
      · skip
        replace c24 := dT c24
        refine Run.skip ?_
        refine Run.seq ?_
        refine Run.block ?_
        refine Run.seq ?_
        refine Run.region ?_
        refine Ops.pure rfl (Pure.move rfl) ?_
        refine Ops.nil ?_
        refine Run.block ?_
        refine Run.loop2 (X := Nat) (Y := T) (fun c z => [(0, .int .i64 ((k + i : Nat) : Int)), (1, ve), (5, .pointer (some ⟨pp, 0, none⟩)), (6, .pointer (some ⟨pf, 0, none⟩)), (9, .pointer (some ⟨b9, 0, none⟩)), (27, .int .i64 c)]) (fun c z => .box b9 28 [.int .i64 a, .int .i64 b, va] :: .row 74 2 ve es.length (edits es) :: (H z ++ F)) (fun c z => R z (d ++ (lvI q k es m i ++ lvC q (k + i) es m c)) ∧ (cut hit (lvI q k es m i ++ lvC q (k + i) es m c)).2 = false ∧ c ≤ 3) (fun c z => 3 - c) 0 y ?_ ?_ ?_ ?_
        · exact ⟨by rw [lvC_zero, List.append_nil]; exact hy, by rw [lvC_zero, List.append_nil]; exact hcy, by omega⟩
        · exact ⟨rfl, rfl, rfl, rfl, rfl, rfl, trivial⟩
        · exact Ext.refl _
        · rintro c z ⟨hz, hcz, hc3⟩
          have hki2 : k + i < l.length := by omega
          refine Run.seq ?_
          refine Run.region ?_
          refine Ops.pure rfl (Pure.lss rfl rfl) ?_
          refine Ops.nil ?_
          refine Run.seq ?_
          refine Run.cond rfl (fun c28 => ?_) (fun c28 => ?_)
          · skip
            replace c28 := dT c28
            refine Run.skip ?_
            refine Run.seq ?_
            refine Run.block ?_
            refine Run.seq ?_
            refine Run.region ?_
            refine Ops.pure rfl (Pure.move rfl) ?_
            refine Ops.pure rfl (Pure.assign rfl) ?_
            refine Ops.nil ?_
            refine Run.seq ?_
            have hmk : m.getD (k + i) 0 = l.getD (k + i) 0 := hI.rest (k + i) (by omega)
            refine AnyK.start (.box b9 28 [.int .i64 a, .int .i64 b, va] :: F) follows (by repeat (first | exact Ext.refl _ | apply Ext.both | apply Ext.skipc' | apply Ext.skipa')) ?_
            refine AnyK.take 0 rfl (by kernel_rfl) rfl (QOp.pure (Pure.move rfl)) ?_
            refine AnyK.take 1 rfl (by kernel_rfl) rfl (QOp.pure (Pure.fieldAddrB fld28_2 rfl)) ?_
            refine AnyK.take 2 rfl (by kernel_rfl) rfl (QOp.pure (Pure.ldP cell22 rfl (RdL.ext hE.pan (by repeat (first | exact Ext.refl _ | apply Ext.both | apply Ext.skipc' | apply Ext.skipa'))) rfl)) ?_
            refine AnyK.take 3 rfl (by kernel_rfl) rfl (QOp.pure (Pure.move rfl)) ?_
            refine AnyK.take 4 rfl (by kernel_rfl) rfl (QOp.pure (Pure.idx1N sl22 (RdL.ext hE.brk (by repeat (first | exact Ext.refl _ | apply Ext.both | apply Ext.skipc' | apply Ext.skipa'))) rfl rfl (by first | assumption | omega | (simp; omega)))) ?_
            refine AnyK.take 5 rfl (by kernel_rfl) rfl (QOp.pure (Pure.ld cell2 rfl (RdL.ext hE.brk (by repeat (first | exact Ext.refl _ | apply Ext.both | apply Ext.skipc' | apply Ext.skipa'))) (by first | exact ints_get (by omega) | exact bools_get (by omega) | exact strs_get (by omega) | exact vals_get (by first | omega | (simp; omega))))) ?_
            refine AnyK.take 6 rfl (by kernel_rfl) rfl (QOp.pure (Pure.neq rfl rfl)) ?_
            refine AnyK.take 7 rfl (by kernel_rfl) rfl (QOp.pure (Pure.move rfl)) ?_
            refine AnyK.splitG 37 rfl (fun c37 => ?_) (fun c37 => ?_)
            · skip
              have c37' := nT c37
              have hnm : ¬ (c : Int) = m.getD (k + i) 0 := by rw [hmk]; exact c37'
              obtain ⟨rst, hrst⟩ := lv_pre (q := q) (es := es) (show k + i < m.length by omega) (show c < 3 by omega) hnm
              have hlen := congrArg List.length hrst
              rw [List.length_append, List.length_append] at hlen
              refine AnyK.takeY 8 rfl (by kernel_rfl) rfl rfl rfl rfl c37 (QOp.pure (Pure.ldP cell148 rfl (RdL.ext hE.own (by repeat (first | exact Ext.refl _ | apply Ext.both | apply Ext.skipc' | apply Ext.skipa'))) rfl)) ?_
              refine AnyK.takeY 9 rfl (by kernel_rfl) rfl rfl rfl rfl c37 (QOp.pure (Pure.move rfl)) ?_
              refine AnyK.takeY 10 rfl (by kernel_rfl) rfl rfl rfl rfl c37 (QOp.pure (Pure.add rfl rfl (by omega) (by omega))) ?_
              refine AnyK.takeY 12 rfl (by kernel_rfl) rfl rfl rfl rfl c37 (QOp.pure (Pure.move rfl)) ?_
              refine AnyK.takeY 14 rfl (by kernel_rfl) rfl rfl rfl rfl c37 (QOp.pure (Pure.move rfl)) ?_
              refine AnyK.takeY 15 rfl (by kernel_rfl) rfl rfl rfl rfl c37 (QOp.pure (Pure.move rfl)) ?_
              refine AnyK.takeY 16 rfl (by kernel_rfl) rfl rfl rfl rfl c37 (QOp.pure (Pure.build rfl (bld74_2 _ _ (by first | rfl | assumption) (by first | rfl | assumption)))) ?_
              refine AnyK.takeY 19 rfl (by kernel_rfl) rfl rfl rfl rfl c37 (QOp.pure (Pure.ldBA 0 rfl cell28 rfl rfl rfl)) ?_
              refine AnyK.takeY 20 rfl (by kernel_rfl) rfl rfl rfl rfl c37 (QOp.pure (Pure.move rfl)) ?_
              refine AnyK.takeY 21 rfl (by kernel_rfl) rfl rfl rfl rfl c37 (QOp.pure (Pure.move rfl)) ?_
              refine AnyK.two 11 17 (by kernel_rfl) ?_ ?_
              · skip
                refine OneK.loudY rfl rfl rfl rfl rfl c37 (Loud.lit0 sl41) ?_
                rintro v41 _ rfl
                refine ⟨(by (try simp only [List.eraseIdx_cons_zero, List.eraseIdx_cons_succ, List.set_cons_zero, List.set_cons_succ, List.cons_append, List.nil_append]); repeat (first | exact Ext.refl _ | apply Ext.both | apply Ext.skipc' | apply Ext.skipa')), ?_⟩
                refine AnyK.two 13 17 (by kernel_rfl) ?_ ?_
                · skip
                  refine OneK.loudY rfl rfl rfl rfl rfl c37 (Loud.append 0 rfl sl41 rfl rfl (RdL.own 2 rfl) (by exact edits_one es) (by omega) (by omega)) ?_
                  rintro v43 _ rfl
                  refine ⟨(by (try simp only [List.eraseIdx_cons_zero, List.eraseIdx_cons_succ, List.set_cons_zero, List.set_cons_succ, List.cons_append, List.nil_append]); repeat (first | exact Ext.refl _ | apply Ext.both | apply Ext.skipc' | apply Ext.skipa')), ?_⟩
                  refine AnyK.one 17 (by kernel_rfl) ?_
                  refine OneK.loudY rfl rfl rfl rfl rfl c37 (Loud.litA sl41 rfl rfl rfl) ?_
                  rintro v47 _ rfl
                  refine ⟨(by (try simp only [List.eraseIdx_cons_zero, List.eraseIdx_cons_succ, List.set_cons_zero, List.set_cons_succ, List.cons_append, List.nil_append]); repeat (first | exact Ext.refl _ | apply Ext.both | apply Ext.skipc' | apply Ext.skipa')), ?_⟩
                  refine AnyK.one 18 (by kernel_rfl) ?_
                  refine OneK.loudY rfl rfl rfl rfl rfl c37 (Loud.append 1 rfl sl41 rfl rfl (RdL.own 0 rfl) (by simp [Value.oneCell']) (by omega) (by omega)) ?_
                  rintro v48 _ rfl
                  refine ⟨(by (try simp only [List.eraseIdx_cons_zero, List.eraseIdx_cons_succ, List.set_cons_zero, List.set_cons_succ, List.cons_append, List.nil_append]); repeat (first | exact Ext.refl _ | apply Ext.both | apply Ext.skipc' | apply Ext.skipa')), ?_⟩
                  refine AnyK.one 22 (by kernel_rfl) ?_
                  refine OneK.loudY rfl rfl rfl rfl rfl c37 (Loud.callR fn110 rfl (fun w hw => f_i_Panel_changed w a b va m (k + i) (c : Int) (RdL.ext hva (by repeat (first | exact Ext.refl _ | apply Ext.both | apply Ext.skipc' | apply Ext.skipa')) w hw) (by omega) (by omega))) ?_
                  rintro v52 _ ⟨L52, hQ52, rfl⟩
                  obtain ⟨x52, h52, rfl, rfl⟩ := hQ52
                  refine ⟨(by (try simp only [List.eraseIdx_cons_zero, List.eraseIdx_cons_succ, List.set_cons_zero, List.set_cons_succ, List.cons_append, List.nil_append]); repeat (first | exact Ext.refl _ | apply Ext.both | apply Ext.skipc' | apply Ext.skipa')), ?_⟩
                  refine AnyK.one 23 (by kernel_rfl) ?_
                  refine OneK.loudY rfl rfl rfl rfl rfl c37 (Loud.callOF fn129 rfl rfl rfl (fun w hw => hih w (k + i + 1) (es ++ [(((k + i : Nat) : Int), (c : Int))]) (m.set (k + i) (c : Int)) _ _ _ z (d ++ (lvI q k es m i ++ lvC q (k + i) es m c)) (by first | exact Sat.tofrom (A := [_, _, _, _, _]) 1 rfl row_snoc hw | exact Sat.tofrom (A := [_, _, _, _, _]) 2 rfl row_snoc hw | exact Sat.tofrom (A := [_, _, _, _, _]) 3 rfl row_snoc hw) (hE.ext (by (try simp only [List.eraseIdx_cons_zero, List.eraseIdx_cons_succ, List.set_cons_zero, List.set_cons_succ, List.cons_append, List.nil_append]); repeat (first | exact Ext.refl _ | apply Ext.both | apply Ext.skipc' | apply Ext.skipa'))) hz (hI.add (Nat.le_add_right ..) (by omega) (by omega) hnm) (okP_set hok (k + i) (by omega) (by omega)) (by omega) (by rw [List.length_append, List.length_singleton]; omega) (by rw [List.length_append]; omega) (by rw [List.length_set]; exact RdL.own 0 rfl) h52)) ?_
                  rintro v53 L53 hQ53
                  obtain ⟨y53, rfl, hy53, rfl⟩ := hQ53
                  refine ⟨(by (try simp only [List.eraseIdx_cons_zero, List.eraseIdx_cons_succ, List.set_cons_zero, List.set_cons_succ, List.cons_append, List.nil_append]); repeat (first | exact Ext.refl _ | apply Ext.both | apply Ext.skipc' | apply Ext.skipa')), ?_⟩
                  refine AnyK.take 24 rfl (by kernel_rfl) rfl (QOp.pure (Pure.pickT rfl c37 rfl)) ?_
                  refine AnyK.done (by kernel_rfl) ?_
                  refine Run.cond rfl (fun c54 => ?_) (fun c54 => ?_)
                  · skip
                    skip
                    refine Run.seq ?_
                    refine Run.region ?_
                    refine Ops.pure rfl (Pure.assign rfl) ?_
                    refine Ops.nil ?_
                    refine Run.ext_ (L' := H y53 ++ F) (Ext.under (by (try simp only [List.eraseIdx_cons_zero, List.eraseIdx_cons_succ, List.set_cons_zero, List.set_cons_succ, List.cons_append, List.nil_append]); repeat (first | exact Ext.refl _ | apply Ext.both | apply Ext.skipc' | apply Ext.skipa'))) ?_
                    refine Run.ret1 rfl rfl ?_
                    rw [cut_hit (by omega) (by omega) hnm hcz c54]
                    exact ⟨y53, rfl, by rw [← List.append_assoc]; exact hy53, rfl⟩
                  · skip
                    skip
                    refine Run.skip ?_
                    refine Run.blk ?_
                    refine Run.region ?_
                    refine Ops.pure rfl (Pure.add rfl rfl (by omega) (by omega)) ?_
                    refine Ops.pure rfl (Pure.move rfl) ?_
                    refine Ops.nil ?_
                    refine Run.asrt ?_
                    first
                      | (refine ⟨c + 1, y53, ⟨⟨by rw [cut_keep c54, ← List.append_assoc] at hy53; rw [lvC_take hnm]; simpa only [List.append_assoc] using hy53, cut_more hnm hcz c54, by omega⟩, by omega⟩, ⟨rfl, rfl, rfl, rfl, rfl, rfl, trivial⟩, ?_⟩
                         exact Ext.mid (B := [_, _]) (by (try simp only [List.eraseIdx_cons_zero, List.eraseIdx_cons_succ, List.set_cons_zero, List.set_cons_succ, List.cons_append, List.nil_append]); repeat (first | exact Ext.refl _ | apply Ext.both | apply Ext.skipc' | apply Ext.skipa')))
                      | exact ⟨c + 1, z, ⟨⟨by rw [lvC_skip hem]; exact hz, by rw [lvC_skip hem]; exact hcz, by omega⟩, by omega⟩, ⟨rfl, rfl, rfl, rfl, rfl, rfl, trivial⟩, Ext.refl _⟩
                · skip
                  refine OneK.loudY rfl rfl rfl rfl rfl c37 (Loud.litA sl41 rfl rfl rfl) ?_
                  rintro v47 _ rfl
                  refine ⟨(by (try simp only [List.eraseIdx_cons_zero, List.eraseIdx_cons_succ, List.set_cons_zero, List.set_cons_succ, List.cons_append, List.nil_append]); repeat (first | exact Ext.refl _ | apply Ext.both | apply Ext.skipc' | apply Ext.skipa')), ?_⟩
                  refine AnyK.one 13 (by kernel_rfl) ?_
                  refine OneK.loudY rfl rfl rfl rfl rfl c37 (Loud.append 1 rfl sl41 rfl rfl (RdL.own 3 rfl) (by exact edits_one es) (by omega) (by omega)) ?_
                  rintro v43 _ rfl
                  refine ⟨(by (try simp only [List.eraseIdx_cons_zero, List.eraseIdx_cons_succ, List.set_cons_zero, List.set_cons_succ, List.cons_append, List.nil_append]); repeat (first | exact Ext.refl _ | apply Ext.both | apply Ext.skipc' | apply Ext.skipa')), ?_⟩
                  refine AnyK.one 18 (by kernel_rfl) ?_
                  refine OneK.loudY rfl rfl rfl rfl rfl c37 (Loud.append 1 rfl sl41 rfl rfl (RdL.own 0 rfl) (by simp [Value.oneCell']) (by omega) (by omega)) ?_
                  rintro v48 _ rfl
                  refine ⟨(by (try simp only [List.eraseIdx_cons_zero, List.eraseIdx_cons_succ, List.set_cons_zero, List.set_cons_succ, List.cons_append, List.nil_append]); repeat (first | exact Ext.refl _ | apply Ext.both | apply Ext.skipc' | apply Ext.skipa')), ?_⟩
                  refine AnyK.one 22 (by kernel_rfl) ?_
                  refine OneK.loudY rfl rfl rfl rfl rfl c37 (Loud.callR fn110 rfl (fun w hw => f_i_Panel_changed w a b va m (k + i) (c : Int) (RdL.ext hva (by repeat (first | exact Ext.refl _ | apply Ext.both | apply Ext.skipc' | apply Ext.skipa')) w hw) (by omega) (by omega))) ?_
                  rintro v52 _ ⟨L52, hQ52, rfl⟩
                  obtain ⟨x52, h52, rfl, rfl⟩ := hQ52
                  refine ⟨(by (try simp only [List.eraseIdx_cons_zero, List.eraseIdx_cons_succ, List.set_cons_zero, List.set_cons_succ, List.cons_append, List.nil_append]); repeat (first | exact Ext.refl _ | apply Ext.both | apply Ext.skipc' | apply Ext.skipa')), ?_⟩
                  refine AnyK.one 23 (by kernel_rfl) ?_
                  refine OneK.loudY rfl rfl rfl rfl rfl c37 (Loud.callOF fn129 rfl rfl rfl (fun w hw => hih w (k + i + 1) (es ++ [(((k + i : Nat) : Int), (c : Int))]) (m.set (k + i) (c : Int)) _ _ _ z (d ++ (lvI q k es m i ++ lvC q (k + i) es m c)) (by first | exact Sat.tofrom (A := [_, _, _, _, _]) 1 rfl row_snoc hw | exact Sat.tofrom (A := [_, _, _, _, _]) 2 rfl row_snoc hw | exact Sat.tofrom (A := [_, _, _, _, _]) 3 rfl row_snoc hw) (hE.ext (by (try simp only [List.eraseIdx_cons_zero, List.eraseIdx_cons_succ, List.set_cons_zero, List.set_cons_succ, List.cons_append, List.nil_append]); repeat (first | exact Ext.refl _ | apply Ext.both | apply Ext.skipc' | apply Ext.skipa'))) hz (hI.add (Nat.le_add_right ..) (by omega) (by omega) hnm) (okP_set hok (k + i) (by omega) (by omega)) (by omega) (by rw [List.length_append, List.length_singleton]; omega) (by rw [List.length_append]; omega) (by rw [List.length_set]; exact RdL.own 0 rfl) h52)) ?_
                  rintro v53 L53 hQ53
                  obtain ⟨y53, rfl, hy53, rfl⟩ := hQ53
                  refine ⟨(by (try simp only [List.eraseIdx_cons_zero, List.eraseIdx_cons_succ, List.set_cons_zero, List.set_cons_succ, List.cons_append, List.nil_append]); repeat (first | exact Ext.refl _ | apply Ext.both | apply Ext.skipc' | apply Ext.skipa')), ?_⟩
                  refine AnyK.take 24 rfl (by kernel_rfl) rfl (QOp.pure (Pure.pickT rfl c37 rfl)) ?_
                  refine AnyK.done (by kernel_rfl) ?_
                  refine Run.cond rfl (fun c54 => ?_) (fun c54 => ?_)
                  · skip
                    skip
                    refine Run.seq ?_
                    refine Run.region ?_
                    refine Ops.pure rfl (Pure.assign rfl) ?_
                    refine Ops.nil ?_
                    refine Run.ext_ (L' := H y53 ++ F) (Ext.under (by (try simp only [List.eraseIdx_cons_zero, List.eraseIdx_cons_succ, List.set_cons_zero, List.set_cons_succ, List.cons_append, List.nil_append]); repeat (first | exact Ext.refl _ | apply Ext.both | apply Ext.skipc' | apply Ext.skipa'))) ?_
                    refine Run.ret1 rfl rfl ?_
                    rw [cut_hit (by omega) (by omega) hnm hcz c54]
                    exact ⟨y53, rfl, by rw [← List.append_assoc]; exact hy53, rfl⟩
                  · skip
                    skip
                    refine Run.skip ?_
                    refine Run.blk ?_
                    refine Run.region ?_
                    refine Ops.pure rfl (Pure.add rfl rfl (by omega) (by omega)) ?_
                    refine Ops.pure rfl (Pure.move rfl) ?_
                    refine Ops.nil ?_
                    refine Run.asrt ?_
                    first
                      | (refine ⟨c + 1, y53, ⟨⟨by rw [cut_keep c54, ← List.append_assoc] at hy53; rw [lvC_take hnm]; simpa only [List.append_assoc] using hy53, cut_more hnm hcz c54, by omega⟩, by omega⟩, ⟨rfl, rfl, rfl, rfl, rfl, rfl, trivial⟩, ?_⟩
                         exact Ext.mid (B := [_, _]) (by (try simp only [List.eraseIdx_cons_zero, List.eraseIdx_cons_succ, List.set_cons_zero, List.set_cons_succ, List.cons_append, List.nil_append]); repeat (first | exact Ext.refl _ | apply Ext.both | apply Ext.skipc' | apply Ext.skipa')))
                      | exact ⟨c + 1, z, ⟨⟨by rw [lvC_skip hem]; exact hz, by rw [lvC_skip hem]; exact hcz, by omega⟩, by omega⟩, ⟨rfl, rfl, rfl, rfl, rfl, rfl, trivial⟩, Ext.refl _⟩
              · skip
                refine OneK.loudY rfl rfl rfl rfl rfl c37 (Loud.litA sl41 rfl rfl rfl) ?_
                rintro v47 _ rfl
                refine ⟨(by (try simp only [List.eraseIdx_cons_zero, List.eraseIdx_cons_succ, List.set_cons_zero, List.set_cons_succ, List.cons_append, List.nil_append]); repeat (first | exact Ext.refl _ | apply Ext.both | apply Ext.skipc' | apply Ext.skipa')), ?_⟩
                refine AnyK.one 11 (by kernel_rfl) ?_
                refine OneK.loudY rfl rfl rfl rfl rfl c37 (Loud.lit0 sl41) ?_
                rintro v41 _ rfl
                refine ⟨(by (try simp only [List.eraseIdx_cons_zero, List.eraseIdx_cons_succ, List.set_cons_zero, List.set_cons_succ, List.cons_append, List.nil_append]); repeat (first | exact Ext.refl _ | apply Ext.both | apply Ext.skipc' | apply Ext.skipa')), ?_⟩
                refine AnyK.one 13 (by kernel_rfl) ?_
                refine OneK.loudY rfl rfl rfl rfl rfl c37 (Loud.append 0 rfl sl41 rfl rfl (RdL.own 3 rfl) (by exact edits_one es) (by omega) (by omega)) ?_
                rintro v43 _ rfl
                refine ⟨(by (try simp only [List.eraseIdx_cons_zero, List.eraseIdx_cons_succ, List.set_cons_zero, List.set_cons_succ, List.cons_append, List.nil_append]); repeat (first | exact Ext.refl _ | apply Ext.both | apply Ext.skipc' | apply Ext.skipa')), ?_⟩
                refine AnyK.one 18 (by kernel_rfl) ?_
                refine OneK.loudY rfl rfl rfl rfl rfl c37 (Loud.append 0 rfl sl41 rfl rfl (RdL.own 1 rfl) (by simp [Value.oneCell']) (by omega) (by omega)) ?_
                rintro v48 _ rfl
                refine ⟨(by (try simp only [List.eraseIdx_cons_zero, List.eraseIdx_cons_succ, List.set_cons_zero, List.set_cons_succ, List.cons_append, List.nil_append]); repeat (first | exact Ext.refl _ | apply Ext.both | apply Ext.skipc' | apply Ext.skipa')), ?_⟩
                refine AnyK.one 22 (by kernel_rfl) ?_
                refine OneK.loudY rfl rfl rfl rfl rfl c37 (Loud.callR fn110 rfl (fun w hw => f_i_Panel_changed w a b va m (k + i) (c : Int) (RdL.ext hva (by repeat (first | exact Ext.refl _ | apply Ext.both | apply Ext.skipc' | apply Ext.skipa')) w hw) (by omega) (by omega))) ?_
                rintro v52 _ ⟨L52, hQ52, rfl⟩
                obtain ⟨x52, h52, rfl, rfl⟩ := hQ52
                refine ⟨(by (try simp only [List.eraseIdx_cons_zero, List.eraseIdx_cons_succ, List.set_cons_zero, List.set_cons_succ, List.cons_append, List.nil_append]); repeat (first | exact Ext.refl _ | apply Ext.both | apply Ext.skipc' | apply Ext.skipa')), ?_⟩
                refine AnyK.one 23 (by kernel_rfl) ?_
                refine OneK.loudY rfl rfl rfl rfl rfl c37 (Loud.callOF fn129 rfl rfl rfl (fun w hw => hih w (k + i + 1) (es ++ [(((k + i : Nat) : Int), (c : Int))]) (m.set (k + i) (c : Int)) _ _ _ z (d ++ (lvI q k es m i ++ lvC q (k + i) es m c)) (by first | exact Sat.tofrom (A := [_, _, _, _, _]) 1 rfl row_snoc hw | exact Sat.tofrom (A := [_, _, _, _, _]) 2 rfl row_snoc hw | exact Sat.tofrom (A := [_, _, _, _, _]) 3 rfl row_snoc hw) (hE.ext (by (try simp only [List.eraseIdx_cons_zero, List.eraseIdx_cons_succ, List.set_cons_zero, List.set_cons_succ, List.cons_append, List.nil_append]); repeat (first | exact Ext.refl _ | apply Ext.both | apply Ext.skipc' | apply Ext.skipa'))) hz (hI.add (Nat.le_add_right ..) (by omega) (by omega) hnm) (okP_set hok (k + i) (by omega) (by omega)) (by omega) (by rw [List.length_append, List.length_singleton]; omega) (by rw [List.length_append]; omega) (by rw [List.length_set]; exact RdL.own 0 rfl) h52)) ?_
                rintro v53 L53 hQ53
                obtain ⟨y53, rfl, hy53, rfl⟩ := hQ53
                refine ⟨(by (try simp only [List.eraseIdx_cons_zero, List.eraseIdx_cons_succ, List.set_cons_zero, List.set_cons_succ, List.cons_append, List.nil_append]); repeat (first | exact Ext.refl _ | apply Ext.both | apply Ext.skipc' | apply Ext.skipa')), ?_⟩
                refine AnyK.take 24 rfl (by kernel_rfl) rfl (QOp.pure (Pure.pickT rfl c37 rfl)) ?_
                refine AnyK.done (by kernel_rfl) ?_
                refine Run.cond rfl (fun c54 => ?_) (fun c54 => ?_)
                · skip
                  skip
                  refine Run.seq ?_
                  refine Run.region ?_
                  refine Ops.pure rfl (Pure.assign rfl) ?_
                  refine Ops.nil ?_
                  refine Run.ext_ (L' := H y53 ++ F) (Ext.under (by (try simp only [List.eraseIdx_cons_zero, List.eraseIdx_cons_succ, List.set_cons_zero, List.set_cons_succ, List.cons_append, List.nil_append]); repeat (first | exact Ext.refl _ | apply Ext.both | apply Ext.skipc' | apply Ext.skipa'))) ?_
                  refine Run.ret1 rfl rfl ?_
                  rw [cut_hit (by omega) (by omega) hnm hcz c54]
                  exact ⟨y53, rfl, by rw [← List.append_assoc]; exact hy53, rfl⟩
                · skip
                  skip
                  refine Run.skip ?_
                  refine Run.blk ?_
                  refine Run.region ?_
                  refine Ops.pure rfl (Pure.add rfl rfl (by omega) (by omega)) ?_
                  refine Ops.pure rfl (Pure.move rfl) ?_
                  refine Ops.nil ?_
                  refine Run.asrt ?_
                  first
                    | (refine ⟨c + 1, y53, ⟨⟨by rw [cut_keep c54, ← List.append_assoc] at hy53; rw [lvC_take hnm]; simpa only [List.append_assoc] using hy53, cut_more hnm hcz c54, by omega⟩, by omega⟩, ⟨rfl, rfl, rfl, rfl, rfl, rfl, trivial⟩, ?_⟩
                       exact Ext.mid (B := [_, _]) (by (try simp only [List.eraseIdx_cons_zero, List.eraseIdx_cons_succ, List.set_cons_zero, List.set_cons_succ, List.cons_append, List.nil_append]); repeat (first | exact Ext.refl _ | apply Ext.both | apply Ext.skipc' | apply Ext.skipa')))
                    | exact ⟨c + 1, z, ⟨⟨by rw [lvC_skip hem]; exact hz, by rw [lvC_skip hem]; exact hcz, by omega⟩, by omega⟩, ⟨rfl, rfl, rfl, rfl, rfl, rfl, trivial⟩, Ext.refl _⟩
            · skip
              have c37' := nF c37
              have hem : (c : Int) = m.getD (k + i) 0 := by rw [hmk]; exact c37'
              refine AnyK.takeN 8 rfl (by kernel_rfl) rfl rfl rfl rfl (by rw [c37]; decide) ?_
              refine AnyK.takeN 9 rfl (by kernel_rfl) rfl rfl rfl rfl (by rw [c37]; decide) ?_
              refine AnyK.takeN 10 rfl (by kernel_rfl) rfl rfl rfl rfl (by rw [c37]; decide) ?_
              refine AnyK.takeN 11 rfl (by kernel_rfl) rfl rfl rfl rfl (by rw [c37]; decide) ?_
              refine AnyK.takeN 12 rfl (by kernel_rfl) rfl rfl rfl rfl (by rw [c37]; decide) ?_
              refine AnyK.takeN 13 rfl (by kernel_rfl) rfl rfl rfl rfl (by rw [c37]; decide) ?_
              refine AnyK.takeN 14 rfl (by kernel_rfl) rfl rfl rfl rfl (by rw [c37]; decide) ?_
              refine AnyK.takeN 15 rfl (by kernel_rfl) rfl rfl rfl rfl (by rw [c37]; decide) ?_
              refine AnyK.takeN 16 rfl (by kernel_rfl) rfl rfl rfl rfl (by rw [c37]; decide) ?_
              refine AnyK.takeN 17 rfl (by kernel_rfl) rfl rfl rfl rfl (by rw [c37]; decide) ?_
              refine AnyK.takeN 18 rfl (by kernel_rfl) rfl rfl rfl rfl (by rw [c37]; decide) ?_
              refine AnyK.takeN 19 rfl (by kernel_rfl) rfl rfl rfl rfl (by rw [c37]; decide) ?_
              refine AnyK.takeN 20 rfl (by kernel_rfl) rfl rfl rfl rfl (by rw [c37]; decide) ?_
              refine AnyK.takeN 21 rfl (by kernel_rfl) rfl rfl rfl rfl (by rw [c37]; decide) ?_
              refine AnyK.takeN 22 rfl (by kernel_rfl) rfl rfl rfl rfl (by rw [c37]; decide) ?_
              refine AnyK.takeN 23 rfl (by kernel_rfl) rfl rfl rfl rfl (by rw [c37]; decide) ?_
              refine AnyK.take 24 rfl (by kernel_rfl) rfl (QOp.pure (Pure.pickF rfl c37 rfl)) ?_
              refine AnyK.done (by kernel_rfl) ?_
              refine Run.condEF rfl rfl ?_
              refine Run.skip ?_
              refine Run.blk ?_
              refine Run.region ?_
              refine Ops.pure rfl (Pure.add rfl rfl (by omega) (by omega)) ?_
              refine Ops.pure rfl (Pure.move rfl) ?_
              refine Ops.nil ?_
              refine Run.asrt ?_
              first
                | (refine ⟨c + 1, y53, ⟨⟨by rw [cut_keep c54, ← List.append_assoc] at hy53; rw [lvC_take hnm]; simpa only [List.append_assoc] using hy53, cut_more hnm hcz c54, by omega⟩, by omega⟩, ⟨rfl, rfl, rfl, rfl, rfl, rfl, trivial⟩, ?_⟩
                   exact Ext.mid (B := [_, _]) (by (try simp only [List.eraseIdx_cons_zero, List.eraseIdx_cons_succ, List.set_cons_zero, List.set_cons_succ, List.cons_append, List.nil_append]); repeat (first | exact Ext.refl _ | apply Ext.both | apply Ext.skipc' | apply Ext.skipa')))
                | exact ⟨c + 1, z, ⟨⟨by rw [lvC_skip hem]; exact hz, by rw [lvC_skip hem]; exact hcz, by omega⟩, by omega⟩, ⟨rfl, rfl, rfl, rfl, rfl, rfl, trivial⟩, Ext.refl _⟩
          · skip
            replace c28 := dF c28
            refine Run.exit rfl ?_
            refine Run.blk ?_
            refine Run.region ?_
            refine Ops.pure rfl (Pure.move rfl) ?_
            refine Ops.pure rfl (Pure.add rfl rfl (by omega) (by omega)) ?_
            refine Ops.pure rfl (Pure.assign rfl) ?_
            refine Ops.nil ?_
            refine Run.asrt ?_
            have e : c = 3 := by omega
            subst e
            exact ⟨i + 1, z, ⟨⟨by rw [lvI_succ]; exact hz, by rw [lvI_succ]; exact hcz, by omega⟩, by omega⟩, ⟨rfl, rfl, rfl, rfl, rfl, trivial⟩, Ext.refl _⟩
      · skip
        replace c24 := dF c24
        refine Run.exit rfl ?_
        refine Run.seq ?_
        refine Run.region ?_
        refine Ops.pure rfl (Pure.assign rfl) ?_
        refine Ops.nil ?_
        refine Run.ext_ (L' := H y ++ F) (by (try simp only [List.eraseIdx_cons_zero, List.eraseIdx_cons_succ, List.set_cons_zero, List.set_cons_succ, List.cons_append, List.nil_append]); repeat (first | exact Ext.refl _ | apply Ext.both | apply Ext.skipc' | apply Ext.skipa')) ?_
        refine Run.ret1 rfl rfl ?_
        rw [lv_succ, show m.length - k = i by omega, hcy, cut_keep hcy]
        exact ⟨y, rfl, hy, rfl⟩

end Go.Proofs.Ytkplanpcmkbfiaa
