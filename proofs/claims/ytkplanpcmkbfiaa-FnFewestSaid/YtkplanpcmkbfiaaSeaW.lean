/- Contracts of functions, printed by program from annotations. -/
import Derived.Test.YtkplanpcmkbfiaaSeaS
namespace Go.Proofs.Ytkplanpcmkbfiaa
open Go Go.AW Go.RowKit
set_option linter.unusedVariables false
set_option linter.unusedSimpArgs false

theorem row_snoc1 {t : Nat} {v : Value} {es : List (Int × Int)} {e : Int × Int} : Ent.row t 2 v (es.length + 1) (edits es ++ encE e) = Ent.row t 2 v (es ++ [e]).length (edits (es ++ [e])) := by
  rw [List.length_append, List.length_singleton, edits_append]
  rfl
def WalkOk (w0 : World) (bs : Nat) (a b c : Int) (once : Bool) (n : Nat) : Prop :=
  ∀ (w : World) (k : Nat) (vb vn vf va : Value) (d : List Lf) (es : List (Int × Int)) (m : List Int) (F : List Ent), Sat w0 w (.box bs 93 [.int .i64 a, .int .i64 b, vb, .int .i64 c, vn, vf, .bool ((d).any (hitC a b c)), .int .i64 ((cnL a b c (d) : Nat) : Int), .int .i64 (leastL (alL a b (d))), .int .i64 (mostL (alL a b (d))), va] :: .row 2 1 vb (m).length (ints (m)) :: .row 74 2 vn (es).length (edits (es)) :: .row 74 2 vf (fsE a b c (d)).length (edits (fsE a b c (d))) :: .row 2 1 va (d).length (ints (alL a b (d))) :: F) → okP a b m = true → m.length ≤ 12 → k ≤ m.length → es.length + n ≤ 3 → d.length + (lv n k es m).length ≤ 999999 → (∀ x ∈ d, okP a b x.2 = true) → (once = true → d.any (hitC a b c) = false) →
    RetO Try.prog 127 [.pointer (some ⟨bs, 0, none⟩), .int .i64 (k : Int), .int .i64 (n : Int), .bool once] w0 w (fun u L => ∃ vn' vf' va', u = .tuple #[] ∧ L = .box bs 93 [.int .i64 a, .int .i64 b, vb, .int .i64 c, vn', vf', .bool ((d ++ (cut (hitO once a b c) (lv n k es m)).1).any (hitC a b c)), .int .i64 ((cnL a b c (d ++ (cut (hitO once a b c) (lv n k es m)).1) : Nat) : Int), .int .i64 (leastL (alL a b (d ++ (cut (hitO once a b c) (lv n k es m)).1))), .int .i64 (mostL (alL a b (d ++ (cut (hitO once a b c) (lv n k es m)).1))), va'] :: .row 2 1 vb (m).length (ints (m)) :: .row 74 2 vn' (es).length (edits (es)) :: .row 74 2 vf' (fsE a b c (d ++ (cut (hitO once a b c) (lv n k es m)).1)).length (edits (fsE a b c (d ++ (cut (hitO once a b c) (lv n k es m)).1))) :: .row 2 1 va' (d ++ (cut (hitO once a b c) (lv n k es m)).1).length (ints (alL a b (d ++ (cut (hitO once a b c) (lv n k es m)).1))) :: F)

set_option maxRecDepth 4000 in
set_option maxHeartbeats 800000 in
/-- (*spec.l11S).walk -/
theorem f_walk1 (w0 : World) (w : World) (bs : Nat) (a : Int) (b : Int) (c : Int) (once : Bool) (n : Nat) (k : Nat) (vb : Value) (vn : Value) (vf : Value) (va : Value) (d : List Lf) (es : List (Int × Int)) (m : List Int) (F : List Ent) (ih : ∀ q, n = q + 1 → WalkOk w0 bs a b c once q) (hw : Sat w0 w (.box bs 93 [.int .i64 a, .int .i64 b, vb, .int .i64 c, vn, vf, .bool ((d).any (hitC a b c)), .int .i64 ((cnL a b c (d) : Nat) : Int), .int .i64 (leastL (alL a b (d))), .int .i64 (mostL (alL a b (d))), va] :: .row 2 1 vb (m).length (ints (m)) :: .row 74 2 vn (es).length (edits (es)) :: .row 74 2 vf (fsE a b c (d)).length (edits (fsE a b c (d))) :: .row 2 1 va (d).length (ints (alL a b (d))) :: F)) (hok : okP a b m = true) (hm12 : m.length ≤ 12) (hk : k ≤ m.length) (hn : es.length + n ≤ 3) (hd : d.length + (lv n k es m).length ≤ 999999) (hpos : ∀ x ∈ d, okP a b x.2 = true) (hnf : once = true → d.any (hitC a b c) = false) : RetO Try.prog 127 [.pointer (some ⟨bs, 0, none⟩), .int .i64 (k : Int), .int .i64 (n : Int), .bool once] w0 w (fun u L => ∃ vn' vf' va', u = .tuple #[] ∧ L = .box bs 93 [.int .i64 a, .int .i64 b, vb, .int .i64 c, vn', vf', .bool ((d ++ (cut (hitO once a b c) (lv n k es m)).1).any (hitC a b c)), .int .i64 ((cnL a b c (d ++ (cut (hitO once a b c) (lv n k es m)).1) : Nat) : Int), .int .i64 (leastL (alL a b (d ++ (cut (hitO once a b c) (lv n k es m)).1))), .int .i64 (mostL (alL a b (d ++ (cut (hitO once a b c) (lv n k es m)).1))), va'] :: .row 2 1 vb (m).length (ints (m)) :: .row 74 2 vn' (es).length (edits (es)) :: .row 74 2 vf' (fsE a b c (d ++ (cut (hitO once a b c) (lv n k es m)).1)).length (edits (fsE a b c (d ++ (cut (hitO once a b c) (lv n k es m)).1))) :: .row 2 1 va' (d ++ (cut (hitO once a b c) (lv n k es m)).1).length (ints (alL a b (d ++ (cut (hitO once a b c) (lv n k es m)).1))) :: F) := by
  refine RetO.enter Try.func127 rfl Try.ntmps127 rfl hw ?_
  refine Run.seq ?_
  refine Run.seq ?_
  refine Run.region ?_
  refine Ops.pure rfl (Pure.move rfl) ?_
  refine Ops.pure rfl (Pure.eql rfl rfl) ?_
  refine Ops.nil ?_
  refine Run.cond rfl (fun c12 => ?_) (fun c12 => ?_)
  · skip
    replace c12 := dT c12
    refine Run.seq ?_
    refine Run.region ?_
    refine Ops.pure rfl (Pure.move rfl) ?_
    refine Ops.go rfl (Loud.callO fn163 rfl (fun w hw => f_s_l11S_note _ w bs a b c vb vn vf va d es m F hw (by omega) (by omega) hok hpos)) ?_
    rintro v14 L14 hQ14
    obtain ⟨vf14, va14, rfl, rfl⟩ := hQ14
    refine Ops.nil ?_
    obtain rfl : n = 0 := by omega
    refine Run.ret0 rfl ?_
    rw [lv_zero, cut_one]
    exact ⟨_, _, _, rfl, rfl⟩
  · skip
    replace c12 := dF c12
    obtain ⟨q, rfl⟩ : ∃ q, n = q + 1 := ⟨n - 1, by omega⟩
    have hih := ih q rfl
    refine Run.skip ?_
    refine Run.seq ?_
    refine Run.region ?_
    refine Ops.pure rfl (Pure.move rfl) ?_
    refine Ops.pure rfl (Pure.assign rfl) ?_
    refine Ops.nil ?_
    refine Run.block ?_
    refine Run.loop4 (X := Nat) (Y := Value) (Z := Value) (V := Value) (fun i vn1 vf1 va1 => [(0, .pointer (some ⟨bs, 0, none⟩)), (2, .int .i64 ((q + 1 : Nat) : Int)), (3, .bool once), (8, .int .i64 ((k + i : Nat) : Int))]) (fun i vn1 vf1 va1 => .box bs 93 [.int .i64 a, .int .i64 b, vb, .int .i64 c, vn1, vf1, .bool ((d ++ (cut (hitO once a b c) (lvI q k es m i)).1).any (hitC a b c)), .int .i64 ((cnL a b c (d ++ (cut (hitO once a b c) (lvI q k es m i)).1) : Nat) : Int), .int .i64 (leastL (alL a b (d ++ (cut (hitO once a b c) (lvI q k es m i)).1))), .int .i64 (mostL (alL a b (d ++ (cut (hitO once a b c) (lvI q k es m i)).1))), va1] :: .row 2 1 vb (m).length (ints (m)) :: .row 74 2 vn1 (es).length (edits (es)) :: .row 74 2 vf1 (fsE a b c (d ++ (cut (hitO once a b c) (lvI q k es m i)).1)).length (edits (fsE a b c (d ++ (cut (hitO once a b c) (lvI q k es m i)).1))) :: .row 2 1 va1 (d ++ (cut (hitO once a b c) (lvI q k es m i)).1).length (ints (alL a b (d ++ (cut (hitO once a b c) (lvI q k es m i)).1))) :: F) (fun i vn1 vf1 va1 => k + i ≤ m.length) (fun i vn1 vf1 va1 => m.length - (k + i)) 0 vn vf va ?_ ?_ ?_ ?_
    · exact hk
    · exact ⟨rfl, rfl, rfl, rfl, trivial⟩
    · exact Ext.eq (by rw [lvI_zero]; rw [show (cut (hitO once a b c) ([] : List Lf)).1 = [] from rfl, List.append_nil])
    · intro i vn1 vf1 va1 hinv0
      refine Run.seq ?_
      refine Run.seq ?_
      refine Run.region ?_
      refine Ops.pure rfl (Pure.move rfl) ?_
      refine Ops.pure rfl (Pure.move rfl) ?_
      refine Ops.pure rfl (Pure.nilchk rfl) ?_
      refine Ops.pure rfl (Pure.fieldAddrB fld93_0 rfl) ?_
      refine Ops.pure rfl (Pure.fieldAddrB fld28_2 rfl) ?_
      refine Ops.pure rfl (Pure.ldB 0 rfl cell22 rfl rfl) ?_
      refine Ops.pure rfl (Pure.len sl22 (RdL.own 1 rfl) rfl) ?_
      refine Ops.pure rfl (Pure.lss rfl rfl) ?_
      refine Ops.pure rfl (Pure.move rfl) ?_
      refine Ops.guard rfl rfl rfl rfl (fun c24 => ?_) (fun c24 => ?_)
      · skip
        have c24' := dT c24
        refine Ops.pure rfl (Pure.move rfl) ?_
        refine Ops.guardY rfl rfl rfl c24 ?_
        refine Ops.pure rfl (Pure.move rfl) ?_
        refine Ops.guard rfl rfl rfl rfl (fun c26 => ?_) (fun c26 => ?_)
        · skip
          have c26' := c26
          refine Ops.pure rfl (Pure.move rfl) ?_
          refine Ops.guardY rfl rfl rfl c26 ?_
          refine Ops.pure rfl (Pure.nilchk rfl) ?_
          refine Ops.guardY rfl rfl rfl c26 ?_
          refine Ops.pure rfl (Pure.fieldAddrB fld93_4 rfl) ?_
          refine Ops.guardY rfl rfl rfl c26 ?_
          refine Ops.pure rfl (Pure.ldB 0 rfl cell4 rfl rfl) ?_
          refine Ops.guardY rfl rfl rfl c24 ?_
          refine Ops.pure rfl (Pure.pickT rfl c26 rfl) ?_
          refine Ops.guardY rfl rfl rfl c24 ?_
          refine Ops.pure rfl (Pure.not rfl) ?_
          refine Ops.pure rfl (Pure.pickT rfl c24 rfl) ?_
          refine Ops.nil ?_
          refine Run.cond rfl (fun c33 => ?_) (fun c33 => ?_)
          · skip
            replace c33 := bT c33
            refine Run.skip ?_
            refine Run.seq ?_
            refine Run.block ?_
            refine Run.seq ?_
            have hgo : (cut (hitO once a b c) (lvI q k es m i)).2 = false := by
              first
                | exact cut_off (by assumption) _
                | (rw [← found_iff hnf (by assumption)]; assumption)
            have hki2 : k + i < m.length := by omega
            have hmk := (okP_spec hok).2.2 _ (mem_getD 0 hki2)
            refine Run.region ?_
            refine Ops.pure rfl (Pure.move rfl) ?_
            refine Ops.pure rfl (Pure.nilchk rfl) ?_
            refine Ops.pure rfl (Pure.fieldAddrB fld93_0 rfl) ?_
            refine Ops.pure rfl (Pure.fieldAddrB fld28_2 rfl) ?_
            refine Ops.pure rfl (Pure.ldB 0 rfl cell22 rfl rfl) ?_
            refine Ops.pure rfl (Pure.move rfl) ?_
            refine Ops.pure rfl (Pure.idx1N sl22 (RdL.own 1 rfl) rfl rfl (by first | assumption | omega | (simp; omega))) ?_
            refine Ops.pure rfl (Pure.ld cell2 rfl (RdL.own 1 rfl) (by first | exact ints_get (by omega) | exact bools_get (by omega) | exact strs_get (by omega) | exact vals_get (by first | omega | (simp; omega)))) ?_
            refine Ops.pure rfl (Pure.assign rfl) ?_
            refine Ops.nil ?_
            refine Run.seq ?_
            refine Run.seq ?_
            refine Run.region ?_
            refine Ops.pure rfl (Pure.assign rfl) ?_
            refine Ops.nil ?_
            refine Run.block ?_
            refine Run.loop4 (X := Nat) (Y := Int) (Z := Value) (V := Value × Value) (fun g y vn2 vv => [(0, .pointer (some ⟨bs, 0, none⟩)), (2, .int .i64 ((q + 1 : Nat) : Int)), (3, .bool once), (8, .int .i64 ((k + i : Nat) : Int)), (9, .int .i64 (m.getD (k + i) 0)), (10, .int .i64 g)]) (fun g y vn2 vv => .box bs 93 [.int .i64 a, .int .i64 b, vb, .int .i64 c, vn2, vv.1, .bool ((d ++ (lvI q k es m i ++ lvC q (k + i) es m g)).any (hitC a b c)), .int .i64 ((cnL a b c (d ++ (lvI q k es m i ++ lvC q (k + i) es m g)) : Nat) : Int), .int .i64 (leastL (alL a b (d ++ (lvI q k es m i ++ lvC q (k + i) es m g)))), .int .i64 (mostL (alL a b (d ++ (lvI q k es m i ++ lvC q (k + i) es m g)))), vv.2] :: .row 2 1 vb (m.set (k + i) y).length (ints (m.set (k + i) y)) :: .row 74 2 vn2 (es).length (edits (es)) :: .row 74 2 vv.1 (fsE a b c (d ++ (lvI q k es m i ++ lvC q (k + i) es m g))).length (edits (fsE a b c (d ++ (lvI q k es m i ++ lvC q (k + i) es m g)))) :: .row 2 1 vv.2 (d ++ (lvI q k es m i ++ lvC q (k + i) es m g)).length (ints (alL a b (d ++ (lvI q k es m i ++ lvC q (k + i) es m g)))) :: F) (fun g y vn2 vv => g ≤ 3 ∧ (cut (hitO once a b c) (lvI q k es m i ++ lvC q (k + i) es m g)).2 = false ∧ 0 ≤ y ∧ y ≤ 2) (fun g y vn2 vv => 3 - g) 0 (m.getD (k + i) 0) vn1 (vf1, va1) ?_ ?_ ?_ ?_
            · exact ⟨by omega, by rw [lvC_zero, List.append_nil]; exact hgo, hmk.1, hmk.2⟩
            · exact ⟨rfl, rfl, rfl, rfl, rfl, rfl, trivial⟩
            · exact Ext.eq (by rw [set_self, lvC_zero, List.append_nil, cut_keep hgo])
            · rintro g y vn2 vv ⟨hg3, hcg, hy0, hy2⟩
              have hsl : (m.set (k + i) y).length = m.length := List.length_set
              have hil : (ints (m.set (k + i) y)).length = m.length := by rw [ints, List.length_map]; exact hsl
              refine Run.seq ?_
              refine Run.seq ?_
              refine Run.region ?_
              refine Ops.pure rfl (Pure.move rfl) ?_
              refine Ops.pure rfl (Pure.leq rfl rfl) ?_
              refine Ops.nil ?_
              refine Run.cond rfl (fun c45 => ?_) (fun c45 => ?_)
              · skip
                replace c45 := dT c45
                refine Run.skip ?_
                refine Run.seq ?_
                refine Run.block ?_
                refine Run.seq ?_
                refine Run.seq ?_
                refine Run.region ?_
                refine Ops.pure rfl (Pure.move rfl) ?_
                refine Ops.pure rfl (Pure.move rfl) ?_
                refine Ops.pure rfl (Pure.eql rfl rfl) ?_
                refine Ops.nil ?_
                refine Run.cond rfl (fun c50 => ?_) (fun c50 => ?_)
                · skip
                  replace c50 := dT c50
                  have heq : (g : Int) = m.getD (k + i) 0 := by omega
                  refine Run.exit rfl ?_
                  refine Run.region ?_
                  refine Ops.pure rfl (Pure.move rfl) ?_
                  refine Ops.pure rfl (Pure.add rfl rfl (by omega) (by omega)) ?_
                  refine Ops.pure rfl (Pure.assign rfl) ?_
                  refine Ops.nil ?_
                  refine Run.asrt ?_
                  first
                    | exact ⟨g + 1, y, vn2, vv, ⟨⟨by omega, by rw [lvC_skip heq]; exact hcg, hy0, hy2⟩, by omega⟩, ⟨rfl, rfl, rfl, rfl, rfl, rfl, trivial⟩, Ext.eq (by rw [lvC_skip heq])⟩
                    | (have hB2 : (cut (hitO once a b c) (lv q (k + i + 1) (es ++ [(((k + i : Nat) : Int), (g : Int))]) (m.set (k + i) (g : Int)))).2 = false := by
                         first
                           | exact cut_off (by assumption) _
                           | (rw [← hfi (by assumption)]; assumption)
                       refine ⟨g + 1, (g : Int), (subS vn77 2 0 (((es ++ [(((k + i : Nat) : Int), (g : Int))]).length : Int) - 1).toNat), (vf77, va77), ⟨⟨by omega, cut_more hne hcg hB2, by omega, by omega⟩, by omega⟩, ⟨rfl, rfl, rfl, rfl, rfl, rfl, trivial⟩, Ext.eq ?_⟩
                       rw [lvC_take hne, cut_keep hB2]
                       simp only [List.append_assoc]
                       rfl)
                · skip
                  replace c50 := dF c50
                  have hne : ¬ (g : Int) = m.getD (k + i) 0 := by omega
                  obtain ⟨rst, hrst⟩ := lv_pre (q := q) (es := es) hki2 (show g < 3 by omega) hne
                  have hlen := congrArg List.length hrst
                  rw [List.length_append, List.length_append] at hlen
                  have hl1 : (es ++ [(((k + i : Nat) : Int), (g : Int))]).length = es.length + 1 := by rw [List.length_append, List.length_singleton]
                  refine Run.skip ?_
                  refine Run.seq ?_
                  refine Run.region ?_
                  refine Ops.pure rfl (Pure.move rfl) ?_
                  refine Ops.pure rfl (Pure.nilchk rfl) ?_
                  refine Ops.pure rfl (Pure.fieldAddrB fld93_0 rfl) ?_
                  refine Ops.pure rfl (Pure.fieldAddrB fld28_2 rfl) ?_
                  refine Ops.pure rfl (Pure.ldB 0 rfl cell22 rfl rfl) ?_
                  refine Ops.pure rfl (Pure.move rfl) ?_
                  refine Ops.pure rfl (Pure.move rfl) ?_
                  refine Ops.pure rfl (Pure.idx1N sl22 (RdL.own 1 rfl) rfl rfl (by first | assumption | omega | (simp; omega))) ?_
                  refine Ops.store (Stores.row1 1 rfl size2 rfl rfl rfl (by first | assumption | omega | (simp; omega))) ?_
                  refine Ops.nil ?_
                  refine Run.seq ?_
                  refine Run.ext_ (L' := .box bs 93 [.int .i64 a, .int .i64 b, vb, .int .i64 c, vn2, vv.1, .bool ((d ++ (lvI q k es m i ++ lvC q (k + i) es m g)).any (hitC a b c)), .int .i64 ((cnL a b c (d ++ (lvI q k es m i ++ lvC q (k + i) es m g)) : Nat) : Int), .int .i64 (leastL (alL a b (d ++ (lvI q k es m i ++ lvC q (k + i) es m g)))), .int .i64 (mostL (alL a b (d ++ (lvI q k es m i ++ lvC q (k + i) es m g)))), vv.2] :: .row 2 1 vb (m.set (k + i) (g : Int)).length (ints (m.set (k + i) (g : Int))) :: .row 74 2 vn2 (es).length (edits (es)) :: .row 74 2 vv.1 (fsE a b c (d ++ (lvI q k es m i ++ lvC q (k + i) es m g))).length (edits (fsE a b c (d ++ (lvI q k es m i ++ lvC q (k + i) es m g)))) :: .row 2 1 vv.2 (d ++ (lvI q k es m i ++ lvC q (k + i) es m g)).length (ints (alL a b (d ++ (lvI q k es m i ++ lvC q (k + i) es m g)))) :: F) (Ext.eq (by rw [set_twice, List.length_set, List.length_set]; rfl)) ?_
                  refine Run.region ?_
                  refine Ops.pure rfl (Pure.move rfl) ?_
                  refine Ops.pure rfl (Pure.move rfl) ?_
                  refine Ops.pure rfl (Pure.nilchk rfl) ?_
                  refine Ops.pure rfl (Pure.fieldAddrB fld93_2 rfl) ?_
                  refine Ops.pure rfl (Pure.ldB 0 rfl cell41 rfl rfl) ?_
                  refine Ops.pure rfl (Pure.move rfl) ?_
                  refine Ops.pure rfl (Pure.move rfl) ?_
                  refine Ops.pure rfl (Pure.build rfl (bld74_2 _ _ (by first | rfl | assumption) (by first | rfl | assumption))) ?_
                  refine Ops.go rfl (Loud.litA sl41 rfl rfl rfl) ?_
                  rintro v67 _ rfl
                  refine Ops.go rfl (Loud.append 3 rfl sl41 rfl rfl (RdL.own 0 rfl) (by simp [Value.oneCell']) (by omega) (by omega)) ?_
                  rintro v68 _ rfl
                  refine Ops.pure rfl (Pure.nilchk rfl) ?_
                  refine Ops.pure rfl (Pure.fieldAddrB fld93_2 rfl) ?_
                  refine Ops.have_ (fun w hw => row_one 3 hw rfl) (fun h68 => ?_)
                  refine Ops.store (Stores.box1 1 rfl rfl rfl size41 h68 rfl) ?_
                  refine Ops.nil ?_
                  refine Run.seq ?_
                  refine Run.ext_ (L' := .box bs 93 [.int .i64 a, .int .i64 b, vb, .int .i64 c, v68, vv.1, .bool ((d ++ (lvI q k es m i ++ lvC q (k + i) es m g)).any (hitC a b c)), .int .i64 ((cnL a b c (d ++ (lvI q k es m i ++ lvC q (k + i) es m g)) : Nat) : Int), .int .i64 (leastL (alL a b (d ++ (lvI q k es m i ++ lvC q (k + i) es m g)))), .int .i64 (mostL (alL a b (d ++ (lvI q k es m i ++ lvC q (k + i) es m g)))), vv.2] :: .row 2 1 vb (m.set (k + i) (g : Int)).length (ints (m.set (k + i) (g : Int))) :: .row 74 2 v68 (es ++ [(((k + i : Nat) : Int), (g : Int))]).length (edits (es ++ [(((k + i : Nat) : Int), (g : Int))])) :: .row 74 2 vv.1 (fsE a b c (d ++ (lvI q k es m i ++ lvC q (k + i) es m g))).length (edits (fsE a b c (d ++ (lvI q k es m i ++ lvC q (k + i) es m g)))) :: .row 2 1 vv.2 (d ++ (lvI q k es m i ++ lvC q (k + i) es m g)).length (ints (alL a b (d ++ (lvI q k es m i ++ lvC q (k + i) es m g)))) :: F) (Ext.trans (Ext.eq (by rw [← row_snoc1]; rfl)) (Ext.right [_] _)) ?_
                  refine Run.region ?_
                  refine Ops.pure rfl (Pure.move rfl) ?_
                  refine Ops.pure rfl (Pure.move rfl) ?_
                  refine Ops.pure rfl ((Pure.add rfl rfl (by omega) (by omega)).cong (show _ = Value.int .i64 ((k + i + 1 : Nat) : Int) from congrArg (Value.int .i64) (by omega))) ?_
                  refine Ops.pure rfl (Pure.move rfl) ?_
                  refine Ops.pure rfl ((Pure.sub rfl rfl (by omega) (by omega)).cong (show _ = Value.int .i64 (q : Int) from congrArg (Value.int .i64) (by omega))) ?_
                  refine Ops.pure rfl (Pure.move rfl) ?_
                  refine Ops.go rfl (Loud.callO fn127 rfl (fun w hw => hih w (k + i + 1) vb v68 vv.1 vv.2 (d ++ (lvI q k es m i ++ lvC q (k + i) es m g)) (es ++ [(((k + i : Nat) : Int), (g : Int))]) (m.set (k + i) (g : Int)) F hw (okP_set hok (k + i) (by omega) (by omega)) (by rw [List.length_set]; omega) (by rw [List.length_set]; omega) (by omega) (by rw [List.length_append]; omega) (fun x hx => (List.mem_append.1 hx).elim (hpos x) (lvO_ok hok hki2 (by omega) x)) (fun ho => by rw [List.any_append, hnf ho, Bool.false_or]; have h9 := hcg; subst ho; rw [hitO_true] at h9; rw [← cut_any]; exact h9))) ?_
                  rintro v77 L77 hQ77
                  obtain ⟨vn77, vf77, va77, rfl, rfl⟩ := hQ77
                  have hfi : once = true → ((d ++ (lvI q k es m i ++ lvC q (k + i) es m g)) ++ (cut (hitO once a b c) (lv q (k + i + 1) (es ++ [(((k + i : Nat) : Int), (g : Int))]) (m.set (k + i) (g : Int)))).1).any (hitC a b c) = (cut (hitO once a b c) (lv q (k + i + 1) (es ++ [(((k + i : Nat) : Int), (g : Int))]) (m.set (k + i) (g : Int)))).2 := fun ho => found_iff (fun ho2 => by rw [List.any_append, hnf ho2, Bool.false_or]; have h9 := hcg; subst ho2; rw [hitO_true] at h9; rw [← cut_any]; exact h9) ho
                  refine Ops.nil ?_
                  refine Run.seq ?_
                  refine Any.start follows ?_
                  refine Any.take 0 rfl (by kernel_rfl) rfl (QOp.pure (Pure.move rfl)) ?_
                  refine Any.take 1 rfl (by kernel_rfl) rfl (QOp.pure (Pure.move rfl)) ?_
                  refine Any.take 2 rfl (by kernel_rfl) rfl (QOp.pure (Pure.nilchk rfl)) ?_
                  refine Any.take 3 rfl (by kernel_rfl) rfl (QOp.pure (Pure.fieldAddrB fld93_2 rfl)) ?_
                  refine Any.take 4 rfl (by kernel_rfl) rfl (QOp.pure (Pure.ldB 0 rfl cell41 rfl rfl)) ?_
                  refine Any.take 5 rfl (by kernel_rfl) rfl (QOp.pure (Pure.move rfl)) ?_
                  refine Any.take 6 rfl (by kernel_rfl) rfl (QOp.pure (Pure.nilchk rfl)) ?_
                  refine Any.take 7 rfl (by kernel_rfl) rfl (QOp.pure (Pure.fieldAddrB fld93_2 rfl)) ?_
                  refine Any.take 8 rfl (by kernel_rfl) rfl (QOp.pure (Pure.ldB 0 rfl cell41 rfl rfl)) ?_
                  refine Any.take 9 rfl (by kernel_rfl) rfl (QOp.pure (Pure.len sl41 (RdL.own 2 rfl) rfl)) ?_
                  refine Any.take 10 rfl (by kernel_rfl) rfl (QOp.pure (Pure.sub rfl rfl (by omega) (by omega))) ?_
                  refine Any.take 11 rfl (by kernel_rfl) rfl (QOp.pure (Pure.sliceH sl41 (RdL.own 2 rfl) rfl rfl (by omega) (by omega))) ?_
                  refine Any.take 12 rfl (by kernel_rfl) rfl (QOp.pure (Pure.nilchk rfl)) ?_
                  refine Any.take 13 rfl (by kernel_rfl) rfl (QOp.pure (Pure.fieldAddrB fld93_2 rfl)) ?_
                  refine Any.one 14 (by kernel_rfl) ?_
                  refine OneL.store rfl (Stores.have_ (fun w hw => row_one 2 hw rfl) (fun h9 => Stores.box1 0 rfl rfl rfl size41 (subS_one h9) rfl)) (by kernel_rfl) ?_
                  refine Any.done (by kernel_rfl) ?_
                  refine Run.short 2 rfl (m := (((es ++ [(((k + i : Nat) : Int), (g : Int))]).length : Int) - 1).toNat) (by omega) ?_
                  refine Run.ext_ (Ext.eq (by show _ = _ :: _ :: Ent.row 74 2 _ _ (List.take _ _) :: _; rw [row_short (by omega)])) ?_
                  refine Run.seq ?_
                  refine Run.region ?_
                  refine Ops.pure rfl (Pure.move rfl) ?_
                  refine Ops.pure rfl (Pure.move rfl) ?_
                  refine Ops.guard rfl rfl rfl rfl (fun c93 => ?_) (fun c93 => ?_)
                  · skip
                    have c93' := c93
                    refine Ops.pure rfl (Pure.move rfl) ?_
                    refine Ops.guardY rfl rfl rfl c93 ?_
                    refine Ops.pure rfl (Pure.nilchk rfl) ?_
                    refine Ops.guardY rfl rfl rfl c93 ?_
                    refine Ops.pure rfl (Pure.fieldAddrB fld93_4 rfl) ?_
                    refine Ops.guardY rfl rfl rfl c93 ?_
                    refine Ops.pure rfl (Pure.ldB 0 rfl cell4 rfl rfl) ?_
                    refine Ops.pure rfl (Pure.pickT rfl c93 rfl) ?_
                    refine Ops.nil ?_
                    refine Run.cond rfl (fun c98 => ?_) (fun c98 => ?_)
                    · skip
                      skip
                      have hB : (cut (hitO once a b c) (lv q (k + i + 1) (es ++ [(((k + i : Nat) : Int), (g : Int))]) (m.set (k + i) (g : Int)))).2 = true := by rw [← hfi (by assumption)]; assumption
                      refine Run.exit rfl ?_
                      refine Run.region ?_
                      refine Ops.pure rfl (Pure.move rfl) ?_
                      refine Ops.pure rfl (Pure.nilchk rfl) ?_
                      refine Ops.pure rfl (Pure.fieldAddrB fld93_0 rfl) ?_
                      refine Ops.pure rfl (Pure.fieldAddrB fld28_2 rfl) ?_
                      refine Ops.pure rfl (Pure.ldB 0 rfl cell22 rfl rfl) ?_
                      refine Ops.pure rfl (Pure.move rfl) ?_
                      refine Ops.pure rfl (Pure.move rfl) ?_
                      refine Ops.pure rfl (Pure.idx1N sl22 (RdL.own 1 rfl) rfl rfl (by first | assumption | omega | (simp; omega))) ?_
                      refine Ops.store (Stores.row1 1 rfl size2 rfl rfl rfl (by first | assumption | omega | (simp; omega))) ?_
                      refine Ops.nil ?_
                      refine Run.blk ?_
                      refine Run.region ?_
                      refine Ops.pure rfl (Pure.move rfl) ?_
                      refine Ops.pure rfl (Pure.add rfl rfl (by omega) (by omega)) ?_
                      refine Ops.pure rfl (Pure.assign rfl) ?_
                      refine Ops.nil ?_
                      refine Run.asrt ?_
                      first
                        | (refine ⟨i + 1, (subS vn77 2 0 (((es ++ [(((k + i : Nat) : Int), (g : Int))]).length : Int) - 1).toNat), vf77, va77, ⟨by omega, by omega⟩, ⟨rfl, rfl, rfl, rfl, trivial⟩, Ext.eq ?_⟩
                           rw [lvI_hit (by omega) hne hcg hB, ← List.append_assoc, List.length_set, ints_setI, List.set_set, set_self]
                           rfl)
                        | (obtain rfl : g = 3 := by omega
                           refine ⟨i + 1, vn2, vv.1, vv.2, ⟨by omega, by omega⟩, ⟨rfl, rfl, rfl, rfl, trivial⟩, Ext.eq ?_⟩
                           rw [cut_keep (show (cut (hitO once a b c) (lvI q k es m (i + 1))).2 = false by rw [lvI_succ]; exact hcg), lvI_succ, List.length_set, ints_setI, List.set_set, set_self]
                           rfl)
                    · skip
                      skip
                      refine Run.skip ?_
                      refine Run.blk ?_
                      refine Run.region ?_
                      refine Ops.pure rfl (Pure.move rfl) ?_
                      refine Ops.pure rfl (Pure.add rfl rfl (by omega) (by omega)) ?_
                      refine Ops.pure rfl (Pure.assign rfl) ?_
                      refine Ops.nil ?_
                      refine Run.asrt ?_
                      first
                        | exact ⟨g + 1, y, vn2, vv, ⟨⟨by omega, by rw [lvC_skip heq]; exact hcg, hy0, hy2⟩, by omega⟩, ⟨rfl, rfl, rfl, rfl, rfl, rfl, trivial⟩, Ext.eq (by rw [lvC_skip heq])⟩
                        | (have hB2 : (cut (hitO once a b c) (lv q (k + i + 1) (es ++ [(((k + i : Nat) : Int), (g : Int))]) (m.set (k + i) (g : Int)))).2 = false := by
                             first
                               | exact cut_off (by assumption) _
                               | (rw [← hfi (by assumption)]; assumption)
                           refine ⟨g + 1, (g : Int), (subS vn77 2 0 (((es ++ [(((k + i : Nat) : Int), (g : Int))]).length : Int) - 1).toNat), (vf77, va77), ⟨⟨by omega, cut_more hne hcg hB2, by omega, by omega⟩, by omega⟩, ⟨rfl, rfl, rfl, rfl, rfl, rfl, trivial⟩, Ext.eq ?_⟩
                           rw [lvC_take hne, cut_keep hB2]
                           simp only [List.append_assoc]
                           rfl)
                  · skip
                    replace c93 := Bool.eq_false_of_ne c93
                    have c93' := c93
                    refine Ops.guardN rfl rfl rfl rfl (by rw [c93]; decide) ?_
                    refine Ops.guardN rfl rfl rfl rfl (by rw [c93]; decide) ?_
                    refine Ops.guardN rfl rfl rfl rfl (by rw [c93]; decide) ?_
                    refine Ops.pure rfl (Pure.pickF rfl c93 rfl) ?_
                    refine Ops.nil ?_
                    refine Run.condEF rfl rfl ?_
                    refine Run.skip ?_
                    refine Run.blk ?_
                    refine Run.region ?_
                    refine Ops.pure rfl (Pure.move rfl) ?_
                    refine Ops.pure rfl (Pure.add rfl rfl (by omega) (by omega)) ?_
                    refine Ops.pure rfl (Pure.assign rfl) ?_
                    refine Ops.nil ?_
                    refine Run.asrt ?_
                    first
                      | exact ⟨g + 1, y, vn2, vv, ⟨⟨by omega, by rw [lvC_skip heq]; exact hcg, hy0, hy2⟩, by omega⟩, ⟨rfl, rfl, rfl, rfl, rfl, rfl, trivial⟩, Ext.eq (by rw [lvC_skip heq])⟩
                      | (have hB2 : (cut (hitO once a b c) (lv q (k + i + 1) (es ++ [(((k + i : Nat) : Int), (g : Int))]) (m.set (k + i) (g : Int)))).2 = false := by
                           first
                             | exact cut_off (by assumption) _
                             | (rw [← hfi (by assumption)]; assumption)
                         refine ⟨g + 1, (g : Int), (subS vn77 2 0 (((es ++ [(((k + i : Nat) : Int), (g : Int))]).length : Int) - 1).toNat), (vf77, va77), ⟨⟨by omega, cut_more hne hcg hB2, by omega, by omega⟩, by omega⟩, ⟨rfl, rfl, rfl, rfl, rfl, rfl, trivial⟩, Ext.eq ?_⟩
                         rw [lvC_take hne, cut_keep hB2]
                         simp only [List.append_assoc]
                         rfl)
              · skip
                replace c45 := dF c45
                refine Run.exit rfl ?_
                refine Run.region ?_
                refine Ops.pure rfl (Pure.move rfl) ?_
                refine Ops.pure rfl (Pure.nilchk rfl) ?_
                refine Ops.pure rfl (Pure.fieldAddrB fld93_0 rfl) ?_
                refine Ops.pure rfl (Pure.fieldAddrB fld28_2 rfl) ?_
                refine Ops.pure rfl (Pure.ldB 0 rfl cell22 rfl rfl) ?_
                refine Ops.pure rfl (Pure.move rfl) ?_
                refine Ops.pure rfl (Pure.move rfl) ?_
                refine Ops.pure rfl (Pure.idx1N sl22 (RdL.own 1 rfl) rfl rfl (by first | assumption | omega | (simp; omega))) ?_
                refine Ops.store (Stores.row1 1 rfl size2 rfl rfl rfl (by first | assumption | omega | (simp; omega))) ?_
                refine Ops.nil ?_
                refine Run.blk ?_
                refine Run.region ?_
                refine Ops.pure rfl (Pure.move rfl) ?_
                refine Ops.pure rfl (Pure.add rfl rfl (by omega) (by omega)) ?_
                refine Ops.pure rfl (Pure.assign rfl) ?_
                refine Ops.nil ?_
                refine Run.asrt ?_
                first
                  | (refine ⟨i + 1, (subS vn77 2 0 (((es ++ [(((k + i : Nat) : Int), (g : Int))]).length : Int) - 1).toNat), vf77, va77, ⟨by omega, by omega⟩, ⟨rfl, rfl, rfl, rfl, trivial⟩, Ext.eq ?_⟩
                     rw [lvI_hit (by omega) hne hcg hB, ← List.append_assoc, List.length_set, ints_setI, List.set_set, set_self]
                     rfl)
                  | (obtain rfl : g = 3 := by omega
                     refine ⟨i + 1, vn2, vv.1, vv.2, ⟨by omega, by omega⟩, ⟨rfl, rfl, rfl, rfl, trivial⟩, Ext.eq ?_⟩
                     rw [cut_keep (show (cut (hitO once a b c) (lvI q k es m (i + 1))).2 = false by rw [lvI_succ]; exact hcg), lvI_succ, List.length_set, ints_setI, List.set_set, set_self]
                     rfl)
          · skip
            replace c33 := bF c33
            refine Run.exit rfl ?_
            refine Run.end0 rfl ?_
            first
              | (rw [lv_succ, show m.length - k = i by omega]; exact ⟨_, _, _, rfl, rfl⟩)
              | exact absurd c33 (by decide)
              | (rw [lvI_stop hinv0 (by rw [← found_iff hnf (by assumption)]; assumption)]; exact ⟨_, _, _, rfl, rfl⟩)
        · skip
          replace c26 := Bool.eq_false_of_ne c26
          have c26' := c26
          refine Ops.guardN rfl rfl rfl rfl (by rw [c26]; decide) ?_
          refine Ops.guardN rfl rfl rfl rfl (by rw [c26]; decide) ?_
          refine Ops.guardN rfl rfl rfl rfl (by rw [c26]; decide) ?_
          refine Ops.guardY rfl rfl rfl c24 ?_
          refine Ops.pure rfl (Pure.pickF rfl c26 rfl) ?_
          refine Ops.guardY rfl rfl rfl c24 ?_
          refine Ops.pure rfl (Pure.not rfl) ?_
          refine Ops.pure rfl (Pure.pickT rfl c24 rfl) ?_
          refine Ops.nil ?_
          refine Run.cond rfl (fun c33 => ?_) (fun c33 => ?_)
          · skip
            replace c33 := bT c33
            refine Run.skip ?_
            refine Run.seq ?_
            refine Run.block ?_
            refine Run.seq ?_
            have hgo : (cut (hitO once a b c) (lvI q k es m i)).2 = false := by
              first
                | exact cut_off (by assumption) _
                | (rw [← found_iff hnf (by assumption)]; assumption)
            have hki2 : k + i < m.length := by omega
            have hmk := (okP_spec hok).2.2 _ (mem_getD 0 hki2)
            refine Run.region ?_
            refine Ops.pure rfl (Pure.move rfl) ?_
            refine Ops.pure rfl (Pure.nilchk rfl) ?_
            refine Ops.pure rfl (Pure.fieldAddrB fld93_0 rfl) ?_
            refine Ops.pure rfl (Pure.fieldAddrB fld28_2 rfl) ?_
            refine Ops.pure rfl (Pure.ldB 0 rfl cell22 rfl rfl) ?_
            refine Ops.pure rfl (Pure.move rfl) ?_
            refine Ops.pure rfl (Pure.idx1N sl22 (RdL.own 1 rfl) rfl rfl (by first | assumption | omega | (simp; omega))) ?_
            refine Ops.pure rfl (Pure.ld cell2 rfl (RdL.own 1 rfl) (by first | exact ints_get (by omega) | exact bools_get (by omega) | exact strs_get (by omega) | exact vals_get (by first | omega | (simp; omega)))) ?_
            refine Ops.pure rfl (Pure.assign rfl) ?_
            refine Ops.nil ?_
            refine Run.seq ?_
            refine Run.seq ?_
            refine Run.region ?_
            refine Ops.pure rfl (Pure.assign rfl) ?_
            refine Ops.nil ?_
            refine Run.block ?_
            refine Run.loop4 (X := Nat) (Y := Int) (Z := Value) (V := Value × Value) (fun g y vn2 vv => [(0, .pointer (some ⟨bs, 0, none⟩)), (2, .int .i64 ((q + 1 : Nat) : Int)), (3, .bool once), (8, .int .i64 ((k + i : Nat) : Int)), (9, .int .i64 (m.getD (k + i) 0)), (10, .int .i64 g)]) (fun g y vn2 vv => .box bs 93 [.int .i64 a, .int .i64 b, vb, .int .i64 c, vn2, vv.1, .bool ((d ++ (lvI q k es m i ++ lvC q (k + i) es m g)).any (hitC a b c)), .int .i64 ((cnL a b c (d ++ (lvI q k es m i ++ lvC q (k + i) es m g)) : Nat) : Int), .int .i64 (leastL (alL a b (d ++ (lvI q k es m i ++ lvC q (k + i) es m g)))), .int .i64 (mostL (alL a b (d ++ (lvI q k es m i ++ lvC q (k + i) es m g)))), vv.2] :: .row 2 1 vb (m.set (k + i) y).length (ints (m.set (k + i) y)) :: .row 74 2 vn2 (es).length (edits (es)) :: .row 74 2 vv.1 (fsE a b c (d ++ (lvI q k es m i ++ lvC q (k + i) es m g))).length (edits (fsE a b c (d ++ (lvI q k es m i ++ lvC q (k + i) es m g)))) :: .row 2 1 vv.2 (d ++ (lvI q k es m i ++ lvC q (k + i) es m g)).length (ints (alL a b (d ++ (lvI q k es m i ++ lvC q (k + i) es m g)))) :: F) (fun g y vn2 vv => g ≤ 3 ∧ (cut (hitO once a b c) (lvI q k es m i ++ lvC q (k + i) es m g)).2 = false ∧ 0 ≤ y ∧ y ≤ 2) (fun g y vn2 vv => 3 - g) 0 (m.getD (k + i) 0) vn1 (vf1, va1) ?_ ?_ ?_ ?_
            · exact ⟨by omega, by rw [lvC_zero, List.append_nil]; exact hgo, hmk.1, hmk.2⟩
            · exact ⟨rfl, rfl, rfl, rfl, rfl, rfl, trivial⟩
            · exact Ext.eq (by rw [set_self, lvC_zero, List.append_nil, cut_keep hgo])
            · rintro g y vn2 vv ⟨hg3, hcg, hy0, hy2⟩
              have hsl : (m.set (k + i) y).length = m.length := List.length_set
              have hil : (ints (m.set (k + i) y)).length = m.length := by rw [ints, List.length_map]; exact hsl
              refine Run.seq ?_
              refine Run.seq ?_
              refine Run.region ?_
              refine Ops.pure rfl (Pure.move rfl) ?_
              refine Ops.pure rfl (Pure.leq rfl rfl) ?_
              refine Ops.nil ?_
              refine Run.cond rfl (fun c45 => ?_) (fun c45 => ?_)
              · skip
                replace c45 := dT c45
                refine Run.skip ?_
                refine Run.seq ?_
                refine Run.block ?_
                refine Run.seq ?_
                refine Run.seq ?_
                refine Run.region ?_
                refine Ops.pure rfl (Pure.move rfl) ?_
                refine Ops.pure rfl (Pure.move rfl) ?_
                refine Ops.pure rfl (Pure.eql rfl rfl) ?_
                refine Ops.nil ?_
                refine Run.cond rfl (fun c50 => ?_) (fun c50 => ?_)
                · skip
                  replace c50 := dT c50
                  have heq : (g : Int) = m.getD (k + i) 0 := by omega
                  refine Run.exit rfl ?_
                  refine Run.region ?_
                  refine Ops.pure rfl (Pure.move rfl) ?_
                  refine Ops.pure rfl (Pure.add rfl rfl (by omega) (by omega)) ?_
                  refine Ops.pure rfl (Pure.assign rfl) ?_
                  refine Ops.nil ?_
                  refine Run.asrt ?_
                  first
                    | exact ⟨g + 1, y, vn2, vv, ⟨⟨by omega, by rw [lvC_skip heq]; exact hcg, hy0, hy2⟩, by omega⟩, ⟨rfl, rfl, rfl, rfl, rfl, rfl, trivial⟩, Ext.eq (by rw [lvC_skip heq])⟩
                    | (have hB2 : (cut (hitO once a b c) (lv q (k + i + 1) (es ++ [(((k + i : Nat) : Int), (g : Int))]) (m.set (k + i) (g : Int)))).2 = false := by
                         first
                           | exact cut_off (by assumption) _
                           | (rw [← hfi (by assumption)]; assumption)
                       refine ⟨g + 1, (g : Int), (subS vn77 2 0 (((es ++ [(((k + i : Nat) : Int), (g : Int))]).length : Int) - 1).toNat), (vf77, va77), ⟨⟨by omega, cut_more hne hcg hB2, by omega, by omega⟩, by omega⟩, ⟨rfl, rfl, rfl, rfl, rfl, rfl, trivial⟩, Ext.eq ?_⟩
                       rw [lvC_take hne, cut_keep hB2]
                       simp only [List.append_assoc]
                       rfl)
                · skip
                  replace c50 := dF c50
                  have hne : ¬ (g : Int) = m.getD (k + i) 0 := by omega
                  obtain ⟨rst, hrst⟩ := lv_pre (q := q) (es := es) hki2 (show g < 3 by omega) hne
                  have hlen := congrArg List.length hrst
                  rw [List.length_append, List.length_append] at hlen
                  have hl1 : (es ++ [(((k + i : Nat) : Int), (g : Int))]).length = es.length + 1 := by rw [List.length_append, List.length_singleton]
                  refine Run.skip ?_
                  refine Run.seq ?_
                  refine Run.region ?_
                  refine Ops.pure rfl (Pure.move rfl) ?_
                  refine Ops.pure rfl (Pure.nilchk rfl) ?_
                  refine Ops.pure rfl (Pure.fieldAddrB fld93_0 rfl) ?_
                  refine Ops.pure rfl (Pure.fieldAddrB fld28_2 rfl) ?_
                  refine Ops.pure rfl (Pure.ldB 0 rfl cell22 rfl rfl) ?_
                  refine Ops.pure rfl (Pure.move rfl) ?_
                  refine Ops.pure rfl (Pure.move rfl) ?_
                  refine Ops.pure rfl (Pure.idx1N sl22 (RdL.own 1 rfl) rfl rfl (by first | assumption | omega | (simp; omega))) ?_
                  refine Ops.store (Stores.row1 1 rfl size2 rfl rfl rfl (by first | assumption | omega | (simp; omega))) ?_
                  refine Ops.nil ?_
                  refine Run.seq ?_
                  refine Run.ext_ (L' := .box bs 93 [.int .i64 a, .int .i64 b, vb, .int .i64 c, vn2, vv.1, .bool ((d ++ (lvI q k es m i ++ lvC q (k + i) es m g)).any (hitC a b c)), .int .i64 ((cnL a b c (d ++ (lvI q k es m i ++ lvC q (k + i) es m g)) : Nat) : Int), .int .i64 (leastL (alL a b (d ++ (lvI q k es m i ++ lvC q (k + i) es m g)))), .int .i64 (mostL (alL a b (d ++ (lvI q k es m i ++ lvC q (k + i) es m g)))), vv.2] :: .row 2 1 vb (m.set (k + i) (g : Int)).length (ints (m.set (k + i) (g : Int))) :: .row 74 2 vn2 (es).length (edits (es)) :: .row 74 2 vv.1 (fsE a b c (d ++ (lvI q k es m i ++ lvC q (k + i) es m g))).length (edits (fsE a b c (d ++ (lvI q k es m i ++ lvC q (k + i) es m g)))) :: .row 2 1 vv.2 (d ++ (lvI q k es m i ++ lvC q (k + i) es m g)).length (ints (alL a b (d ++ (lvI q k es m i ++ lvC q (k + i) es m g)))) :: F) (Ext.eq (by rw [set_twice, List.length_set, List.length_set]; rfl)) ?_
                  refine Run.region ?_
                  refine Ops.pure rfl (Pure.move rfl) ?_
                  refine Ops.pure rfl (Pure.move rfl) ?_
                  refine Ops.pure rfl (Pure.nilchk rfl) ?_
                  refine Ops.pure rfl (Pure.fieldAddrB fld93_2 rfl) ?_
                  refine Ops.pure rfl (Pure.ldB 0 rfl cell41 rfl rfl) ?_
                  refine Ops.pure rfl (Pure.move rfl) ?_
                  refine Ops.pure rfl (Pure.move rfl) ?_
                  refine Ops.pure rfl (Pure.build rfl (bld74_2 _ _ (by first | rfl | assumption) (by first | rfl | assumption))) ?_
                  refine Ops.go rfl (Loud.litA sl41 rfl rfl rfl) ?_
                  rintro v67 _ rfl
                  refine Ops.go rfl (Loud.append 3 rfl sl41 rfl rfl (RdL.own 0 rfl) (by simp [Value.oneCell']) (by omega) (by omega)) ?_
                  rintro v68 _ rfl
                  refine Ops.pure rfl (Pure.nilchk rfl) ?_
                  refine Ops.pure rfl (Pure.fieldAddrB fld93_2 rfl) ?_
                  refine Ops.have_ (fun w hw => row_one 3 hw rfl) (fun h68 => ?_)
                  refine Ops.store (Stores.box1 1 rfl rfl rfl size41 h68 rfl) ?_
                  refine Ops.nil ?_
                  refine Run.seq ?_
                  refine Run.ext_ (L' := .box bs 93 [.int .i64 a, .int .i64 b, vb, .int .i64 c, v68, vv.1, .bool ((d ++ (lvI q k es m i ++ lvC q (k + i) es m g)).any (hitC a b c)), .int .i64 ((cnL a b c (d ++ (lvI q k es m i ++ lvC q (k + i) es m g)) : Nat) : Int), .int .i64 (leastL (alL a b (d ++ (lvI q k es m i ++ lvC q (k + i) es m g)))), .int .i64 (mostL (alL a b (d ++ (lvI q k es m i ++ lvC q (k + i) es m g)))), vv.2] :: .row 2 1 vb (m.set (k + i) (g : Int)).length (ints (m.set (k + i) (g : Int))) :: .row 74 2 v68 (es ++ [(((k + i : Nat) : Int), (g : Int))]).length (edits (es ++ [(((k + i : Nat) : Int), (g : Int))])) :: .row 74 2 vv.1 (fsE a b c (d ++ (lvI q k es m i ++ lvC q (k + i) es m g))).length (edits (fsE a b c (d ++ (lvI q k es m i ++ lvC q (k + i) es m g)))) :: .row 2 1 vv.2 (d ++ (lvI q k es m i ++ lvC q (k + i) es m g)).length (ints (alL a b (d ++ (lvI q k es m i ++ lvC q (k + i) es m g)))) :: F) (Ext.trans (Ext.eq (by rw [← row_snoc1]; rfl)) (Ext.right [_] _)) ?_
                  refine Run.region ?_
                  refine Ops.pure rfl (Pure.move rfl) ?_
                  refine Ops.pure rfl (Pure.move rfl) ?_
                  refine Ops.pure rfl ((Pure.add rfl rfl (by omega) (by omega)).cong (show _ = Value.int .i64 ((k + i + 1 : Nat) : Int) from congrArg (Value.int .i64) (by omega))) ?_
                  refine Ops.pure rfl (Pure.move rfl) ?_
                  refine Ops.pure rfl ((Pure.sub rfl rfl (by omega) (by omega)).cong (show _ = Value.int .i64 (q : Int) from congrArg (Value.int .i64) (by omega))) ?_
                  refine Ops.pure rfl (Pure.move rfl) ?_
                  refine Ops.go rfl (Loud.callO fn127 rfl (fun w hw => hih w (k + i + 1) vb v68 vv.1 vv.2 (d ++ (lvI q k es m i ++ lvC q (k + i) es m g)) (es ++ [(((k + i : Nat) : Int), (g : Int))]) (m.set (k + i) (g : Int)) F hw (okP_set hok (k + i) (by omega) (by omega)) (by rw [List.length_set]; omega) (by rw [List.length_set]; omega) (by omega) (by rw [List.length_append]; omega) (fun x hx => (List.mem_append.1 hx).elim (hpos x) (lvO_ok hok hki2 (by omega) x)) (fun ho => by rw [List.any_append, hnf ho, Bool.false_or]; have h9 := hcg; subst ho; rw [hitO_true] at h9; rw [← cut_any]; exact h9))) ?_
                  rintro v77 L77 hQ77
                  obtain ⟨vn77, vf77, va77, rfl, rfl⟩ := hQ77
                  have hfi : once = true → ((d ++ (lvI q k es m i ++ lvC q (k + i) es m g)) ++ (cut (hitO once a b c) (lv q (k + i + 1) (es ++ [(((k + i : Nat) : Int), (g : Int))]) (m.set (k + i) (g : Int)))).1).any (hitC a b c) = (cut (hitO once a b c) (lv q (k + i + 1) (es ++ [(((k + i : Nat) : Int), (g : Int))]) (m.set (k + i) (g : Int)))).2 := fun ho => found_iff (fun ho2 => by rw [List.any_append, hnf ho2, Bool.false_or]; have h9 := hcg; subst ho2; rw [hitO_true] at h9; rw [← cut_any]; exact h9) ho
                  refine Ops.nil ?_
                  refine Run.seq ?_
                  refine Any.start follows ?_
                  refine Any.take 0 rfl (by kernel_rfl) rfl (QOp.pure (Pure.move rfl)) ?_
                  refine Any.take 1 rfl (by kernel_rfl) rfl (QOp.pure (Pure.move rfl)) ?_
                  refine Any.take 2 rfl (by kernel_rfl) rfl (QOp.pure (Pure.nilchk rfl)) ?_
                  refine Any.take 3 rfl (by kernel_rfl) rfl (QOp.pure (Pure.fieldAddrB fld93_2 rfl)) ?_
                  refine Any.take 4 rfl (by kernel_rfl) rfl (QOp.pure (Pure.ldB 0 rfl cell41 rfl rfl)) ?_
                  refine Any.take 5 rfl (by kernel_rfl) rfl (QOp.pure (Pure.move rfl)) ?_
                  refine Any.take 6 rfl (by kernel_rfl) rfl (QOp.pure (Pure.nilchk rfl)) ?_
                  refine Any.take 7 rfl (by kernel_rfl) rfl (QOp.pure (Pure.fieldAddrB fld93_2 rfl)) ?_
                  refine Any.take 8 rfl (by kernel_rfl) rfl (QOp.pure (Pure.ldB 0 rfl cell41 rfl rfl)) ?_
                  refine Any.take 9 rfl (by kernel_rfl) rfl (QOp.pure (Pure.len sl41 (RdL.own 2 rfl) rfl)) ?_
                  refine Any.take 10 rfl (by kernel_rfl) rfl (QOp.pure (Pure.sub rfl rfl (by omega) (by omega))) ?_
                  refine Any.take 11 rfl (by kernel_rfl) rfl (QOp.pure (Pure.sliceH sl41 (RdL.own 2 rfl) rfl rfl (by omega) (by omega))) ?_
                  refine Any.take 12 rfl (by kernel_rfl) rfl (QOp.pure (Pure.nilchk rfl)) ?_
                  refine Any.take 13 rfl (by kernel_rfl) rfl (QOp.pure (Pure.fieldAddrB fld93_2 rfl)) ?_
                  refine Any.one 14 (by kernel_rfl) ?_
                  refine OneL.store rfl (Stores.have_ (fun w hw => row_one 2 hw rfl) (fun h9 => Stores.box1 0 rfl rfl rfl size41 (subS_one h9) rfl)) (by kernel_rfl) ?_
                  refine Any.done (by kernel_rfl) ?_
                  refine Run.short 2 rfl (m := (((es ++ [(((k + i : Nat) : Int), (g : Int))]).length : Int) - 1).toNat) (by omega) ?_
                  refine Run.ext_ (Ext.eq (by show _ = _ :: _ :: Ent.row 74 2 _ _ (List.take _ _) :: _; rw [row_short (by omega)])) ?_
                  refine Run.seq ?_
                  refine Run.region ?_
                  refine Ops.pure rfl (Pure.move rfl) ?_
                  refine Ops.pure rfl (Pure.move rfl) ?_
                  refine Ops.guard rfl rfl rfl rfl (fun c93 => ?_) (fun c93 => ?_)
                  · skip
                    have c93' := c93
                    refine Ops.pure rfl (Pure.move rfl) ?_
                    refine Ops.guardY rfl rfl rfl c93 ?_
                    refine Ops.pure rfl (Pure.nilchk rfl) ?_
                    refine Ops.guardY rfl rfl rfl c93 ?_
                    refine Ops.pure rfl (Pure.fieldAddrB fld93_4 rfl) ?_
                    refine Ops.guardY rfl rfl rfl c93 ?_
                    refine Ops.pure rfl (Pure.ldB 0 rfl cell4 rfl rfl) ?_
                    refine Ops.pure rfl (Pure.pickT rfl c93 rfl) ?_
                    refine Ops.nil ?_
                    refine Run.cond rfl (fun c98 => ?_) (fun c98 => ?_)
                    · skip
                      skip
                      have hB : (cut (hitO once a b c) (lv q (k + i + 1) (es ++ [(((k + i : Nat) : Int), (g : Int))]) (m.set (k + i) (g : Int)))).2 = true := by rw [← hfi (by assumption)]; assumption
                      refine Run.exit rfl ?_
                      refine Run.region ?_
                      refine Ops.pure rfl (Pure.move rfl) ?_
                      refine Ops.pure rfl (Pure.nilchk rfl) ?_
                      refine Ops.pure rfl (Pure.fieldAddrB fld93_0 rfl) ?_
                      refine Ops.pure rfl (Pure.fieldAddrB fld28_2 rfl) ?_
                      refine Ops.pure rfl (Pure.ldB 0 rfl cell22 rfl rfl) ?_
                      refine Ops.pure rfl (Pure.move rfl) ?_
                      refine Ops.pure rfl (Pure.move rfl) ?_
                      refine Ops.pure rfl (Pure.idx1N sl22 (RdL.own 1 rfl) rfl rfl (by first | assumption | omega | (simp; omega))) ?_
                      refine Ops.store (Stores.row1 1 rfl size2 rfl rfl rfl (by first | assumption | omega | (simp; omega))) ?_
                      refine Ops.nil ?_
                      refine Run.blk ?_
                      refine Run.region ?_
                      refine Ops.pure rfl (Pure.move rfl) ?_
                      refine Ops.pure rfl (Pure.add rfl rfl (by omega) (by omega)) ?_
                      refine Ops.pure rfl (Pure.assign rfl) ?_
                      refine Ops.nil ?_
                      refine Run.asrt ?_
                      first
                        | (refine ⟨i + 1, (subS vn77 2 0 (((es ++ [(((k + i : Nat) : Int), (g : Int))]).length : Int) - 1).toNat), vf77, va77, ⟨by omega, by omega⟩, ⟨rfl, rfl, rfl, rfl, trivial⟩, Ext.eq ?_⟩
                           rw [lvI_hit (by omega) hne hcg hB, ← List.append_assoc, List.length_set, ints_setI, List.set_set, set_self]
                           rfl)
                        | (obtain rfl : g = 3 := by omega
                           refine ⟨i + 1, vn2, vv.1, vv.2, ⟨by omega, by omega⟩, ⟨rfl, rfl, rfl, rfl, trivial⟩, Ext.eq ?_⟩
                           rw [cut_keep (show (cut (hitO once a b c) (lvI q k es m (i + 1))).2 = false by rw [lvI_succ]; exact hcg), lvI_succ, List.length_set, ints_setI, List.set_set, set_self]
                           rfl)
                    · skip
                      skip
                      refine Run.skip ?_
                      refine Run.blk ?_
                      refine Run.region ?_
                      refine Ops.pure rfl (Pure.move rfl) ?_
                      refine Ops.pure rfl (Pure.add rfl rfl (by omega) (by omega)) ?_
                      refine Ops.pure rfl (Pure.assign rfl) ?_
                      refine Ops.nil ?_
                      refine Run.asrt ?_
                      first
                        | exact ⟨g + 1, y, vn2, vv, ⟨⟨by omega, by rw [lvC_skip heq]; exact hcg, hy0, hy2⟩, by omega⟩, ⟨rfl, rfl, rfl, rfl, rfl, rfl, trivial⟩, Ext.eq (by rw [lvC_skip heq])⟩
                        | (have hB2 : (cut (hitO once a b c) (lv q (k + i + 1) (es ++ [(((k + i : Nat) : Int), (g : Int))]) (m.set (k + i) (g : Int)))).2 = false := by
                             first
                               | exact cut_off (by assumption) _
                               | (rw [← hfi (by assumption)]; assumption)
                           refine ⟨g + 1, (g : Int), (subS vn77 2 0 (((es ++ [(((k + i : Nat) : Int), (g : Int))]).length : Int) - 1).toNat), (vf77, va77), ⟨⟨by omega, cut_more hne hcg hB2, by omega, by omega⟩, by omega⟩, ⟨rfl, rfl, rfl, rfl, rfl, rfl, trivial⟩, Ext.eq ?_⟩
                           rw [lvC_take hne, cut_keep hB2]
                           simp only [List.append_assoc]
                           rfl)
                  · skip
                    replace c93 := Bool.eq_false_of_ne c93
                    have c93' := c93
                    refine Ops.guardN rfl rfl rfl rfl (by rw [c93]; decide) ?_
                    refine Ops.guardN rfl rfl rfl rfl (by rw [c93]; decide) ?_
                    refine Ops.guardN rfl rfl rfl rfl (by rw [c93]; decide) ?_
                    refine Ops.pure rfl (Pure.pickF rfl c93 rfl) ?_
                    refine Ops.nil ?_
                    refine Run.condEF rfl rfl ?_
                    refine Run.skip ?_
                    refine Run.blk ?_
                    refine Run.region ?_
                    refine Ops.pure rfl (Pure.move rfl) ?_
                    refine Ops.pure rfl (Pure.add rfl rfl (by omega) (by omega)) ?_
                    refine Ops.pure rfl (Pure.assign rfl) ?_
                    refine Ops.nil ?_
                    refine Run.asrt ?_
                    first
                      | exact ⟨g + 1, y, vn2, vv, ⟨⟨by omega, by rw [lvC_skip heq]; exact hcg, hy0, hy2⟩, by omega⟩, ⟨rfl, rfl, rfl, rfl, rfl, rfl, trivial⟩, Ext.eq (by rw [lvC_skip heq])⟩
                      | (have hB2 : (cut (hitO once a b c) (lv q (k + i + 1) (es ++ [(((k + i : Nat) : Int), (g : Int))]) (m.set (k + i) (g : Int)))).2 = false := by
                           first
                             | exact cut_off (by assumption) _
                             | (rw [← hfi (by assumption)]; assumption)
                         refine ⟨g + 1, (g : Int), (subS vn77 2 0 (((es ++ [(((k + i : Nat) : Int), (g : Int))]).length : Int) - 1).toNat), (vf77, va77), ⟨⟨by omega, cut_more hne hcg hB2, by omega, by omega⟩, by omega⟩, ⟨rfl, rfl, rfl, rfl, rfl, rfl, trivial⟩, Ext.eq ?_⟩
                         rw [lvC_take hne, cut_keep hB2]
                         simp only [List.append_assoc]
                         rfl)
              · skip
                replace c45 := dF c45
                refine Run.exit rfl ?_
                refine Run.region ?_
                refine Ops.pure rfl (Pure.move rfl) ?_
                refine Ops.pure rfl (Pure.nilchk rfl) ?_
                refine Ops.pure rfl (Pure.fieldAddrB fld93_0 rfl) ?_
                refine Ops.pure rfl (Pure.fieldAddrB fld28_2 rfl) ?_
                refine Ops.pure rfl (Pure.ldB 0 rfl cell22 rfl rfl) ?_
                refine Ops.pure rfl (Pure.move rfl) ?_
                refine Ops.pure rfl (Pure.move rfl) ?_
                refine Ops.pure rfl (Pure.idx1N sl22 (RdL.own 1 rfl) rfl rfl (by first | assumption | omega | (simp; omega))) ?_
                refine Ops.store (Stores.row1 1 rfl size2 rfl rfl rfl (by first | assumption | omega | (simp; omega))) ?_
                refine Ops.nil ?_
                refine Run.blk ?_
                refine Run.region ?_
                refine Ops.pure rfl (Pure.move rfl) ?_
                refine Ops.pure rfl (Pure.add rfl rfl (by omega) (by omega)) ?_
                refine Ops.pure rfl (Pure.assign rfl) ?_
                refine Ops.nil ?_
                refine Run.asrt ?_
                first
                  | (refine ⟨i + 1, (subS vn77 2 0 (((es ++ [(((k + i : Nat) : Int), (g : Int))]).length : Int) - 1).toNat), vf77, va77, ⟨by omega, by omega⟩, ⟨rfl, rfl, rfl, rfl, trivial⟩, Ext.eq ?_⟩
                     rw [lvI_hit (by omega) hne hcg hB, ← List.append_assoc, List.length_set, ints_setI, List.set_set, set_self]
                     rfl)
                  | (obtain rfl : g = 3 := by omega
                     refine ⟨i + 1, vn2, vv.1, vv.2, ⟨by omega, by omega⟩, ⟨rfl, rfl, rfl, rfl, trivial⟩, Ext.eq ?_⟩
                     rw [cut_keep (show (cut (hitO once a b c) (lvI q k es m (i + 1))).2 = false by rw [lvI_succ]; exact hcg), lvI_succ, List.length_set, ints_setI, List.set_set, set_self]
                     rfl)
          · skip
            replace c33 := bF c33
            refine Run.exit rfl ?_
            refine Run.end0 rfl ?_
            first
              | (rw [lv_succ, show m.length - k = i by omega]; exact ⟨_, _, _, rfl, rfl⟩)
              | exact absurd c33 (by decide)
              | (rw [lvI_stop hinv0 (by rw [← found_iff hnf (by assumption)]; assumption)]; exact ⟨_, _, _, rfl, rfl⟩)
      · skip
        replace c24 := Bool.eq_false_of_ne c24
        have c24' := dF c24
        refine Ops.guardN rfl rfl rfl rfl (by rw [c24]; decide) ?_
        refine Ops.guardU rfl rfl rfl rfl ?_
        refine Ops.guardU rfl rfl rfl rfl ?_
        refine Ops.guardU rfl rfl rfl rfl ?_
        refine Ops.guardU rfl rfl rfl rfl ?_
        refine Ops.guardN rfl rfl rfl rfl (by rw [c24]; decide) ?_
        refine Ops.guardN rfl rfl rfl rfl (by rw [c24]; decide) ?_
        refine Ops.pure rfl (Pure.pickF rfl c24 rfl) ?_
        refine Ops.nil ?_
        refine Run.condEF rfl rfl ?_
        refine Run.exit rfl ?_
        refine Run.end0 rfl ?_
        first
          | (rw [lv_succ, show m.length - k = i by omega]; exact ⟨_, _, _, rfl, rfl⟩)
          | exact absurd c33 (by decide)
          | (rw [lvI_stop hinv0 (by rw [← found_iff hnf (by assumption)]; assumption)]; exact ⟨_, _, _, rfl, rfl⟩)

end Go.Proofs.Ytkplanpcmkbfiaa
