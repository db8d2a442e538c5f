/- Contracts of functions, printed by program from annotations. -/
import Derived.Test.YtkplanpcmkbfiaaSeaK
namespace Go.Proofs.Ytkplanpcmkbfiaa
open Go Go.AW Go.RowKit
set_option linter.unusedVariables false
set_option linter.unusedSimpArgs false

theorem alL_snoc' (a b : Int) (d : List Lf) (es : List (Int × Int)) (m : List Int) : alL a b (d ++ [(es, m)]) = alL a b d ++ [(cnt a b m : Int)] := alL_snoc a b d (es, m)
theorem ints_snoc (l : List Int) (x : Int) : ints (l ++ [x]) = ints l ++ [.int .i64 x] := List.map_append
/-- the edits of the first that has the wanted number of curves -/
def fsE (a b c : Int) (d : List Lf) : List (Int × Int) := ((d.find? (hitC a b c)).getD ([], [])).1
theorem any_yes {a b c : Int} {d : List Lf} {es : List (Int × Int)} {m : List Int} (h : (cnt a b m : Int) = c) : (d ++ [(es, m)]).any (hitC a b c) = true := by
  rw [List.any_append, List.any_cons, show hitC a b c (es, m) = true from decide_eq_true h]
  simp
theorem any_no {a b c : Int} {d : List Lf} {es : List (Int × Int)} {m : List Int} (h : ¬ (cnt a b m : Int) = c) : (d ++ [(es, m)]).any (hitC a b c) = d.any (hitC a b c) := by
  rw [List.any_append, List.any_cons, show hitC a b c (es, m) = false from decide_eq_false h]
  simp
theorem find_none {hit : Lf → Bool} {d : List Lf} (h : d.any hit = false) : d.find? hit = none := by
  rw [List.find?_eq_none]
  intro x hx hh
  rw [List.any_eq_false] at h
  exact h x hx hh
theorem find_some {hit : Lf → Bool} {d : List Lf} (h : d.any hit = true) : (d.find? hit).isSome = true := by
  rw [List.find?_isSome]
  obtain ⟨x, hx, hh⟩ := List.any_eq_true.1 h
  exact ⟨x, hx, hh⟩
theorem fsE_old {a b c : Int} {d r : List Lf} (h : d.any (hitC a b c) = true) : fsE a b c (d ++ r) = fsE a b c d := by
  unfold fsE
  obtain ⟨x, hx⟩ := Option.isSome_iff_exists.1 (find_some h)
  rw [List.find?_append, hx]
  rfl
theorem fsE_new {a b c : Int} {d : List Lf} {es : List (Int × Int)} {m : List Int} (h : d.any (hitC a b c) = false) (hh : (cnt a b m : Int) = c) : fsE a b c (d ++ [(es, m)]) = es := by
  unfold fsE
  rw [List.find?_append, find_none h, List.find?_cons, show hitC a b c (es, m) = true from decide_eq_true hh]
  rfl
theorem fsE_no {a b c : Int} {d : List Lf} {es : List (Int × Int)} {m : List Int} (hh : ¬ (cnt a b m : Int) = c) : fsE a b c (d ++ [(es, m)]) = fsE a b c d := by
  unfold fsE
  rw [List.find?_append, List.find?_cons, show hitC a b c (es, m) = false from decide_eq_false hh]
  cases d.find? (hitC a b c) <;> rfl
theorem alL_pos' {a b : Int} {d : List Lf} (h : ∀ x ∈ d, okP a b x.2 = true) : ∀ x ∈ alL a b d, 1 ≤ x := by
  intro x hx
  unfold alL at hx
  obtain ⟨y, hy, rfl⟩ := List.mem_map.1 hx
  have h1 := okP_size (h y hy)
  have := cnt_pos (l := y.2) h1.1 h1.2.2.1
  omega
theorem least_iff {a b : Int} {d : List Lf} (h : ∀ x ∈ d, okP a b x.2 = true) : leastL (alL a b d) = 0 ↔ d.length = 0 := by
  rw [(leastL_pos _ rfl (alL_pos' h)).1, alL_nil]
  exact List.length_eq_zero_iff.symm
/-- what ends a search -/
def hitO (once : Bool) (a b c : Int) : Lf → Bool := fun x => once && hitC a b c x
theorem hitO_true (a b c : Int) : hitO true a b c = hitC a b c := rfl
theorem hitO_false (a b c : Int) : hitO false a b c = fun _ => false := rfl
theorem cut_anyL (hit : Lf → Bool) (A : List Lf) : (cut hit A).1.any hit = (cut hit A).2 := by
  cases h : (cut hit A).2 with
  | true =>
    obtain ⟨B, x, h1, h2, _⟩ := cut_last h
    rw [h1, List.any_append, List.any_cons, h2]
    simp
  | false => rw [cut_keep h, ← cut_any, h]
theorem found_iff {a b c : Int} {once : Bool} {d A : List Lf} (hn : once = true → d.any (hitC a b c) = false) (ho : once = true) : (d ++ (cut (hitO once a b c) A).1).any (hitC a b c) = (cut (hitO once a b c) A).2 := by
  have h1 := hn ho
  subst ho
  rw [hitO_true, List.any_append, h1, cut_anyL]
  rfl
theorem cut_off {a b c : Int} {once : Bool} (ho : once = false) (A : List Lf) : (cut (hitO once a b c) A).2 = false := by
  subst ho
  rw [hitO_false, cut_none (fun _ => rfl)]
theorem cut_ok {a b : Int} {hit : Lf → Bool} {n k : Nat} {es : List (Int × Int)} {m : List Int} (h : okP a b m = true) : ∀ x ∈ (cut hit (lv n k es m)).1, okP a b x.2 = true := fun x hx => lv_ok n k es m h x (cut_sub hx)
theorem set_self (m : List Int) (j : Nat) : m.set j (m.getD j 0) = m := by
  refine ext_getD 0 (by rw [List.length_set]) (fun i hi => ?_)
  rw [List.length_set] at hi
  by_cases e : j = i
  · subst e; rw [getD_set_eq hi]
  · rw [getD_set_ne e]
theorem set_twice (m : List Int) (j : Nat) (x y : Int) : (ints (m.set j x)).set j (.int .i64 y) = ints (m.set j y) := by
  rw [ints_setI, List.set_set]
theorem subS_one {v : Value} {s lo hi : Nat} (h : v.oneCell' = true) : (subS v s lo hi).oneCell' = true := by
  unfold subS
  split
  · rfl
  · exact h
theorem take_edits (es : List (Int × Int)) (e : Int × Int) : (edits (es ++ [e])).take (es.length * 2) = edits es := by
  rw [edits_append]
  exact List.take_left' (length_edits es)
theorem row_short {t : Nat} {v : Value} {es : List (Int × Int)} {e : Int × Int} {k : Nat} (hk : k = es.length) : Ent.row t 2 v k ((edits (es ++ [e])).take (k * 2)) = Ent.row t 2 v es.length (edits es) := by
  subst hk
  rw [take_edits]
theorem lvO_ok {a b : Int} {q k i c : Nat} {es : List (Int × Int)} {m : List Int} (h : okP a b m = true) (hi : k + i < m.length) (hc : c ≤ 3) : ∀ x ∈ lvI q k es m i ++ lvC q (k + i) es m c, okP a b x.2 = true := by
  obtain ⟨r1, h1⟩ := lvC_pre (n := q) (j := k + i) (es := es) (m := m) (c := c) (3 - c)
  obtain ⟨r2, h2⟩ := lvI_pre (n := q) (k := k) (es := es) (m := m) (i := i + 1) (m.length - k - (i + 1))
  rw [show c + (3 - c) = 3 by omega] at h1
  rw [show i + 1 + (m.length - k - (i + 1)) = m.length - k by omega, lvI_succ, h1] at h2
  intro x hx
  refine lv_ok (q + 1) k es m h x ?_
  rw [lv_succ, h2]
  rcases List.mem_append.1 hx with hx | hx
  · exact List.mem_append_left _ (List.mem_append_left _ hx)
  · exact List.mem_append_left _ (List.mem_append_right _ (List.mem_append_left _ hx))
theorem lvI_stop {hit : Lf → Bool} {q k i : Nat} {es : List (Int × Int)} {m : List Int} (hi : k + i ≤ m.length) (h : (cut hit (lvI q k es m i)).2 = true) : cut hit (lv (q + 1) k es m) = cut hit (lvI q k es m i) := by
  obtain ⟨r, hr⟩ := lvI_pre (n := q) (k := k) (es := es) (m := m) (i := i) (m.length - k - i)
  rw [show i + (m.length - k - i) = m.length - k by omega] at hr
  rw [lv_succ, hr, cut_app_yes r h]
theorem lvI_hit {hit : Lf → Bool} {q k : Nat} {es : List (Int × Int)} {m : List Int} {i c : Nat} (hc : c < 3) (hn : ¬ (c : Int) = m.getD (k + i) 0)
    (hA : (cut hit (lvI q k es m i ++ lvC q (k + i) es m c)).2 = false) (hB : (cut hit (lv q (k + i + 1) (es ++ [(((k + i : Nat) : Int), (c : Int))]) (m.set (k + i) (c : Int)))).2 = true) :
    (cut hit (lvI q k es m (i + 1))).1 = (lvI q k es m i ++ lvC q (k + i) es m c) ++ (cut hit (lv q (k + i + 1) (es ++ [(((k + i : Nat) : Int), (c : Int))]) (m.set (k + i) (c : Int)))).1 := by
  obtain ⟨r, hr⟩ := lvC_pre (n := q) (j := k + i) (es := es) (m := m) (c := c + 1) (3 - (c + 1))
  rw [show c + 1 + (3 - (c + 1)) = 3 by omega, lvC_take hn] at hr
  have h1 := (cut_app_no (lv q (k + i + 1) (es ++ [(((k + i : Nat) : Int), (c : Int))]) (m.set (k + i) (c : Int))) hA).2
  rw [lvI_succ, hr, show lvI q k es m i ++ ((lvC q (k + i) es m c ++ lv q (k + i + 1) (es ++ [(((k + i : Nat) : Int), (c : Int))]) (m.set (k + i) (c : Int))) ++ r) = ((lvI q k es m i ++ lvC q (k + i) es m c) ++ lv q (k + i + 1) (es ++ [(((k + i : Nat) : Int), (c : Int))]) (m.set (k + i) (c : Int))) ++ r by simp only [List.append_assoc], cut_app_yes r (by rw [h1]; exact hB), h1]

set_option maxRecDepth 4000 in
set_option maxHeartbeats 800000 in
/-- (*spec.l11S).note -/
theorem f_s_l11S_note (w0 : World) (w : World) (bs : Nat) (a : Int) (b : Int) (c : Int) (vb : Value) (vn : Value) (vf : Value) (va : Value) (d : List Lf) (es : List (Int × Int)) (m : List Int) (F : List Ent) (hw : Sat w0 w (.box bs 93 [.int .i64 a, .int .i64 b, vb, .int .i64 c, vn, vf, .bool ((d).any (hitC a b c)), .int .i64 ((cnL a b c (d) : Nat) : Int), .int .i64 (leastL (alL a b (d))), .int .i64 (mostL (alL a b (d))), va] :: .row 2 1 vb (m).length (ints (m)) :: .row 74 2 vn (es).length (edits (es)) :: .row 74 2 vf (fsE a b c (d)).length (edits (fsE a b c (d))) :: .row 2 1 va (d).length (ints (alL a b (d))) :: F)) (hd : d.length ≤ 999999) (hes : es.length ≤ 3) (hok : okP a b m = true) (hpos : ∀ x ∈ d, okP a b x.2 = true) : RetO Try.prog 163 [.pointer (some ⟨bs, 0, none⟩)] w0 w (fun u L => ∃ vf' va', u = .tuple #[] ∧ L = .box bs 93 [.int .i64 a, .int .i64 b, vb, .int .i64 c, vn, vf', .bool ((d ++ [(es, m)]).any (hitC a b c)), .int .i64 ((cnL a b c (d ++ [(es, m)]) : Nat) : Int), .int .i64 (leastL (alL a b (d ++ [(es, m)]))), .int .i64 (mostL (alL a b (d ++ [(es, m)]))), va'] :: .row 2 1 vb (m).length (ints (m)) :: .row 74 2 vn (es).length (edits (es)) :: .row 74 2 vf' (fsE a b c (d ++ [(es, m)])).length (edits (fsE a b c (d ++ [(es, m)]))) :: .row 2 1 va' (d ++ [(es, m)]).length (ints (alL a b (d ++ [(es, m)]))) :: F) := by
  have hcn := cnL_le a b c d
  have hle := least_iff hpos
  refine RetO.enter Try.func163 rfl Try.ntmps163 rfl hw ?_
  refine Run.seq ?_
  refine Run.region ?_
  refine Ops.pure rfl (Pure.move rfl) ?_
  refine Ops.pure rfl (Pure.nilchk rfl) ?_
  refine Ops.pure rfl (Pure.fieldAddrB fld93_0 rfl) ?_
  refine Ops.q rfl (QOp.call fn85 rfl (fun w hw => f_s_l04Count w bs a b vb m (RdL.boxP 0 rfl rfl rfl w hw) (RdL.own 1 rfl w hw) hok)) ?_
  refine Ops.pure rfl (Pure.assign rfl) ?_
  refine Ops.nil ?_
  refine Run.seq ?_
  refine Run.region ?_
  refine Ops.pure rfl (Pure.move rfl) ?_
  refine Ops.pure rfl (Pure.move rfl) ?_
  refine Ops.pure rfl (Pure.nilchk rfl) ?_
  refine Ops.pure rfl (Pure.fieldAddrB fld93_8 rfl) ?_
  refine Ops.pure rfl (Pure.ldB 0 rfl cell22 rfl rfl) ?_
  refine Ops.pure rfl (Pure.move rfl) ?_
  refine Ops.go rfl (Loud.lit sl22 rfl rfl rfl (by simp [Value.oneCell'])) ?_
  rintro v13 _ rfl
  refine Ops.go rfl (Loud.append 5 rfl sl22 rfl rfl (RdL.own 0 rfl) (by simp [Value.oneCell']) (by omega) (by omega)) ?_
  rintro v14 _ rfl
  refine Ops.pure rfl (Pure.nilchk rfl) ?_
  refine Ops.pure rfl (Pure.fieldAddrB fld93_8 rfl) ?_
  refine Ops.have_ (fun w hw => row_one 5 hw rfl) (fun h14 => ?_)
  refine Ops.store (Stores.box1 1 rfl rfl rfl size22 h14 rfl) ?_
  refine Ops.nil ?_
  refine Run.seq ?_
  refine Run.seq ?_
  refine Run.region ?_
  refine Ops.pure rfl (Pure.move rfl) ?_
  refine Ops.pure rfl (Pure.nilchk rfl) ?_
  refine Ops.pure rfl (Pure.fieldAddrB fld93_8 rfl) ?_
  refine Ops.pure rfl (Pure.ldB 1 rfl cell22 rfl rfl) ?_
  refine Ops.pure rfl (Pure.len sl22 (RdL.own 5 rfl) rfl) ?_
  refine Ops.pure rfl (Pure.eql rfl rfl) ?_
  refine Ops.pure rfl (Pure.move rfl) ?_
  refine Ops.guard rfl rfl rfl rfl (fun c23 => ?_) (fun c23 => ?_)
  · skip
    have c23' := dF c23
    refine Ops.pure rfl (Pure.move rfl) ?_
    refine Ops.guardY rfl rfl rfl c23 ?_
    refine Ops.pure rfl (Pure.move rfl) ?_
    refine Ops.guardY rfl rfl rfl c23 ?_
    refine Ops.pure rfl (Pure.nilchk rfl) ?_
    refine Ops.guardY rfl rfl rfl c23 ?_
    refine Ops.pure rfl (Pure.fieldAddrB fld93_6 rfl) ?_
    refine Ops.guardY rfl rfl rfl c23 ?_
    refine Ops.pure rfl (Pure.ldB 1 rfl cell2 rfl rfl) ?_
    refine Ops.guardY rfl rfl rfl c23 ?_
    refine Ops.pure rfl (Pure.lss rfl rfl) ?_
    refine Ops.pure rfl (Pure.pickF rfl c23 rfl) ?_
    refine Ops.nil ?_
    refine Run.cond rfl (fun c30 => ?_) (fun c30 => ?_)
    · skip
      replace c30 := dT c30
      refine Run.region ?_
      refine Ops.pure rfl (Pure.move rfl) ?_
      refine Ops.pure rfl (Pure.move rfl) ?_
      refine Ops.pure rfl (Pure.nilchk rfl) ?_
      refine Ops.pure rfl (Pure.fieldAddrB fld93_6 rfl) ?_
      refine Ops.store (Stores.box 1 rfl rfl rfl size2 (allOne rfl) rfl rfl) ?_
      refine Ops.nil ?_
      refine Run.seq ?_
      refine Run.region ?_
      refine Ops.pure rfl (Pure.move rfl) ?_
      refine Ops.pure rfl (Pure.move rfl) ?_
      refine Ops.pure rfl (Pure.nilchk rfl) ?_
      refine Ops.pure rfl (Pure.fieldAddrB fld93_7 rfl) ?_
      refine Ops.pure rfl (Pure.ldB 1 rfl cell2 rfl rfl) ?_
      refine Ops.pure rfl (Pure.move rfl) ?_
      refine Ops.q rfl (QOp.call fn165 rfl (fun w hw => f_s_l00Max w _ _)) ?_
      refine Ops.pure rfl (Pure.nilchk rfl) ?_
      refine Ops.pure rfl (Pure.fieldAddrB fld93_7 rfl) ?_
      refine Ops.store (Stores.box 1 rfl rfl rfl size2 (allOne rfl) rfl rfl) ?_
      refine Ops.nil ?_
      refine Run.seq ?_
      refine Run.seq ?_
      refine Run.region ?_
      refine Ops.pure rfl (Pure.move rfl) ?_
      refine Ops.pure rfl (Pure.move rfl) ?_
      refine Ops.pure rfl (Pure.nilchk rfl) ?_
      refine Ops.pure rfl (Pure.fieldAddrB fld93_1 rfl) ?_
      refine Ops.pure rfl (Pure.ldB 1 rfl cell2 rfl rfl) ?_
      refine Ops.pure rfl (Pure.neq rfl rfl) ?_
      refine Ops.nil ?_
      refine Run.cond rfl (fun c49 => ?_) (fun c49 => ?_)
      · skip
        replace c49 := nT c49
        refine Run.ext_ (Ext.right [_] _) ?_
        refine Run.ret0 rfl ?_
        refine ⟨vf, v14, rfl, ?_⟩
        rw [any_no c49, cnL_no c49, alL_snoc', leastL_snoc, mostL_snoc, fsE_no c49, List.length_append, List.length_singleton, ints_snoc]
        try rw [Nat.zero_add es.length]
        first
          | (rw [if_pos (by omega)]; rfl)
          | (rw [if_neg (by omega)]; rfl)
      · skip
        replace c49 := nF c49
        refine Run.skip ?_
        refine Run.seq ?_
        refine Run.region ?_
        refine Ops.pure rfl (Pure.move rfl) ?_
        refine Ops.pure rfl (Pure.nilchk rfl) ?_
        refine Ops.pure rfl (Pure.fieldAddrB fld93_5 rfl) ?_
        refine Ops.pure rfl (Pure.ldB 1 rfl cell2 rfl rfl) ?_
        refine Ops.pure rfl (Pure.add rfl rfl (by omega) (by omega)) ?_
        refine Ops.pure rfl (Pure.nilchk rfl) ?_
        refine Ops.pure rfl (Pure.fieldAddrB fld93_5 rfl) ?_
        refine Ops.store (Stores.box 1 rfl rfl rfl size2 (allOne rfl) rfl rfl) ?_
        refine Ops.nil ?_
        refine Run.seq ?_
        refine Run.region ?_
        refine Ops.pure rfl (Pure.move rfl) ?_
        refine Ops.pure rfl (Pure.nilchk rfl) ?_
        refine Ops.pure rfl (Pure.fieldAddrB fld93_4 rfl) ?_
        refine Ops.pure rfl (Pure.ldB 1 rfl cell4 rfl rfl) ?_
        refine Ops.pure rfl (Pure.not rfl) ?_
        refine Ops.nil ?_
        refine Run.cond rfl (fun c61 => ?_) (fun c61 => ?_)
        · skip
          replace c61 := bT c61
          refine Run.seq ?_
          refine Run.region ?_
          refine Ops.pure rfl (Pure.move rfl) ?_
          refine Ops.pure rfl (Pure.nilchk rfl) ?_
          refine Ops.pure rfl (Pure.fieldAddrB fld93_4 rfl) ?_
          refine Ops.store (Stores.box 1 rfl rfl rfl size4 (allOne rfl) rfl rfl) ?_
          refine Ops.nil ?_
          refine Run.region ?_
          refine Ops.pure rfl (Pure.move rfl) ?_
          refine Ops.go rfl (Loud.lit0 sl41) ?_
          rintro v66 _ rfl
          refine Ops.pure rfl (Pure.move rfl) ?_
          refine Ops.pure rfl (Pure.nilchk rfl) ?_
          refine Ops.pure rfl (Pure.fieldAddrB fld93_2 rfl) ?_
          refine Ops.pure rfl (Pure.ldB 2 rfl cell41 rfl rfl) ?_
          refine Ops.go rfl (Loud.append 0 rfl sl41 rfl rfl (RdL.own 4 rfl) (by exact edits_one es) (by omega) (by omega)) ?_
          rintro v71 _ rfl
          refine Ops.pure rfl (Pure.nilchk rfl) ?_
          refine Ops.pure rfl (Pure.fieldAddrB fld93_3 rfl) ?_
          refine Ops.have_ (fun w hw => row_one 0 hw rfl) (fun h71 => ?_)
          refine Ops.store (Stores.box1 2 rfl rfl rfl size41 h71 rfl) ?_
          refine Ops.nil ?_
          refine Run.ext_ (Ext.take 2 rfl (Ext.take 2 rfl (Ext.take 2 rfl (Ext.take 0 rfl (Ext.take 2 rfl (Ext.right [_, _] _)))))) ?_
          refine Run.end0 rfl ?_
          refine ⟨v71, v14, rfl, ?_⟩
          rw [any_yes c49, cnL_yes c49, alL_snoc', leastL_snoc, mostL_snoc, fsE_new c61 c49, List.length_append, List.length_singleton, ints_snoc]
          try rw [Nat.zero_add es.length]
          first
            | (rw [if_pos (by omega)]; rfl)
            | (rw [if_neg (by omega)]; rfl)
        · skip
          replace c61 := bF c61
          refine Run.skip ?_
          refine Run.ext_ (Ext.right [_] _) ?_
          refine Run.end0 rfl ?_
          refine ⟨vf, v14, rfl, ?_⟩
          rw [show (d ++ [(es, m)]).any (hitC a b c) = d.any (hitC a b c) from by rw [any_yes c49, c61], cnL_yes c49, alL_snoc', leastL_snoc, mostL_snoc, fsE_old c61, List.length_append, List.length_singleton, ints_snoc]
          try rw [Nat.zero_add es.length]
          first
            | (rw [if_pos (by omega)]; rfl)
            | (rw [if_neg (by omega)]; rfl)
    · skip
      replace c30 := dF c30
      refine Run.skip ?_
      refine Run.seq ?_
      refine Run.region ?_
      refine Ops.pure rfl (Pure.move rfl) ?_
      refine Ops.pure rfl (Pure.move rfl) ?_
      refine Ops.pure rfl (Pure.nilchk rfl) ?_
      refine Ops.pure rfl (Pure.fieldAddrB fld93_7 rfl) ?_
      refine Ops.pure rfl (Pure.ldB 1 rfl cell2 rfl rfl) ?_
      refine Ops.pure rfl (Pure.move rfl) ?_
      refine Ops.q rfl (QOp.call fn165 rfl (fun w hw => f_s_l00Max w _ _)) ?_
      refine Ops.pure rfl (Pure.nilchk rfl) ?_
      refine Ops.pure rfl (Pure.fieldAddrB fld93_7 rfl) ?_
      refine Ops.store (Stores.box 1 rfl rfl rfl size2 (allOne rfl) rfl rfl) ?_
      refine Ops.nil ?_
      refine Run.seq ?_
      refine Run.seq ?_
      refine Run.region ?_
      refine Ops.pure rfl (Pure.move rfl) ?_
      refine Ops.pure rfl (Pure.move rfl) ?_
      refine Ops.pure rfl (Pure.nilchk rfl) ?_
      refine Ops.pure rfl (Pure.fieldAddrB fld93_1 rfl) ?_
      refine Ops.pure rfl (Pure.ldB 1 rfl cell2 rfl rfl) ?_
      refine Ops.pure rfl (Pure.neq rfl rfl) ?_
      refine Ops.nil ?_
      refine Run.cond rfl (fun c49 => ?_) (fun c49 => ?_)
      · skip
        replace c49 := nT c49
        refine Run.ext_ (Ext.right [_] _) ?_
        refine Run.ret0 rfl ?_
        refine ⟨vf, v14, rfl, ?_⟩
        rw [any_no c49, cnL_no c49, alL_snoc', leastL_snoc, mostL_snoc, fsE_no c49, List.length_append, List.length_singleton, ints_snoc]
        try rw [Nat.zero_add es.length]
        first
          | (rw [if_pos (by omega)]; rfl)
          | (rw [if_neg (by omega)]; rfl)
      · skip
        replace c49 := nF c49
        refine Run.skip ?_
        refine Run.seq ?_
        refine Run.region ?_
        refine Ops.pure rfl (Pure.move rfl) ?_
        refine Ops.pure rfl (Pure.nilchk rfl) ?_
        refine Ops.pure rfl (Pure.fieldAddrB fld93_5 rfl) ?_
        refine Ops.pure rfl (Pure.ldB 1 rfl cell2 rfl rfl) ?_
        refine Ops.pure rfl (Pure.add rfl rfl (by omega) (by omega)) ?_
        refine Ops.pure rfl (Pure.nilchk rfl) ?_
        refine Ops.pure rfl (Pure.fieldAddrB fld93_5 rfl) ?_
        refine Ops.store (Stores.box 1 rfl rfl rfl size2 (allOne rfl) rfl rfl) ?_
        refine Ops.nil ?_
        refine Run.seq ?_
        refine Run.region ?_
        refine Ops.pure rfl (Pure.move rfl) ?_
        refine Ops.pure rfl (Pure.nilchk rfl) ?_
        refine Ops.pure rfl (Pure.fieldAddrB fld93_4 rfl) ?_
        refine Ops.pure rfl (Pure.ldB 1 rfl cell4 rfl rfl) ?_
        refine Ops.pure rfl (Pure.not rfl) ?_
        refine Ops.nil ?_
        refine Run.cond rfl (fun c61 => ?_) (fun c61 => ?_)
        · skip
          replace c61 := bT c61
          refine Run.seq ?_
          refine Run.region ?_
          refine Ops.pure rfl (Pure.move rfl) ?_
          refine Ops.pure rfl (Pure.nilchk rfl) ?_
          refine Ops.pure rfl (Pure.fieldAddrB fld93_4 rfl) ?_
          refine Ops.store (Stores.box 1 rfl rfl rfl size4 (allOne rfl) rfl rfl) ?_
          refine Ops.nil ?_
          refine Run.region ?_
          refine Ops.pure rfl (Pure.move rfl) ?_
          refine Ops.go rfl (Loud.lit0 sl41) ?_
          rintro v66 _ rfl
          refine Ops.pure rfl (Pure.move rfl) ?_
          refine Ops.pure rfl (Pure.nilchk rfl) ?_
          refine Ops.pure rfl (Pure.fieldAddrB fld93_2 rfl) ?_
          refine Ops.pure rfl (Pure.ldB 2 rfl cell41 rfl rfl) ?_
          refine Ops.go rfl (Loud.append 0 rfl sl41 rfl rfl (RdL.own 4 rfl) (by exact edits_one es) (by omega) (by omega)) ?_
          rintro v71 _ rfl
          refine Ops.pure rfl (Pure.nilchk rfl) ?_
          refine Ops.pure rfl (Pure.fieldAddrB fld93_3 rfl) ?_
          refine Ops.have_ (fun w hw => row_one 0 hw rfl) (fun h71 => ?_)
          refine Ops.store (Stores.box1 2 rfl rfl rfl size41 h71 rfl) ?_
          refine Ops.nil ?_
          refine Run.ext_ (Ext.take 2 rfl (Ext.take 2 rfl (Ext.take 2 rfl (Ext.take 0 rfl (Ext.take 2 rfl (Ext.right [_, _] _)))))) ?_
          refine Run.end0 rfl ?_
          refine ⟨v71, v14, rfl, ?_⟩
          rw [any_yes c49, cnL_yes c49, alL_snoc', leastL_snoc, mostL_snoc, fsE_new c61 c49, List.length_append, List.length_singleton, ints_snoc]
          try rw [Nat.zero_add es.length]
          first
            | (rw [if_pos (by omega)]; rfl)
            | (rw [if_neg (by omega)]; rfl)
        · skip
          replace c61 := bF c61
          refine Run.skip ?_
          refine Run.ext_ (Ext.right [_] _) ?_
          refine Run.end0 rfl ?_
          refine ⟨vf, v14, rfl, ?_⟩
          rw [show (d ++ [(es, m)]).any (hitC a b c) = d.any (hitC a b c) from by rw [any_yes c49, c61], cnL_yes c49, alL_snoc', leastL_snoc, mostL_snoc, fsE_old c61, List.length_append, List.length_singleton, ints_snoc]
          try rw [Nat.zero_add es.length]
          first
            | (rw [if_pos (by omega)]; rfl)
            | (rw [if_neg (by omega)]; rfl)
  · skip
    replace c23 := Bool.eq_true_of_ne c23
    have c23' := dT c23
    refine Ops.guardN rfl rfl rfl rfl (by rw [c23]; decide) ?_
    refine Ops.guardN rfl rfl rfl rfl (by rw [c23]; decide) ?_
    refine Ops.guardN rfl rfl rfl rfl (by rw [c23]; decide) ?_
    refine Ops.guardN rfl rfl rfl rfl (by rw [c23]; decide) ?_
    refine Ops.guardN rfl rfl rfl rfl (by rw [c23]; decide) ?_
    refine Ops.pure rfl (Pure.pickT rfl c23 rfl) ?_
    refine Ops.nil ?_
    refine Run.condE rfl rfl ?_
    refine Run.region ?_
    refine Ops.pure rfl (Pure.move rfl) ?_
    refine Ops.pure rfl (Pure.move rfl) ?_
    refine Ops.pure rfl (Pure.nilchk rfl) ?_
    refine Ops.pure rfl (Pure.fieldAddrB fld93_6 rfl) ?_
    refine Ops.store (Stores.box 1 rfl rfl rfl size2 (allOne rfl) rfl rfl) ?_
    refine Ops.nil ?_
    refine Run.seq ?_
    refine Run.region ?_
    refine Ops.pure rfl (Pure.move rfl) ?_
    refine Ops.pure rfl (Pure.move rfl) ?_
    refine Ops.pure rfl (Pure.nilchk rfl) ?_
    refine Ops.pure rfl (Pure.fieldAddrB fld93_7 rfl) ?_
    refine Ops.pure rfl (Pure.ldB 1 rfl cell2 rfl rfl) ?_
    refine Ops.pure rfl (Pure.move rfl) ?_
    refine Ops.q rfl (QOp.call fn165 rfl (fun w hw => f_s_l00Max w _ _)) ?_
    refine Ops.pure rfl (Pure.nilchk rfl) ?_
    refine Ops.pure rfl (Pure.fieldAddrB fld93_7 rfl) ?_
    refine Ops.store (Stores.box 1 rfl rfl rfl size2 (allOne rfl) rfl rfl) ?_
    refine Ops.nil ?_
    refine Run.seq ?_
    refine Run.seq ?_
    refine Run.region ?_
    refine Ops.pure rfl (Pure.move rfl) ?_
    refine Ops.pure rfl (Pure.move rfl) ?_
    refine Ops.pure rfl (Pure.nilchk rfl) ?_
    refine Ops.pure rfl (Pure.fieldAddrB fld93_1 rfl) ?_
    refine Ops.pure rfl (Pure.ldB 1 rfl cell2 rfl rfl) ?_
    refine Ops.pure rfl (Pure.neq rfl rfl) ?_
    refine Ops.nil ?_
    refine Run.cond rfl (fun c49 => ?_) (fun c49 => ?_)
    · skip
      replace c49 := nT c49
      refine Run.ext_ (Ext.right [_] _) ?_
      refine Run.ret0 rfl ?_
      refine ⟨vf, v14, rfl, ?_⟩
      rw [any_no c49, cnL_no c49, alL_snoc', leastL_snoc, mostL_snoc, fsE_no c49, List.length_append, List.length_singleton, ints_snoc]
      try rw [Nat.zero_add es.length]
      first
        | (rw [if_pos (by omega)]; rfl)
        | (rw [if_neg (by omega)]; rfl)
    · skip
      replace c49 := nF c49
      refine Run.skip ?_
      refine Run.seq ?_
      refine Run.region ?_
      refine Ops.pure rfl (Pure.move rfl) ?_
      refine Ops.pure rfl (Pure.nilchk rfl) ?_
      refine Ops.pure rfl (Pure.fieldAddrB fld93_5 rfl) ?_
      refine Ops.pure rfl (Pure.ldB 1 rfl cell2 rfl rfl) ?_
      refine Ops.pure rfl (Pure.add rfl rfl (by omega) (by omega)) ?_
      refine Ops.pure rfl (Pure.nilchk rfl) ?_
      refine Ops.pure rfl (Pure.fieldAddrB fld93_5 rfl) ?_
      refine Ops.store (Stores.box 1 rfl rfl rfl size2 (allOne rfl) rfl rfl) ?_
      refine Ops.nil ?_
      refine Run.seq ?_
      refine Run.region ?_
      refine Ops.pure rfl (Pure.move rfl) ?_
      refine Ops.pure rfl (Pure.nilchk rfl) ?_
      refine Ops.pure rfl (Pure.fieldAddrB fld93_4 rfl) ?_
      refine Ops.pure rfl (Pure.ldB 1 rfl cell4 rfl rfl) ?_
      refine Ops.pure rfl (Pure.not rfl) ?_
      refine Ops.nil ?_
      refine Run.cond rfl (fun c61 => ?_) (fun c61 => ?_)
      · skip
        replace c61 := bT c61
        refine Run.seq ?_
        refine Run.region ?_
        refine Ops.pure rfl (Pure.move rfl) ?_
        refine Ops.pure rfl (Pure.nilchk rfl) ?_
        refine Ops.pure rfl (Pure.fieldAddrB fld93_4 rfl) ?_
        refine Ops.store (Stores.box 1 rfl rfl rfl size4 (allOne rfl) rfl rfl) ?_
        refine Ops.nil ?_
        refine Run.region ?_
        refine Ops.pure rfl (Pure.move rfl) ?_
        refine Ops.go rfl (Loud.lit0 sl41) ?_
        rintro v66 _ rfl
        refine Ops.pure rfl (Pure.move rfl) ?_
        refine Ops.pure rfl (Pure.nilchk rfl) ?_
        refine Ops.pure rfl (Pure.fieldAddrB fld93_2 rfl) ?_
        refine Ops.pure rfl (Pure.ldB 2 rfl cell41 rfl rfl) ?_
        refine Ops.go rfl (Loud.append 0 rfl sl41 rfl rfl (RdL.own 4 rfl) (by exact edits_one es) (by omega) (by omega)) ?_
        rintro v71 _ rfl
        refine Ops.pure rfl (Pure.nilchk rfl) ?_
        refine Ops.pure rfl (Pure.fieldAddrB fld93_3 rfl) ?_
        refine Ops.have_ (fun w hw => row_one 0 hw rfl) (fun h71 => ?_)
        refine Ops.store (Stores.box1 2 rfl rfl rfl size41 h71 rfl) ?_
        refine Ops.nil ?_
        refine Run.ext_ (Ext.take 2 rfl (Ext.take 2 rfl (Ext.take 2 rfl (Ext.take 0 rfl (Ext.take 2 rfl (Ext.right [_, _] _)))))) ?_
        refine Run.end0 rfl ?_
        refine ⟨v71, v14, rfl, ?_⟩
        rw [any_yes c49, cnL_yes c49, alL_snoc', leastL_snoc, mostL_snoc, fsE_new c61 c49, List.length_append, List.length_singleton, ints_snoc]
        try rw [Nat.zero_add es.length]
        first
          | (rw [if_pos (by omega)]; rfl)
          | (rw [if_neg (by omega)]; rfl)
      · skip
        replace c61 := bF c61
        refine Run.skip ?_
        refine Run.ext_ (Ext.right [_] _) ?_
        refine Run.end0 rfl ?_
        refine ⟨vf, v14, rfl, ?_⟩
        rw [show (d ++ [(es, m)]).any (hitC a b c) = d.any (hitC a b c) from by rw [any_yes c49, c61], cnL_yes c49, alL_snoc', leastL_snoc, mostL_snoc, fsE_old c61, List.length_append, List.length_singleton, ints_snoc]
        try rw [Nat.zero_add es.length]
        first
          | (rw [if_pos (by omega)]; rfl)
          | (rw [if_neg (by omega)]; rfl)

end Go.Proofs.Ytkplanpcmkbfiaa
