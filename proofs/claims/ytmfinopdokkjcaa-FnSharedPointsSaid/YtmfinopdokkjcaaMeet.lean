/- Contracts of functions, printed by program from annotations. -/
import Derived.Test.YtmfinopdokkjcaaAwm
import Derived.Test.YtmfinopdokkjcaaTrc3
import Derived.Test.YtmfinopdokkjcaaPtL
namespace Go.Proofs.Ytmfinopdokkjcaa
open Go Go.AW Go.RowKit
set_option linter.unusedVariables false
set_option linter.unusedSimpArgs false

/-- the four segments at a point, in the order of the program -/
def arL (b x y : Int) : List Int := [sg b (x, y, -1, -1), sg b (x, y, -1, 1), sg b (x, y, 1, -1), sg b (x, y, 1, 1)]
def arTo (b x y : Int) : Nat → List Int
  | 0 => [0, 0, 0, 0]
  | 1 => [sg b (x, y, -1, -1), 0, 0, 0]
  | 2 => [sg b (x, y, -1, -1), sg b (x, y, -1, 1), 0, 0]
  | 3 => [sg b (x, y, -1, -1), sg b (x, y, -1, 1), sg b (x, y, 1, -1), 0]
  | _ => arL b x y
/-- whose a segment is -/
def ofS (a b : Int) (l : List Int) (w : Wk) : Int := (ownL a b l).getD (sg b w).toNat 0
/-- the curves at a point, in the order of the reference -/
def meL (a b : Int) (l : List Int) (x y : Int) : List Int := [ofS a b l (x, y, -1, -1), ofS a b l (x, y, 1, -1), ofS a b l (x, y, -1, 1), ofS a b l (x, y, 1, 1)]
def meI (a b : Int) (l : List Int) (x y : Int) : List Int := [ofS a b l (x, y, -1, -1), ofS a b l (x, y, -1, 1), ofS a b l (x, y, 1, -1), ofS a b l (x, y, 1, 1)]
def keyTo (ls : List Int) (k : Nat) : List Int := (ls.take k).foldl addK []
theorem mem_fold {ls : List Int} {x : Int} : ∀ {ks : List Int}, x ∈ ls.foldl addK ks ↔ x ∈ ks ∨ x ∈ ls := by
  induction ls with
  | nil => intro ks; simp
  | cons c r ih =>
    intro ks
    rw [List.foldl_cons, ih, mem_addK, List.mem_cons]
    constructor
    · rintro ((h | h) | h)
      · exact .inl h
      · exact .inr (.inl h)
      · exact .inr (.inr h)
    · rintro (h | h | h)
      · exact .inl (.inl h)
      · exact .inl (.inr h)
      · exact .inr h
theorem keyTo_four {a b : Int} {l : List Int} {x y c : Int} : c ∈ keyTo (meI a b l x y) 4 ↔ c ∈ meL a b l x y := by
  unfold keyTo
  rw [mem_fold, show (meI a b l x y).take 4 = meI a b l x y from rfl]
  unfold meI meL
  simp only [List.not_mem_nil, false_or, List.mem_cons, or_false]
  constructor <;> (rintro (h | h | h | h) <;> simp [h])
theorem keyTo_succ {ls : List Int} {k : Nat} (h : k < ls.length) : keyTo ls (k + 1) = addK (keyTo ls k) (ls.getD k 0) := by
  unfold keyTo
  rw [List.take_add_one, getD_some h 0, List.foldl_append]
  rfl
theorem around_VW {a b x y dx dy : Int} (hp : PtOk a b x y) (he : ¬ Edge a b x y) (h1 : dx = 1 ∨ dx = -1) (h2 : dy = 1 ∨ dy = -1) : VW a b (x, y, dx, dy) := by
  rw [VW_mk]
  unfold PtOk Edge at *
  omega
/-- whether all the curves meet at a point -/
def allM (a b : Int) (l : List Int) (cs : List Int) (k : Nat) : Bool := cs.all fun c => decide (c ∈ meL a b l (ptX a k) (ptY a k))
def msL (a b : Int) (l : List Int) (cs : List Int) (n : Nat) : List Int := ((List.range n).filter (allM a b l cs)).map fun (k : Nat) => (k : Int)
theorem msL_yes {a b : Int} {l cs : List Int} {k : Nat} (h : allM a b l cs k = true) : msL a b l cs (k + 1) = msL a b l cs k ++ [(k : Int)] := by
  unfold msL
  rw [List.range_succ, List.filter_append, List.filter_cons_of_pos h, List.filter_nil, List.map_append]
  rfl
theorem msL_no {a b : Int} {l cs : List Int} {k : Nat} (h : allM a b l cs k = false) : msL a b l cs (k + 1) = msL a b l cs k := by
  unfold msL
  rw [List.range_succ, List.filter_append, List.filter_cons_of_neg (by rw [h]; decide), List.filter_nil, List.append_nil]
theorem length_msL (a b : Int) (l cs : List Int) (n : Nat) : (msL a b l cs n).length ≤ n := by
  unfold msL
  rw [List.length_map]
  exact Nat.le_trans (List.length_filter_le _ _) (by rw [List.length_range]; exact Nat.le_refl _)
theorem length_ownL {a b : Int} {l : List Int} (hs : SizeOk a b) : (ownL a b l).length = segN a b := (allTI (l := l) hs.1 hs.2.2.1).len
/-- all of the first curves among some -/
def allT (cs : List Int) (ks : List Int) (j : Nat) : Bool := (cs.take j).all fun c => decide (c ∈ ks)
theorem allT_succ {cs ks : List Int} {j : Nat} (h : j < cs.length) : allT cs ks (j + 1) = (allT cs ks j && decide (cs.getD j 0 ∈ ks)) := by
  unfold allT
  rw [List.take_add_one, getD_some h 0, List.all_append]
  simp
theorem allT_full {a b : Int} {l cs : List Int} {k : Nat} : allT cs (keyTo (meI a b l (ptX a k) (ptY a k)) 4) cs.length = allM a b l cs k := by
  unfold allT allM
  rw [List.take_length]
  congr 1
  funext c
  rw [decide_eq_decide]
  exact keyTo_four

set_option maxRecDepth 4000 in
/-- (impl.Panel).around -/
theorem f_i_Panel_around (w : World) (a : Int) (b : Int) (v : Value) (x : Int) (y : Int) (hs : SizeOk a b) (hpt : PtOk a b x y) (hne : ¬ Edge a b x y) : RetV Try.prog 193 [.agg #[.int .i64 a, .int .i64 b, v], .agg #[.int .i64 x, .int .i64 y]] w (.agg (ints (arL b x y)).toArray) := by
  obtain ⟨hs1, hs2, hs3, hs4⟩ := id hs
  refine Ret.enter Try.func193 rfl Try.ntmps193 rfl ?_
  refine Run.seq ?_
  refine Run.region ?_
  refine Ops.go rfl (Loud.box rfl rfl) ?_
  rintro _ _ ⟨b2, rfl, rfl⟩
  refine Ops.go rfl (Loud.box rfl rfl) ?_
  rintro _ _ ⟨b3, rfl, rfl⟩
  refine Ops.go rfl (Loud.alloc zero195 rfl) ?_
  rintro _ _ ⟨b4, rfl, rfl⟩
  refine Ops.nil ?_
  refine Run.seq ?_
  refine Run.region ?_
  refine Ops.pure rfl (Pure.build rfl bld195) ?_
  refine Ops.go rfl (Loud.alloc zero195 rfl) ?_
  rintro _ _ ⟨b5, rfl, rfl⟩
  refine Ops.store (Stores.box 0 rfl rfl rfl size195 (allOne rfl) rfl rfl) ?_
  refine Ops.nil ?_
  refine Run.seq ?_
  refine Run.seq ?_
  refine Run.region ?_
  refine Ops.pure rfl (Pure.build rfl (show Try.prog.built 202 [(0, .int .i64 (-1)), (1, .int .i64 (-1))] = some #[.int .i64 (-1), .int .i64 (-1)] by kernel_rfl)) ?_
  refine Ops.pure rfl (Pure.build rfl (show Try.prog.built 202 [(0, .int .i64 (-1)), (1, .int .i64 1)] = some #[.int .i64 (-1), .int .i64 1] by kernel_rfl)) ?_
  refine Ops.pure rfl (Pure.build rfl (show Try.prog.built 202 [(0, .int .i64 1), (1, .int .i64 (-1))] = some #[.int .i64 1, .int .i64 (-1)] by kernel_rfl)) ?_
  refine Ops.pure rfl (Pure.build rfl (show Try.prog.built 202 [(0, .int .i64 1), (1, .int .i64 1)] = some #[.int .i64 1, .int .i64 1] by kernel_rfl)) ?_
  refine Ops.pure rfl (Pure.build rfl (show Try.prog.built 217 [(0, .agg #[.int .i64 (-1), .int .i64 (-1)]), (1, .agg #[.int .i64 (-1), .int .i64 1]), (2, .agg #[.int .i64 1, .int .i64 (-1)]), (3, .agg #[.int .i64 1, .int .i64 1])] = some #[.int .i64 (-1), .int .i64 (-1), .int .i64 (-1), .int .i64 1, .int .i64 1, .int .i64 (-1), .int .i64 1, .int .i64 1] by kernel_rfl)) ?_
  refine Ops.pure rfl (Pure.move rfl) ?_
  refine Ops.nil ?_
  refine Run.block ?_
  refine Run.loop (X := Nat) (fun k => [(2, .pointer (some ⟨b2, 0, none⟩)), (3, .pointer (some ⟨b3, 0, none⟩)), (4, .pointer (some ⟨b4, 0, none⟩)), (5, .pointer (some ⟨b5, 0, none⟩)), (13, .agg #[.int .i64 (-1), .int .i64 (-1), .int .i64 (-1), .int .i64 1, .int .i64 1, .int .i64 (-1), .int .i64 1, .int .i64 1]), (14, .int .i64 k)]) (fun k => [.box b5 195 (ints (arTo b x y k)), .box b4 195 [.int .i64 0, .int .i64 0, .int .i64 0, .int .i64 0], .box b3 72 [.int .i64 x, .int .i64 y], .box b2 35 [.int .i64 a, .int .i64 b, v]]) (fun k => k ≤ 4) (fun k => 4 - k) 0 ?_ ?_ ?_ ?_
  · exact Nat.zero_le _
  · exact ⟨rfl, rfl, rfl, rfl, rfl, rfl, trivial⟩
  · exact Ext.refl _
  · intro k hinv0
    refine Run.seq ?_
    refine Run.region ?_
    refine Ops.pure rfl (Pure.lss rfl rfl) ?_
    refine Ops.nil ?_
    refine Run.seq ?_
    refine Run.cond rfl (fun c15 => ?_) (fun c15 => ?_)
    · skip
      replace c15 := dT c15
      refine Run.skip ?_
      refine Run.seq ?_
      refine Run.block ?_
      refine Run.seq ?_
      obtain rfl | rfl | rfl | rfl : k = 0 ∨ k = 1 ∨ k = 2 ∨ k = 3 := by omega
      · skip
        have hV := around_VW (dx := -1) (dy := -1) hpt hne (by decide) (by decide)
        refine Run.region ?_
        refine Ops.pure rfl (Pure.move rfl) ?_
        refine Ops.pure rfl (Pure.idxVA (m := 2) und217 cell202 rfl rfl (by decide) (by decide) rfl) ?_
        refine Ops.go rfl (Loud.alloc zero202 rfl) ?_
        rintro _ _ ⟨b7, rfl, rfl⟩
        refine Ops.pure rfl (Pure.assign rfl) ?_
        refine Ops.store (Stores.box 0 rfl rfl rfl size202 (allOne rfl) rfl rfl) ?_
        refine Ops.nil ?_
        refine Run.region ?_
        refine Ops.pure rfl (Pure.move rfl) ?_
        refine Ops.pure rfl (Pure.ldBA 4 rfl cell35 rfl rfl rfl) ?_
        refine Ops.pure rfl (Pure.ldBA 3 rfl cell72 rfl rfl rfl) ?_
        refine Ops.pure rfl (Pure.idxArr und202 size2 rfl rfl (by first | assumption | omega | (simp; omega)) (by first | assumption | omega | (simp; omega))) ?_
        refine Ops.pure rfl (Pure.ldB 0 rfl cell2 rfl rfl) ?_
        refine Ops.pure rfl (Pure.idxArr und202 size2 rfl rfl (by first | assumption | omega | (simp; omega)) (by first | assumption | omega | (simp; omega))) ?_
        refine Ops.pure rfl (Pure.ldB 0 rfl cell2 rfl rfl) ?_
        refine Ops.pure rfl (Pure.build rfl (bld167_3 _ _ _ _ (by first | rfl | assumption) (by first | rfl | assumption))) ?_
        refine Ops.q rfl (QOp.call fn173 rfl (fun w hw => f_i_Panel_segment w a b v x y _ _ hs hV)) ?_
        refine Ops.pure rfl (Pure.idxArrN und195 size2 rfl rfl (by first | assumption | omega | (simp; omega))) ?_
        refine Ops.store (Stores.box 1 rfl rfl rfl size2 (allOne rfl) rfl rfl) ?_
        refine Ops.nil ?_
        refine Run.blk ?_
        refine Run.region ?_
        refine Ops.pure rfl (Pure.add rfl rfl (by omega) (by omega)) ?_
        refine Ops.pure rfl (Pure.move rfl) ?_
        refine Ops.nil ?_
        refine Run.asrt ?_
        first
          | exact ⟨1, ⟨by omega, by omega⟩, ⟨rfl, rfl, rfl, rfl, rfl, rfl, trivial⟩, Ext.right [_] _⟩
          | exact ⟨2, ⟨by omega, by omega⟩, ⟨rfl, rfl, rfl, rfl, rfl, rfl, trivial⟩, Ext.right [_] _⟩
          | exact ⟨3, ⟨by omega, by omega⟩, ⟨rfl, rfl, rfl, rfl, rfl, rfl, trivial⟩, Ext.right [_] _⟩
          | exact ⟨4, ⟨by omega, by omega⟩, ⟨rfl, rfl, rfl, rfl, rfl, rfl, trivial⟩, Ext.right [_] _⟩
      · skip
        have hV := around_VW (dx := -1) (dy := 1) hpt hne (by decide) (by decide)
        refine Run.region ?_
        refine Ops.pure rfl (Pure.move rfl) ?_
        refine Ops.pure rfl (Pure.idxVA (m := 2) und217 cell202 rfl rfl (by decide) (by decide) rfl) ?_
        refine Ops.go rfl (Loud.alloc zero202 rfl) ?_
        rintro _ _ ⟨b7, rfl, rfl⟩
        refine Ops.pure rfl (Pure.assign rfl) ?_
        refine Ops.store (Stores.box 0 rfl rfl rfl size202 (allOne rfl) rfl rfl) ?_
        refine Ops.nil ?_
        refine Run.region ?_
        refine Ops.pure rfl (Pure.move rfl) ?_
        refine Ops.pure rfl (Pure.ldBA 4 rfl cell35 rfl rfl rfl) ?_
        refine Ops.pure rfl (Pure.ldBA 3 rfl cell72 rfl rfl rfl) ?_
        refine Ops.pure rfl (Pure.idxArr und202 size2 rfl rfl (by first | assumption | omega | (simp; omega)) (by first | assumption | omega | (simp; omega))) ?_
        refine Ops.pure rfl (Pure.ldB 0 rfl cell2 rfl rfl) ?_
        refine Ops.pure rfl (Pure.idxArr und202 size2 rfl rfl (by first | assumption | omega | (simp; omega)) (by first | assumption | omega | (simp; omega))) ?_
        refine Ops.pure rfl (Pure.ldB 0 rfl cell2 rfl rfl) ?_
        refine Ops.pure rfl (Pure.build rfl (bld167_3 _ _ _ _ (by first | rfl | assumption) (by first | rfl | assumption))) ?_
        refine Ops.q rfl (QOp.call fn173 rfl (fun w hw => f_i_Panel_segment w a b v x y _ _ hs hV)) ?_
        refine Ops.pure rfl (Pure.idxArrN und195 size2 rfl rfl (by first | assumption | omega | (simp; omega))) ?_
        refine Ops.store (Stores.box 1 rfl rfl rfl size2 (allOne rfl) rfl rfl) ?_
        refine Ops.nil ?_
        refine Run.blk ?_
        refine Run.region ?_
        refine Ops.pure rfl (Pure.add rfl rfl (by omega) (by omega)) ?_
        refine Ops.pure rfl (Pure.move rfl) ?_
        refine Ops.nil ?_
        refine Run.asrt ?_
        first
          | exact ⟨1, ⟨by omega, by omega⟩, ⟨rfl, rfl, rfl, rfl, rfl, rfl, trivial⟩, Ext.right [_] _⟩
          | exact ⟨2, ⟨by omega, by omega⟩, ⟨rfl, rfl, rfl, rfl, rfl, rfl, trivial⟩, Ext.right [_] _⟩
          | exact ⟨3, ⟨by omega, by omega⟩, ⟨rfl, rfl, rfl, rfl, rfl, rfl, trivial⟩, Ext.right [_] _⟩
          | exact ⟨4, ⟨by omega, by omega⟩, ⟨rfl, rfl, rfl, rfl, rfl, rfl, trivial⟩, Ext.right [_] _⟩
      · skip
        have hV := around_VW (dx := 1) (dy := -1) hpt hne (by decide) (by decide)
        refine Run.region ?_
        refine Ops.pure rfl (Pure.move rfl) ?_
        refine Ops.pure rfl (Pure.idxVA (m := 2) und217 cell202 rfl rfl (by decide) (by decide) rfl) ?_
        refine Ops.go rfl (Loud.alloc zero202 rfl) ?_
        rintro _ _ ⟨b7, rfl, rfl⟩
        refine Ops.pure rfl (Pure.assign rfl) ?_
        refine Ops.store (Stores.box 0 rfl rfl rfl size202 (allOne rfl) rfl rfl) ?_
        refine Ops.nil ?_
        refine Run.region ?_
        refine Ops.pure rfl (Pure.move rfl) ?_
        refine Ops.pure rfl (Pure.ldBA 4 rfl cell35 rfl rfl rfl) ?_
        refine Ops.pure rfl (Pure.ldBA 3 rfl cell72 rfl rfl rfl) ?_
        refine Ops.pure rfl (Pure.idxArr und202 size2 rfl rfl (by first | assumption | omega | (simp; omega)) (by first | assumption | omega | (simp; omega))) ?_
        refine Ops.pure rfl (Pure.ldB 0 rfl cell2 rfl rfl) ?_
        refine Ops.pure rfl (Pure.idxArr und202 size2 rfl rfl (by first | assumption | omega | (simp; omega)) (by first | assumption | omega | (simp; omega))) ?_
        refine Ops.pure rfl (Pure.ldB 0 rfl cell2 rfl rfl) ?_
        refine Ops.pure rfl (Pure.build rfl (bld167_3 _ _ _ _ (by first | rfl | assumption) (by first | rfl | assumption))) ?_
        refine Ops.q rfl (QOp.call fn173 rfl (fun w hw => f_i_Panel_segment w a b v x y _ _ hs hV)) ?_
        refine Ops.pure rfl (Pure.idxArrN und195 size2 rfl rfl (by first | assumption | omega | (simp; omega))) ?_
        refine Ops.store (Stores.box 1 rfl rfl rfl size2 (allOne rfl) rfl rfl) ?_
        refine Ops.nil ?_
        refine Run.blk ?_
        refine Run.region ?_
        refine Ops.pure rfl (Pure.add rfl rfl (by omega) (by omega)) ?_
        refine Ops.pure rfl (Pure.move rfl) ?_
        refine Ops.nil ?_
        refine Run.asrt ?_
        first
          | exact ⟨1, ⟨by omega, by omega⟩, ⟨rfl, rfl, rfl, rfl, rfl, rfl, trivial⟩, Ext.right [_] _⟩
          | exact ⟨2, ⟨by omega, by omega⟩, ⟨rfl, rfl, rfl, rfl, rfl, rfl, trivial⟩, Ext.right [_] _⟩
          | exact ⟨3, ⟨by omega, by omega⟩, ⟨rfl, rfl, rfl, rfl, rfl, rfl, trivial⟩, Ext.right [_] _⟩
          | exact ⟨4, ⟨by omega, by omega⟩, ⟨rfl, rfl, rfl, rfl, rfl, rfl, trivial⟩, Ext.right [_] _⟩
      · skip
        have hV := around_VW (dx := 1) (dy := 1) hpt hne (by decide) (by decide)
        refine Run.region ?_
        refine Ops.pure rfl (Pure.move rfl) ?_
        refine Ops.pure rfl (Pure.idxVA (m := 2) und217 cell202 rfl rfl (by decide) (by decide) rfl) ?_
        refine Ops.go rfl (Loud.alloc zero202 rfl) ?_
        rintro _ _ ⟨b7, rfl, rfl⟩
        refine Ops.pure rfl (Pure.assign rfl) ?_
        refine Ops.store (Stores.box 0 rfl rfl rfl size202 (allOne rfl) rfl rfl) ?_
        refine Ops.nil ?_
        refine Run.region ?_
        refine Ops.pure rfl (Pure.move rfl) ?_
        refine Ops.pure rfl (Pure.ldBA 4 rfl cell35 rfl rfl rfl) ?_
        refine Ops.pure rfl (Pure.ldBA 3 rfl cell72 rfl rfl rfl) ?_
        refine Ops.pure rfl (Pure.idxArr und202 size2 rfl rfl (by first | assumption | omega | (simp; omega)) (by first | assumption | omega | (simp; omega))) ?_
        refine Ops.pure rfl (Pure.ldB 0 rfl cell2 rfl rfl) ?_
        refine Ops.pure rfl (Pure.idxArr und202 size2 rfl rfl (by first | assumption | omega | (simp; omega)) (by first | assumption | omega | (simp; omega))) ?_
        refine Ops.pure rfl (Pure.ldB 0 rfl cell2 rfl rfl) ?_
        refine Ops.pure rfl (Pure.build rfl (bld167_3 _ _ _ _ (by first | rfl | assumption) (by first | rfl | assumption))) ?_
        refine Ops.q rfl (QOp.call fn173 rfl (fun w hw => f_i_Panel_segment w a b v x y _ _ hs hV)) ?_
        refine Ops.pure rfl (Pure.idxArrN und195 size2 rfl rfl (by first | assumption | omega | (simp; omega))) ?_
        refine Ops.store (Stores.box 1 rfl rfl rfl size2 (allOne rfl) rfl rfl) ?_
        refine Ops.nil ?_
        refine Run.blk ?_
        refine Run.region ?_
        refine Ops.pure rfl (Pure.add rfl rfl (by omega) (by omega)) ?_
        refine Ops.pure rfl (Pure.move rfl) ?_
        refine Ops.nil ?_
        refine Run.asrt ?_
        first
          | exact ⟨1, ⟨by omega, by omega⟩, ⟨rfl, rfl, rfl, rfl, rfl, rfl, trivial⟩, Ext.right [_] _⟩
          | exact ⟨2, ⟨by omega, by omega⟩, ⟨rfl, rfl, rfl, rfl, rfl, rfl, trivial⟩, Ext.right [_] _⟩
          | exact ⟨3, ⟨by omega, by omega⟩, ⟨rfl, rfl, rfl, rfl, rfl, rfl, trivial⟩, Ext.right [_] _⟩
          | exact ⟨4, ⟨by omega, by omega⟩, ⟨rfl, rfl, rfl, rfl, rfl, rfl, trivial⟩, Ext.right [_] _⟩
    · skip
      replace c15 := dF c15
      refine Run.exit rfl ?_
      refine Run.seq ?_
      have e : k = 4 := by omega
      subst e
      refine Run.region ?_
      refine Ops.pure rfl (Pure.ldBA 0 rfl cell195 rfl rfl rfl) ?_
      refine Ops.store (Stores.box 1 rfl rfl rfl size195 (allOne rfl) rfl rfl) ?_
      refine Ops.nil ?_
      refine Run.retC 1 rfl rfl rfl cell195 rfl ?_
      rfl

set_option maxRecDepth 4000 in
/-- spec.l04Meet -/
theorem f_s_l04Meet (w : World) (p : Nat) (a : Int) (b : Int) (v : Value) (l : List Int) (vo : Value) (x : Int) (y : Int) (hp : Rd w (boxS p) 3 1 [.int .i64 a, .int .i64 b, v]) (hs : SizeOk a b) (hof : Rd w vo 1 (segN a b) (ints (ownL a b l))) (hpt : PtOk a b x y) (hne : ¬ Edge a b x y) : Ret Try.prog 194 [.pointer (some ⟨p, 0, none⟩), vo, .agg #[.int .i64 x, .int .i64 y]] w (fun u L => L = [.row 2 1 u 4 (ints (meL a b l x y))]) := by
  refine Ret.enter Try.func194 rfl Try.ntmps194 rfl ?_
  refine Run.seq ?_
  refine Run.region ?_
  refine Ops.go rfl (Loud.box rfl rfl) ?_
  rintro _ _ ⟨b5, rfl, rfl⟩
  refine Ops.pure rfl (Pure.assign rfl) ?_
  refine Ops.nil ?_
  refine Run.seq ?_
  refine Run.region ?_
  refine Ops.go rfl (Loud.lit sl32 rfl rfl rfl (by simp [Value.oneCell'])) ?_
  rintro v10 _ rfl
  refine Ops.pure rfl (Pure.assign rfl) ?_
  refine Ops.nil ?_
  refine Run.seq ?_
  refine Run.seq ?_
  refine Run.region ?_
  refine Ops.pure rfl (Pure.assign rfl) ?_
  refine Ops.nil ?_
  refine Run.block ?_
  refine Run.loop2 (X := Nat) (Y := Value) (fun k vr => [(0, .pointer (some ⟨p, 0, none⟩)), (1, vo), (5, .pointer (some ⟨b5, 0, none⟩)), (7, vr), (8, .int .i64 k)]) (fun k vr => [.row 2 1 vr k (ints ((meL a b l x y).take k)), .box b5 72 [.int .i64 x, .int .i64 y]]) (fun k vr => k ≤ 4) (fun k vr => 4 - k) 0 v10 ?_ ?_ ?_ ?_
  · exact Nat.zero_le _
  · exact ⟨rfl, rfl, rfl, rfl, rfl, trivial⟩
  · exact Ext.refl _
  · intro k vr hinv0
    refine Run.seq ?_
    refine Run.seq ?_
    refine Run.region ?_
    refine Ops.pure rfl (Pure.move rfl) ?_
    refine Ops.pure rfl (Pure.lss rfl rfl) ?_
    refine Ops.nil ?_
    refine Run.cond rfl (fun c12 => ?_) (fun c12 => ?_)
    · skip
      replace c12 := dT c12
      refine Run.skip ?_
      refine Run.seq ?_
      refine Run.block ?_
      refine Run.seq ?_
      obtain rfl | rfl | rfl | rfl : k = 0 ∨ k = 1 ∨ k = 2 ∨ k = 3 := by omega
      · skip
        have hV := around_VW (x := x) (y := y) (dx := -1) (dy := -1) hpt hne (by decide) (by decide)
        have hsb := sg_bd hV
        have hsl := segN_le hs
        have hol := length_ownL (l := l) hs
        have hsn : (sg b (x, y, -1, -1)).toNat < (ownL a b l).length := by omega
        refine Run.region ?_
        refine Ops.pure rfl (Pure.ldBA 1 rfl cell72 rfl rfl rfl) ?_
        refine Ops.pure rfl (Pure.move rfl) ?_
        refine Ops.pure rfl (Pure.remN (n := 2) rfl rfl (by omega)) ?_
        refine Ops.pure rfl (Pure.mul rfl rfl (by omega) (by omega)) ?_
        refine Ops.pure rfl (Pure.sub rfl rfl (by omega) (by omega)) ?_
        refine Ops.pure rfl (Pure.move rfl) ?_
        refine Ops.pure rfl (Pure.quoN (n := 2) rfl rfl (by omega) (by omega)) ?_
        refine Ops.pure rfl (Pure.mul rfl rfl (by omega) (by omega)) ?_
        refine Ops.pure rfl (Pure.sub rfl rfl (by omega) (by omega)) ?_
        refine Ops.pure rfl (Pure.build rfl (bld167_3 _ _ _ _ (by first | rfl | assumption) (by first | rfl | assumption))) ?_
        refine Ops.go rfl (Loud.alloc zero167 rfl) ?_
        rintro _ _ ⟨b9, rfl, rfl⟩
        refine Ops.store (Stores.box 0 rfl rfl rfl size167 (allOne rfl) rfl rfl) ?_
        refine Ops.nil ?_
        refine Run.ext_ (L' := [.box b9 167 [.int .i64 x, .int .i64 y, .int .i64 (-1), .int .i64 (-1)], .row 2 1 vr 0 (ints ((meL a b l x y).take 0)), .box b5 72 [.int .i64 x, .int .i64 y]]) (Ext.eq rfl) ?_
        refine Run.region ?_
        refine Ops.pure rfl (Pure.move rfl) ?_
        refine Ops.pure rfl (Pure.move rfl) ?_
        refine Ops.pure rfl (Pure.move rfl) ?_
        refine Ops.pure rfl (Pure.ldBA 0 rfl cell167 rfl rfl rfl) ?_
        refine Ops.q rfl (QOp.call fn212 rfl (fun w hw => f_s_l03Segment w p a b v x y _ _ (RdL.old hp w hw) hs hV)) ?_
        refine Ops.pure rfl (Pure.idx1 sl32 (RdL.old hof) rfl rfl (by first | assumption | omega | (simp; omega)) (by first | assumption | omega | (simp; omega))) ?_
        refine Ops.pure rfl (Pure.ld cell2 rfl (RdL.old hof) (by first | exact ints_get (by omega) | exact bools_get (by omega) | exact strs_get (by omega) | exact vals_get (by first | omega | (simp; omega)))) ?_
        refine Ops.go rfl (Loud.lit sl32 rfl rfl rfl (by simp [Value.oneCell'])) ?_
        rintro v32 _ rfl
        refine Ops.go rfl (Loud.append 2 rfl sl32 rfl rfl (RdL.own 0 rfl) (by simp [Value.oneCell']) (by omega) (by omega)) ?_
        rintro v33 _ rfl
        refine Ops.pure rfl (Pure.assign rfl) ?_
        refine Ops.nil ?_
        refine Run.blk ?_
        refine Run.region ?_
        refine Ops.pure rfl (Pure.move rfl) ?_
        refine Ops.pure rfl (Pure.add rfl rfl (by omega) (by omega)) ?_
        refine Ops.pure rfl (Pure.assign rfl) ?_
        refine Ops.nil ?_
        refine Run.asrt ?_
        first
          | exact ⟨1, v33, ⟨by omega, by omega⟩, ⟨rfl, rfl, rfl, rfl, rfl, trivial⟩, Ext.take 2 rfl (Ext.take 2 rfl (Ext.nil _))⟩
          | exact ⟨2, v33, ⟨by omega, by omega⟩, ⟨rfl, rfl, rfl, rfl, rfl, trivial⟩, Ext.take 2 rfl (Ext.take 2 rfl (Ext.nil _))⟩
          | exact ⟨3, v33, ⟨by omega, by omega⟩, ⟨rfl, rfl, rfl, rfl, rfl, trivial⟩, Ext.take 2 rfl (Ext.take 2 rfl (Ext.nil _))⟩
          | exact ⟨4, v33, ⟨by omega, by omega⟩, ⟨rfl, rfl, rfl, rfl, rfl, trivial⟩, Ext.take 2 rfl (Ext.take 2 rfl (Ext.nil _))⟩
      · skip
        have hV := around_VW (x := x) (y := y) (dx := 1) (dy := -1) hpt hne (by decide) (by decide)
        have hsb := sg_bd hV
        have hsl := segN_le hs
        have hol := length_ownL (l := l) hs
        have hsn : (sg b (x, y, 1, -1)).toNat < (ownL a b l).length := by omega
        refine Run.region ?_
        refine Ops.pure rfl (Pure.ldBA 1 rfl cell72 rfl rfl rfl) ?_
        refine Ops.pure rfl (Pure.move rfl) ?_
        refine Ops.pure rfl (Pure.remN (n := 2) rfl rfl (by omega)) ?_
        refine Ops.pure rfl (Pure.mul rfl rfl (by omega) (by omega)) ?_
        refine Ops.pure rfl (Pure.sub rfl rfl (by omega) (by omega)) ?_
        refine Ops.pure rfl (Pure.move rfl) ?_
        refine Ops.pure rfl (Pure.quoN (n := 2) rfl rfl (by omega) (by omega)) ?_
        refine Ops.pure rfl (Pure.mul rfl rfl (by omega) (by omega)) ?_
        refine Ops.pure rfl (Pure.sub rfl rfl (by omega) (by omega)) ?_
        refine Ops.pure rfl (Pure.build rfl (bld167_3 _ _ _ _ (by first | rfl | assumption) (by first | rfl | assumption))) ?_
        refine Ops.go rfl (Loud.alloc zero167 rfl) ?_
        rintro _ _ ⟨b9, rfl, rfl⟩
        refine Ops.store (Stores.box 0 rfl rfl rfl size167 (allOne rfl) rfl rfl) ?_
        refine Ops.nil ?_
        refine Run.ext_ (L' := [.box b9 167 [.int .i64 x, .int .i64 y, .int .i64 1, .int .i64 (-1)], .row 2 1 vr 1 (ints ((meL a b l x y).take 1)), .box b5 72 [.int .i64 x, .int .i64 y]]) (Ext.eq rfl) ?_
        refine Run.region ?_
        refine Ops.pure rfl (Pure.move rfl) ?_
        refine Ops.pure rfl (Pure.move rfl) ?_
        refine Ops.pure rfl (Pure.move rfl) ?_
        refine Ops.pure rfl (Pure.ldBA 0 rfl cell167 rfl rfl rfl) ?_
        refine Ops.q rfl (QOp.call fn212 rfl (fun w hw => f_s_l03Segment w p a b v x y _ _ (RdL.old hp w hw) hs hV)) ?_
        refine Ops.pure rfl (Pure.idx1 sl32 (RdL.old hof) rfl rfl (by first | assumption | omega | (simp; omega)) (by first | assumption | omega | (simp; omega))) ?_
        refine Ops.pure rfl (Pure.ld cell2 rfl (RdL.old hof) (by first | exact ints_get (by omega) | exact bools_get (by omega) | exact strs_get (by omega) | exact vals_get (by first | omega | (simp; omega)))) ?_
        refine Ops.go rfl (Loud.lit sl32 rfl rfl rfl (by simp [Value.oneCell'])) ?_
        rintro v32 _ rfl
        refine Ops.go rfl (Loud.append 2 rfl sl32 rfl rfl (RdL.own 0 rfl) (by simp [Value.oneCell']) (by omega) (by omega)) ?_
        rintro v33 _ rfl
        refine Ops.pure rfl (Pure.assign rfl) ?_
        refine Ops.nil ?_
        refine Run.blk ?_
        refine Run.region ?_
        refine Ops.pure rfl (Pure.move rfl) ?_
        refine Ops.pure rfl (Pure.add rfl rfl (by omega) (by omega)) ?_
        refine Ops.pure rfl (Pure.assign rfl) ?_
        refine Ops.nil ?_
        refine Run.asrt ?_
        first
          | exact ⟨1, v33, ⟨by omega, by omega⟩, ⟨rfl, rfl, rfl, rfl, rfl, trivial⟩, Ext.take 2 rfl (Ext.take 2 rfl (Ext.nil _))⟩
          | exact ⟨2, v33, ⟨by omega, by omega⟩, ⟨rfl, rfl, rfl, rfl, rfl, trivial⟩, Ext.take 2 rfl (Ext.take 2 rfl (Ext.nil _))⟩
          | exact ⟨3, v33, ⟨by omega, by omega⟩, ⟨rfl, rfl, rfl, rfl, rfl, trivial⟩, Ext.take 2 rfl (Ext.take 2 rfl (Ext.nil _))⟩
          | exact ⟨4, v33, ⟨by omega, by omega⟩, ⟨rfl, rfl, rfl, rfl, rfl, trivial⟩, Ext.take 2 rfl (Ext.take 2 rfl (Ext.nil _))⟩
      · skip
        have hV := around_VW (x := x) (y := y) (dx := -1) (dy := 1) hpt hne (by decide) (by decide)
        have hsb := sg_bd hV
        have hsl := segN_le hs
        have hol := length_ownL (l := l) hs
        have hsn : (sg b (x, y, -1, 1)).toNat < (ownL a b l).length := by omega
        refine Run.region ?_
        refine Ops.pure rfl (Pure.ldBA 1 rfl cell72 rfl rfl rfl) ?_
        refine Ops.pure rfl (Pure.move rfl) ?_
        refine Ops.pure rfl (Pure.remN (n := 2) rfl rfl (by omega)) ?_
        refine Ops.pure rfl (Pure.mul rfl rfl (by omega) (by omega)) ?_
        refine Ops.pure rfl (Pure.sub rfl rfl (by omega) (by omega)) ?_
        refine Ops.pure rfl (Pure.move rfl) ?_
        refine Ops.pure rfl (Pure.quoN (n := 2) rfl rfl (by omega) (by omega)) ?_
        refine Ops.pure rfl (Pure.mul rfl rfl (by omega) (by omega)) ?_
        refine Ops.pure rfl (Pure.sub rfl rfl (by omega) (by omega)) ?_
        refine Ops.pure rfl (Pure.build rfl (bld167_3 _ _ _ _ (by first | rfl | assumption) (by first | rfl | assumption))) ?_
        refine Ops.go rfl (Loud.alloc zero167 rfl) ?_
        rintro _ _ ⟨b9, rfl, rfl⟩
        refine Ops.store (Stores.box 0 rfl rfl rfl size167 (allOne rfl) rfl rfl) ?_
        refine Ops.nil ?_
        refine Run.ext_ (L' := [.box b9 167 [.int .i64 x, .int .i64 y, .int .i64 (-1), .int .i64 1], .row 2 1 vr 2 (ints ((meL a b l x y).take 2)), .box b5 72 [.int .i64 x, .int .i64 y]]) (Ext.eq rfl) ?_
        refine Run.region ?_
        refine Ops.pure rfl (Pure.move rfl) ?_
        refine Ops.pure rfl (Pure.move rfl) ?_
        refine Ops.pure rfl (Pure.move rfl) ?_
        refine Ops.pure rfl (Pure.ldBA 0 rfl cell167 rfl rfl rfl) ?_
        refine Ops.q rfl (QOp.call fn212 rfl (fun w hw => f_s_l03Segment w p a b v x y _ _ (RdL.old hp w hw) hs hV)) ?_
        refine Ops.pure rfl (Pure.idx1 sl32 (RdL.old hof) rfl rfl (by first | assumption | omega | (simp; omega)) (by first | assumption | omega | (simp; omega))) ?_
        refine Ops.pure rfl (Pure.ld cell2 rfl (RdL.old hof) (by first | exact ints_get (by omega) | exact bools_get (by omega) | exact strs_get (by omega) | exact vals_get (by first | omega | (simp; omega)))) ?_
        refine Ops.go rfl (Loud.lit sl32 rfl rfl rfl (by simp [Value.oneCell'])) ?_
        rintro v32 _ rfl
        refine Ops.go rfl (Loud.append 2 rfl sl32 rfl rfl (RdL.own 0 rfl) (by simp [Value.oneCell']) (by omega) (by omega)) ?_
        rintro v33 _ rfl
        refine Ops.pure rfl (Pure.assign rfl) ?_
        refine Ops.nil ?_
        refine Run.blk ?_
        refine Run.region ?_
        refine Ops.pure rfl (Pure.move rfl) ?_
        refine Ops.pure rfl (Pure.add rfl rfl (by omega) (by omega)) ?_
        refine Ops.pure rfl (Pure.assign rfl) ?_
        refine Ops.nil ?_
        refine Run.asrt ?_
        first
          | exact ⟨1, v33, ⟨by omega, by omega⟩, ⟨rfl, rfl, rfl, rfl, rfl, trivial⟩, Ext.take 2 rfl (Ext.take 2 rfl (Ext.nil _))⟩
          | exact ⟨2, v33, ⟨by omega, by omega⟩, ⟨rfl, rfl, rfl, rfl, rfl, trivial⟩, Ext.take 2 rfl (Ext.take 2 rfl (Ext.nil _))⟩
          | exact ⟨3, v33, ⟨by omega, by omega⟩, ⟨rfl, rfl, rfl, rfl, rfl, trivial⟩, Ext.take 2 rfl (Ext.take 2 rfl (Ext.nil _))⟩
          | exact ⟨4, v33, ⟨by omega, by omega⟩, ⟨rfl, rfl, rfl, rfl, rfl, trivial⟩, Ext.take 2 rfl (Ext.take 2 rfl (Ext.nil _))⟩
      · skip
        have hV := around_VW (x := x) (y := y) (dx := 1) (dy := 1) hpt hne (by decide) (by decide)
        have hsb := sg_bd hV
        have hsl := segN_le hs
        have hol := length_ownL (l := l) hs
        have hsn : (sg b (x, y, 1, 1)).toNat < (ownL a b l).length := by omega
        refine Run.region ?_
        refine Ops.pure rfl (Pure.ldBA 1 rfl cell72 rfl rfl rfl) ?_
        refine Ops.pure rfl (Pure.move rfl) ?_
        refine Ops.pure rfl (Pure.remN (n := 2) rfl rfl (by omega)) ?_
        refine Ops.pure rfl (Pure.mul rfl rfl (by omega) (by omega)) ?_
        refine Ops.pure rfl (Pure.sub rfl rfl (by omega) (by omega)) ?_
        refine Ops.pure rfl (Pure.move rfl) ?_
        refine Ops.pure rfl (Pure.quoN (n := 2) rfl rfl (by omega) (by omega)) ?_
        refine Ops.pure rfl (Pure.mul rfl rfl (by omega) (by omega)) ?_
        refine Ops.pure rfl (Pure.sub rfl rfl (by omega) (by omega)) ?_
        refine Ops.pure rfl (Pure.build rfl (bld167_3 _ _ _ _ (by first | rfl | assumption) (by first | rfl | assumption))) ?_
        refine Ops.go rfl (Loud.alloc zero167 rfl) ?_
        rintro _ _ ⟨b9, rfl, rfl⟩
        refine Ops.store (Stores.box 0 rfl rfl rfl size167 (allOne rfl) rfl rfl) ?_
        refine Ops.nil ?_
        refine Run.ext_ (L' := [.box b9 167 [.int .i64 x, .int .i64 y, .int .i64 1, .int .i64 1], .row 2 1 vr 3 (ints ((meL a b l x y).take 3)), .box b5 72 [.int .i64 x, .int .i64 y]]) (Ext.eq rfl) ?_
        refine Run.region ?_
        refine Ops.pure rfl (Pure.move rfl) ?_
        refine Ops.pure rfl (Pure.move rfl) ?_
        refine Ops.pure rfl (Pure.move rfl) ?_
        refine Ops.pure rfl (Pure.ldBA 0 rfl cell167 rfl rfl rfl) ?_
        refine Ops.q rfl (QOp.call fn212 rfl (fun w hw => f_s_l03Segment w p a b v x y _ _ (RdL.old hp w hw) hs hV)) ?_
        refine Ops.pure rfl (Pure.idx1 sl32 (RdL.old hof) rfl rfl (by first | assumption | omega | (simp; omega)) (by first | assumption | omega | (simp; omega))) ?_
        refine Ops.pure rfl (Pure.ld cell2 rfl (RdL.old hof) (by first | exact ints_get (by omega) | exact bools_get (by omega) | exact strs_get (by omega) | exact vals_get (by first | omega | (simp; omega)))) ?_
        refine Ops.go rfl (Loud.lit sl32 rfl rfl rfl (by simp [Value.oneCell'])) ?_
        rintro v32 _ rfl
        refine Ops.go rfl (Loud.append 2 rfl sl32 rfl rfl (RdL.own 0 rfl) (by simp [Value.oneCell']) (by omega) (by omega)) ?_
        rintro v33 _ rfl
        refine Ops.pure rfl (Pure.assign rfl) ?_
        refine Ops.nil ?_
        refine Run.blk ?_
        refine Run.region ?_
        refine Ops.pure rfl (Pure.move rfl) ?_
        refine Ops.pure rfl (Pure.add rfl rfl (by omega) (by omega)) ?_
        refine Ops.pure rfl (Pure.assign rfl) ?_
        refine Ops.nil ?_
        refine Run.asrt ?_
        first
          | exact ⟨1, v33, ⟨by omega, by omega⟩, ⟨rfl, rfl, rfl, rfl, rfl, trivial⟩, Ext.take 2 rfl (Ext.take 2 rfl (Ext.nil _))⟩
          | exact ⟨2, v33, ⟨by omega, by omega⟩, ⟨rfl, rfl, rfl, rfl, rfl, trivial⟩, Ext.take 2 rfl (Ext.take 2 rfl (Ext.nil _))⟩
          | exact ⟨3, v33, ⟨by omega, by omega⟩, ⟨rfl, rfl, rfl, rfl, rfl, trivial⟩, Ext.take 2 rfl (Ext.take 2 rfl (Ext.nil _))⟩
          | exact ⟨4, v33, ⟨by omega, by omega⟩, ⟨rfl, rfl, rfl, rfl, rfl, trivial⟩, Ext.take 2 rfl (Ext.take 2 rfl (Ext.nil _))⟩
    · skip
      replace c12 := dF c12
      refine Run.exit rfl ?_
      refine Run.seq ?_
      have e : k = 4 := by omega
      subst e
      refine Run.region ?_
      refine Ops.pure rfl (Pure.move rfl) ?_
      refine Ops.pure rfl (Pure.assign rfl) ?_
      refine Ops.nil ?_
      refine Run.ext_ (Ext.take 0 rfl (Ext.nil _)) ?_
      refine Run.ret1 rfl rfl ?_
      rfl

set_option maxRecDepth 4000 in
set_option maxHeartbeats 1000000 in
/-- (impl.Panel).meeting -/
theorem f_i_Panel_meeting (w : World) (a : Int) (b : Int) (v : Value) (l : List Int) (vu : Value) (cs : List Int) (hv : Rd w v 1 l.length (ints l)) (hk : okP a b l = true) (hu : Rd w vu 1 cs.length (ints cs)) (hul : cs.length ≤ 1000) : Ret Try.prog 133 [.agg #[.int .i64 a, .int .i64 b, v], vu] w (fun u L => L = [.row 2 1 u (msL a b l cs (inn a b)).length (ints (msL a b l cs (inn a b)))]) := by
  have hs := okP_size hk
  have hib := (inn_eq hs).2.1
  refine Ret.enter Try.func133 rfl Try.ntmps133 rfl ?_
  refine Run.seq ?_
  refine Run.region ?_
  refine Ops.go rfl (Loud.box rfl rfl) ?_
  rintro _ _ ⟨b2, rfl, rfl⟩
  refine Ops.pure rfl (Pure.assign rfl) ?_
  refine Ops.nil ?_
  refine Run.seq ?_
  refine Run.region ?_
  refine Ops.go rfl (Loud.lit sl32 rfl rfl rfl (by simp [Value.oneCell'])) ?_
  rintro v16 _ rfl
  refine Ops.pure rfl (Pure.assign rfl) ?_
  refine Ops.nil ?_
  refine Run.seq ?_
  refine Run.region ?_
  refine Ops.pure rfl (Pure.ldBA 1 rfl cell35 rfl rfl rfl) ?_
  refine Ops.go rfl (Loud.callR fn97 rfl (fun w hw => f_i_Panel_trace w a b v l (RdL.old hv w hw) hk)) ?_
  rintro v19 _ ⟨L19, hQ19, rfl⟩
  obtain ⟨x19, y19, us19, hus19, rfl, rfl⟩ := hQ19
  refine Ops.pure rfl (Pure.move rfl) ?_
  refine Ops.pure rfl (Pure.extract rfl rfl) ?_
  refine Ops.pure rfl (Pure.extract rfl rfl) ?_
  refine Ops.pure rfl (Pure.assign rfl) ?_
  refine Ops.pure rfl (Pure.assign rfl) ?_
  refine Ops.nil ?_
  refine Run.seq ?_
  refine Run.seq ?_
  refine Run.ext_ (L' := [.row 2 1 y19 (segN a b) (ints (ownL a b l)), .row 2 1 v16 0 [], .box b2 35 [.int .i64 a, .int .i64 b, v]]) (Ext.take 0 rfl (Ext.right _ _)) ?_
  refine Run.region ?_
  refine Ops.pure rfl (Pure.ldBA 2 rfl cell35 rfl rfl rfl) ?_
  refine Ops.go rfl (Loud.callR fn192 rfl (fun w hw => f_i_Panel_points w a b v l hs)) ?_
  rintro v23 _ ⟨L23, hQ23, rfl⟩
  subst hQ23
  refine Ops.pure rfl (Pure.len sl134 (RdL.own 0 rfl) rfl) ?_
  refine Ops.pure rfl (Pure.move rfl) ?_
  refine Ops.nil ?_
  refine Run.block ?_
  refine Run.loop2 (X := Nat) (Y := Value) (fun k vo => [(1, vu), (2, .pointer (some ⟨b2, 0, none⟩)), (5, vo), (7, y19), (23, v23), (24, .int .i64 ((inn a b : Nat) : Int)), (25, .int .i64 k)]) (fun k vo => [.row 2 1 vo (msL a b l cs k).length (ints (msL a b l cs k)), .row 72 2 v23 (inn a b) (pnts (pnL a (inn a b))), .row 2 1 y19 (segN a b) (ints (ownL a b l)), .box b2 35 [.int .i64 a, .int .i64 b, v]]) (fun k vo => k ≤ inn a b) (fun k vo => inn a b - k) 0 v16 ?_ ?_ ?_ ?_
  · exact Nat.zero_le _
  · exact ⟨rfl, rfl, rfl, rfl, rfl, rfl, rfl, trivial⟩
  · exact Ext.take 2 rfl (Ext.refl _)
  · intro k vo hinv0
    have hml := length_msL a b l cs k
    have hpl := length_pnL a (inn a b)
    refine Run.seq ?_
    refine Run.region ?_
    refine Ops.pure rfl (Pure.lss rfl rfl) ?_
    refine Ops.nil ?_
    refine Run.seq ?_
    refine Run.cond rfl (fun c26 => ?_) (fun c26 => ?_)
    · skip
      replace c26 := dT c26
      refine Run.skip ?_
      refine Run.seq ?_
      refine Run.block ?_
      refine Run.seq ?_
      refine Run.region ?_
      refine Ops.pure rfl (Pure.move rfl) ?_
      refine Ops.pure rfl (Pure.idxN sl134 (RdL.own 1 rfl) rfl rfl (by first | assumption | omega | (simp; omega))) ?_
      refine Ops.pure rfl (Pure.ldA cell72 rfl (RdL.own 1 rfl) (seg_get encQ_len (by omega) (0, 0)) rfl (by decide)) ?_
      refine Ops.go rfl (Loud.alloc zero72 rfl) ?_
      rintro _ _ ⟨b9, rfl, rfl⟩
      refine Ops.pure rfl (Pure.assign rfl) ?_
      refine Ops.store (Stores.box 0 rfl rfl rfl size72 (allOne rfl) rfl rfl) ?_
      refine Ops.nil ?_
      refine Run.seq ?_
      have hki : k < inn a b := by omega
      rw [pnL_get hki]
      obtain ⟨hpt, hne, -⟩ := pt_spec (k := (k : Int)) hs (by omega) (by omega)
      refine Run.region ?_
      refine Ops.go rfl (Loud.makeMap (.int .i64)) ?_
      rintro v30 _ ⟨b30, rfl, rfl⟩
      refine Ops.pure rfl (Pure.assign rfl) ?_
      refine Ops.nil ?_
      refine Run.seq ?_
      refine Run.seq ?_
      refine Run.region ?_
      refine Ops.pure rfl (Pure.ldBA 5 rfl cell35 rfl rfl rfl) ?_
      refine Ops.pure rfl (Pure.ldBA 1 rfl cell72 rfl rfl rfl) ?_
      refine Ops.q rfl (QOp.call fn193 rfl (fun w hw => f_i_Panel_around w a b v (ptX a k) (ptY a k) hs hpt hne)) ?_
      refine Ops.pure rfl (Pure.move rfl) ?_
      refine Ops.nil ?_
      refine Run.block ?_
      refine Run.loop (X := Nat) (fun j => [(1, vu), (2, .pointer (some ⟨b2, 0, none⟩)), (5, vo), (7, y19), (23, v23), (24, .int .i64 ((inn a b : Nat) : Int)), (25, .int .i64 k), (8, .int .i64 k), (10, .map (some b30)), (33, .agg (ints (arL b (ptX a k) (ptY a k))).toArray), (34, .int .i64 j)]) (fun j => [.mp b30 (.int .i64) ((keyTo (meI a b l (ptX a k) (ptY a k)) j).map (Value.int .i64)), .row 2 1 vo (msL a b l cs k).length (ints (msL a b l cs k)), .row 72 2 v23 (inn a b) (pnts (pnL a (inn a b))), .row 2 1 y19 (segN a b) (ints (ownL a b l)), .box b2 35 [.int .i64 a, .int .i64 b, v]]) (fun j => j ≤ 4) (fun j => 4 - j) 0 ?_ ?_ ?_ ?_
      · exact Nat.zero_le _
      · exact ⟨rfl, rfl, rfl, rfl, rfl, rfl, rfl, rfl, rfl, rfl, rfl, trivial⟩
      · exact Ext.take 0 rfl (Ext.right [_] _)
      · intro j hinv1
        refine Run.seq ?_
        refine Run.region ?_
        refine Ops.pure rfl (Pure.lss rfl rfl) ?_
        refine Ops.nil ?_
        refine Run.seq ?_
        refine Run.cond rfl (fun c35 => ?_) (fun c35 => ?_)
        · skip
          replace c35 := dT c35
          refine Run.skip ?_
          refine Run.seq ?_
          refine Run.block ?_
          refine Run.seq ?_
          obtain rfl | rfl | rfl | rfl : j = 0 ∨ j = 1 ∨ j = 2 ∨ j = 3 := by omega
          · skip
            have hV := around_VW (x := (ptX a k)) (y := (ptY a k)) (dx := -1) (dy := -1) hpt hne (by decide) (by decide)
            have hsb := sg_bd hV
            have hsl := segN_le hs
            have hol := length_ownL (l := l) hs
            have hsn : (sg b ((ptX a k), (ptY a k), -1, -1)).toNat < (ownL a b l).length := by omega
            refine Run.region ?_
            refine Ops.pure rfl (Pure.idxV und195 cell2 rfl rfl (by decide) (by decide) rfl) ?_
            refine Ops.pure rfl (Pure.assign rfl) ?_
            refine Ops.nil ?_
            refine Run.region ?_
            refine Ops.pure rfl (Pure.move rfl) ?_
            refine Ops.pure rfl (Pure.move rfl) ?_
            refine Ops.pure rfl (Pure.move rfl) ?_
            refine Ops.pure rfl (Pure.idx1 sl32 (RdL.own 3 rfl) rfl rfl (by first | assumption | omega | (simp; omega)) (by first | assumption | omega | (simp; omega))) ?_
            refine Ops.pure rfl (Pure.ld cell2 rfl (RdL.own 3 rfl) (by first | exact ints_get (by omega) | exact bools_get (by omega) | exact strs_get (by omega) | exact vals_get (by first | omega | (simp; omega)))) ?_
            refine Ops.store (Stores.mapU (enc := Value.int .i64) 0 Try.underlying194 und2 (fun _ => rfl) (fun a c h => by injection h) rfl rfl rfl rfl) ?_
            refine Ops.nil ?_
            refine Run.blk ?_
            refine Run.region ?_
            refine Ops.pure rfl (Pure.add rfl rfl (by omega) (by omega)) ?_
            refine Ops.pure rfl (Pure.move rfl) ?_
            refine Ops.nil ?_
            refine Run.asrt ?_
            first
              | exact ⟨1, ⟨by omega, by omega⟩, ⟨rfl, rfl, rfl, rfl, rfl, rfl, rfl, rfl, rfl, rfl, rfl, trivial⟩, Ext.refl _⟩
              | exact ⟨2, ⟨by omega, by omega⟩, ⟨rfl, rfl, rfl, rfl, rfl, rfl, rfl, rfl, rfl, rfl, rfl, trivial⟩, Ext.refl _⟩
              | exact ⟨3, ⟨by omega, by omega⟩, ⟨rfl, rfl, rfl, rfl, rfl, rfl, rfl, rfl, rfl, rfl, rfl, trivial⟩, Ext.refl _⟩
              | exact ⟨4, ⟨by omega, by omega⟩, ⟨rfl, rfl, rfl, rfl, rfl, rfl, rfl, rfl, rfl, rfl, rfl, trivial⟩, Ext.refl _⟩
          · skip
            have hV := around_VW (x := (ptX a k)) (y := (ptY a k)) (dx := -1) (dy := 1) hpt hne (by decide) (by decide)
            have hsb := sg_bd hV
            have hsl := segN_le hs
            have hol := length_ownL (l := l) hs
            have hsn : (sg b ((ptX a k), (ptY a k), -1, 1)).toNat < (ownL a b l).length := by omega
            refine Run.region ?_
            refine Ops.pure rfl (Pure.idxV und195 cell2 rfl rfl (by decide) (by decide) rfl) ?_
            refine Ops.pure rfl (Pure.assign rfl) ?_
            refine Ops.nil ?_
            refine Run.region ?_
            refine Ops.pure rfl (Pure.move rfl) ?_
            refine Ops.pure rfl (Pure.move rfl) ?_
            refine Ops.pure rfl (Pure.move rfl) ?_
            refine Ops.pure rfl (Pure.idx1 sl32 (RdL.own 3 rfl) rfl rfl (by first | assumption | omega | (simp; omega)) (by first | assumption | omega | (simp; omega))) ?_
            refine Ops.pure rfl (Pure.ld cell2 rfl (RdL.own 3 rfl) (by first | exact ints_get (by omega) | exact bools_get (by omega) | exact strs_get (by omega) | exact vals_get (by first | omega | (simp; omega)))) ?_
            refine Ops.store (Stores.mapU (enc := Value.int .i64) 0 Try.underlying194 und2 (fun _ => rfl) (fun a c h => by injection h) rfl rfl rfl rfl) ?_
            refine Ops.nil ?_
            refine Run.blk ?_
            refine Run.region ?_
            refine Ops.pure rfl (Pure.add rfl rfl (by omega) (by omega)) ?_
            refine Ops.pure rfl (Pure.move rfl) ?_
            refine Ops.nil ?_
            refine Run.asrt ?_
            first
              | exact ⟨1, ⟨by omega, by omega⟩, ⟨rfl, rfl, rfl, rfl, rfl, rfl, rfl, rfl, rfl, rfl, rfl, trivial⟩, Ext.refl _⟩
              | exact ⟨2, ⟨by omega, by omega⟩, ⟨rfl, rfl, rfl, rfl, rfl, rfl, rfl, rfl, rfl, rfl, rfl, trivial⟩, Ext.refl _⟩
              | exact ⟨3, ⟨by omega, by omega⟩, ⟨rfl, rfl, rfl, rfl, rfl, rfl, rfl, rfl, rfl, rfl, rfl, trivial⟩, Ext.refl _⟩
              | exact ⟨4, ⟨by omega, by omega⟩, ⟨rfl, rfl, rfl, rfl, rfl, rfl, rfl, rfl, rfl, rfl, rfl, trivial⟩, Ext.refl _⟩
          · skip
            have hV := around_VW (x := (ptX a k)) (y := (ptY a k)) (dx := 1) (dy := -1) hpt hne (by decide) (by decide)
            have hsb := sg_bd hV
            have hsl := segN_le hs
            have hol := length_ownL (l := l) hs
            have hsn : (sg b ((ptX a k), (ptY a k), 1, -1)).toNat < (ownL a b l).length := by omega
            refine Run.region ?_
            refine Ops.pure rfl (Pure.idxV und195 cell2 rfl rfl (by decide) (by decide) rfl) ?_
            refine Ops.pure rfl (Pure.assign rfl) ?_
            refine Ops.nil ?_
            refine Run.region ?_
            refine Ops.pure rfl (Pure.move rfl) ?_
            refine Ops.pure rfl (Pure.move rfl) ?_
            refine Ops.pure rfl (Pure.move rfl) ?_
            refine Ops.pure rfl (Pure.idx1 sl32 (RdL.own 3 rfl) rfl rfl (by first | assumption | omega | (simp; omega)) (by first | assumption | omega | (simp; omega))) ?_
            refine Ops.pure rfl (Pure.ld cell2 rfl (RdL.own 3 rfl) (by first | exact ints_get (by omega) | exact bools_get (by omega) | exact strs_get (by omega) | exact vals_get (by first | omega | (simp; omega)))) ?_
            refine Ops.store (Stores.mapU (enc := Value.int .i64) 0 Try.underlying194 und2 (fun _ => rfl) (fun a c h => by injection h) rfl rfl rfl rfl) ?_
            refine Ops.nil ?_
            refine Run.blk ?_
            refine Run.region ?_
            refine Ops.pure rfl (Pure.add rfl rfl (by omega) (by omega)) ?_
            refine Ops.pure rfl (Pure.move rfl) ?_
            refine Ops.nil ?_
            refine Run.asrt ?_
            first
              | exact ⟨1, ⟨by omega, by omega⟩, ⟨rfl, rfl, rfl, rfl, rfl, rfl, rfl, rfl, rfl, rfl, rfl, trivial⟩, Ext.refl _⟩
              | exact ⟨2, ⟨by omega, by omega⟩, ⟨rfl, rfl, rfl, rfl, rfl, rfl, rfl, rfl, rfl, rfl, rfl, trivial⟩, Ext.refl _⟩
              | exact ⟨3, ⟨by omega, by omega⟩, ⟨rfl, rfl, rfl, rfl, rfl, rfl, rfl, rfl, rfl, rfl, rfl, trivial⟩, Ext.refl _⟩
              | exact ⟨4, ⟨by omega, by omega⟩, ⟨rfl, rfl, rfl, rfl, rfl, rfl, rfl, rfl, rfl, rfl, rfl, trivial⟩, Ext.refl _⟩
          · skip
            have hV := around_VW (x := (ptX a k)) (y := (ptY a k)) (dx := 1) (dy := 1) hpt hne (by decide) (by decide)
            have hsb := sg_bd hV
            have hsl := segN_le hs
            have hol := length_ownL (l := l) hs
            have hsn : (sg b ((ptX a k), (ptY a k), 1, 1)).toNat < (ownL a b l).length := by omega
            refine Run.region ?_
            refine Ops.pure rfl (Pure.idxV und195 cell2 rfl rfl (by decide) (by decide) rfl) ?_
            refine Ops.pure rfl (Pure.assign rfl) ?_
            refine Ops.nil ?_
            refine Run.region ?_
            refine Ops.pure rfl (Pure.move rfl) ?_
            refine Ops.pure rfl (Pure.move rfl) ?_
            refine Ops.pure rfl (Pure.move rfl) ?_
            refine Ops.pure rfl (Pure.idx1 sl32 (RdL.own 3 rfl) rfl rfl (by first | assumption | omega | (simp; omega)) (by first | assumption | omega | (simp; omega))) ?_
            refine Ops.pure rfl (Pure.ld cell2 rfl (RdL.own 3 rfl) (by first | exact ints_get (by omega) | exact bools_get (by omega) | exact strs_get (by omega) | exact vals_get (by first | omega | (simp; omega)))) ?_
            refine Ops.store (Stores.mapU (enc := Value.int .i64) 0 Try.underlying194 und2 (fun _ => rfl) (fun a c h => by injection h) rfl rfl rfl rfl) ?_
            refine Ops.nil ?_
            refine Run.blk ?_
            refine Run.region ?_
            refine Ops.pure rfl (Pure.add rfl rfl (by omega) (by omega)) ?_
            refine Ops.pure rfl (Pure.move rfl) ?_
            refine Ops.nil ?_
            refine Run.asrt ?_
            first
              | exact ⟨1, ⟨by omega, by omega⟩, ⟨rfl, rfl, rfl, rfl, rfl, rfl, rfl, rfl, rfl, rfl, rfl, trivial⟩, Ext.refl _⟩
              | exact ⟨2, ⟨by omega, by omega⟩, ⟨rfl, rfl, rfl, rfl, rfl, rfl, rfl, rfl, rfl, rfl, rfl, trivial⟩, Ext.refl _⟩
              | exact ⟨3, ⟨by omega, by omega⟩, ⟨rfl, rfl, rfl, rfl, rfl, rfl, rfl, rfl, rfl, rfl, rfl, trivial⟩, Ext.refl _⟩
              | exact ⟨4, ⟨by omega, by omega⟩, ⟨rfl, rfl, rfl, rfl, rfl, rfl, rfl, rfl, rfl, rfl, rfl, trivial⟩, Ext.refl _⟩
        · skip
          replace c35 := dF c35
          refine Run.exit rfl ?_
          refine Run.seq ?_
          have e : j = 4 := by omega
          subst e
          refine Run.region ?_
          refine Ops.pure rfl (Pure.assign rfl) ?_
          refine Ops.nil ?_
          refine Run.seq ?_
          refine Run.seq ?_
          refine Run.region ?_
          refine Ops.pure rfl (Pure.move rfl) ?_
          refine Ops.pure rfl (Pure.len sl32 (RdL.old hu) rfl) ?_
          refine Ops.pure rfl (Pure.move rfl) ?_
          refine Ops.nil ?_
          refine Run.block ?_
          refine Run.loop (X := Nat) (fun j => [(1, vu), (2, .pointer (some ⟨b2, 0, none⟩)), (5, vo), (7, y19), (23, v23), (24, .int .i64 ((inn a b : Nat) : Int)), (25, .int .i64 k), (8, .int .i64 k), (10, .map (some b30)), (13, .bool (allT cs (keyTo (meI a b l (ptX a k) (ptY a k)) 4) j)), (43, vu), (44, .int .i64 cs.length), (45, .int .i64 j)]) (fun j => [.mp b30 (.int .i64) ((keyTo (meI a b l (ptX a k) (ptY a k)) 4).map (Value.int .i64)), .row 2 1 vo (msL a b l cs k).length (ints (msL a b l cs k)), .row 72 2 v23 (inn a b) (pnts (pnL a (inn a b))), .row 2 1 y19 (segN a b) (ints (ownL a b l)), .box b2 35 [.int .i64 a, .int .i64 b, v]]) (fun j => j ≤ cs.length) (fun j => cs.length - j) 0 ?_ ?_ ?_ ?_
          · exact Nat.zero_le _
          · exact ⟨rfl, rfl, rfl, rfl, rfl, rfl, rfl, rfl, rfl, rfl, rfl, rfl, rfl, trivial⟩
          · exact Ext.refl _
          · intro j hinv2
            refine Run.seq ?_
            refine Run.region ?_
            refine Ops.pure rfl (Pure.lss rfl rfl) ?_
            refine Ops.nil ?_
            refine Run.seq ?_
            refine Run.cond rfl (fun c46 => ?_) (fun c46 => ?_)
            · skip
              replace c46 := dT c46
              refine Run.skip ?_
              refine Run.seq ?_
              refine Run.block ?_
              refine Run.seq ?_
              refine Run.region ?_
              refine Ops.pure rfl (Pure.idx1N sl32 (RdL.old hu) rfl rfl (by first | assumption | omega | (simp; omega))) ?_
              refine Ops.pure rfl (Pure.ld cell2 rfl (RdL.old hu) (by first | exact ints_get (by omega) | exact bools_get (by omega) | exact strs_get (by omega) | exact vals_get (by first | omega | (simp; omega)))) ?_
              refine Ops.pure rfl (Pure.assign rfl) ?_
              refine Ops.nil ?_
              refine Run.region ?_
              refine Ops.pure rfl (Pure.move rfl) ?_
              refine Ops.pure rfl (Pure.move rfl) ?_
              refine Ops.guard rfl rfl rfl rfl (fun c50 => ?_) (fun c50 => ?_)
              · skip
                have c50' := c50
                refine Ops.pure rfl (Pure.move rfl) ?_
                refine Ops.guardY rfl rfl rfl c50 ?_
                refine Ops.pure rfl (Pure.move rfl) ?_
                first
                  | (refine Ops.guardY rfl rfl rfl c50 ?_
                     refine Ops.pure rfl (Pure.mapL (enc := Value.int .i64) 0 Try.underlying194 und2 (fun _ => rfl) (fun a c h => by injection h) rfl rfl rfl (by kernel_rfl)) ?_)
                  | refine Ops.guardN rfl rfl rfl rfl (by rw [c50]; decide) ?_
                refine Ops.pure rfl (Pure.pickT rfl c50 rfl) ?_
                refine Ops.pure rfl (Pure.assign rfl) ?_
                refine Ops.nil ?_
                refine Run.blk ?_
                refine Run.region ?_
                refine Ops.pure rfl (Pure.add rfl rfl (by omega) (by omega)) ?_
                refine Ops.pure rfl (Pure.move rfl) ?_
                refine Ops.nil ?_
                refine Run.asrt ?_
                exact ⟨j + 1, ⟨by omega, by omega⟩, ⟨rfl, rfl, rfl, rfl, rfl, rfl, rfl, rfl, rfl, congrArg (fun x => some (Value.bool x)) (by rw [allT_succ (by omega)]; simp_all), rfl, rfl, rfl, trivial⟩, Ext.refl _⟩
              · skip
                replace c50 := Bool.eq_false_of_ne c50
                have c50' := c50
                refine Ops.guardN rfl rfl rfl rfl (by rw [c50]; decide) ?_
                first
                  | (refine Ops.guardY rfl rfl rfl c50 ?_
                     refine Ops.pure rfl (Pure.mapL (enc := Value.int .i64) 0 Try.underlying194 und2 (fun _ => rfl) (fun a c h => by injection h) rfl rfl rfl (by kernel_rfl)) ?_)
                  | refine Ops.guardN rfl rfl rfl rfl (by rw [c50]; decide) ?_
                refine Ops.pure rfl (Pure.pickF rfl c50 rfl) ?_
                refine Ops.pure rfl (Pure.assign rfl) ?_
                refine Ops.nil ?_
                refine Run.blk ?_
                refine Run.region ?_
                refine Ops.pure rfl (Pure.add rfl rfl (by omega) (by omega)) ?_
                refine Ops.pure rfl (Pure.move rfl) ?_
                refine Ops.nil ?_
                refine Run.asrt ?_
                exact ⟨j + 1, ⟨by omega, by omega⟩, ⟨rfl, rfl, rfl, rfl, rfl, rfl, rfl, rfl, rfl, congrArg (fun x => some (Value.bool x)) (by rw [allT_succ (by omega)]; simp_all), rfl, rfl, rfl, trivial⟩, Ext.refl _⟩
            · skip
              replace c46 := dF c46
              refine Run.exit rfl ?_
              refine Run.seq ?_
              have e : j = cs.length := by omega
              subst e
              rw [allT_full]
              refine Run.region ?_
              refine Ops.pure rfl (Pure.move rfl) ?_
              refine Ops.nil ?_
              refine Run.cond rfl (fun c56 => ?_) (fun c56 => ?_)
              · skip
                skip
                refine Run.region ?_
                refine Ops.pure rfl (Pure.move rfl) ?_
                refine Ops.pure rfl (Pure.move rfl) ?_
                refine Ops.go rfl (Loud.lit sl32 rfl rfl rfl (by simp [Value.oneCell'])) ?_
                rintro v59 _ rfl
                refine Ops.go rfl (Loud.append 2 rfl sl32 rfl rfl (RdL.own 0 rfl) (by simp [Value.oneCell']) (by omega) (by omega)) ?_
                rintro v60 _ rfl
                refine Ops.pure rfl (Pure.assign rfl) ?_
                refine Ops.nil ?_
                refine Run.blk ?_
                refine Run.region ?_
                refine Ops.pure rfl (Pure.add rfl rfl (by omega) (by omega)) ?_
                refine Ops.pure rfl (Pure.move rfl) ?_
                refine Ops.nil ?_
                refine Run.asrt ?_
                first
                  | (refine ⟨k + 1, v60, ⟨by omega, by omega⟩, ⟨rfl, rfl, rfl, rfl, rfl, rfl, rfl, trivial⟩, Ext.trans (Ext.eq ?_) (Ext.take 2 rfl (Ext.right [_, _] _))⟩
                     rw [msL_yes c56, ints, List.map_append, List.length_append]
                     rfl)
                  | (refine ⟨k + 1, vo, ⟨by omega, by omega⟩, ⟨rfl, rfl, rfl, rfl, rfl, rfl, rfl, trivial⟩, Ext.trans (Ext.eq ?_) (Ext.right [_] _)⟩
                     rw [msL_no c56])
              · skip
                skip
                refine Run.skip ?_
                refine Run.blk ?_
                refine Run.region ?_
                refine Ops.pure rfl (Pure.add rfl rfl (by omega) (by omega)) ?_
                refine Ops.pure rfl (Pure.move rfl) ?_
                refine Ops.nil ?_
                refine Run.asrt ?_
                first
                  | (refine ⟨k + 1, v60, ⟨by omega, by omega⟩, ⟨rfl, rfl, rfl, rfl, rfl, rfl, rfl, trivial⟩, Ext.trans (Ext.eq ?_) (Ext.take 2 rfl (Ext.right [_, _] _))⟩
                     rw [msL_yes c56, ints, List.map_append, List.length_append]
                     rfl)
                  | (refine ⟨k + 1, vo, ⟨by omega, by omega⟩, ⟨rfl, rfl, rfl, rfl, rfl, rfl, rfl, trivial⟩, Ext.trans (Ext.eq ?_) (Ext.right [_] _)⟩
                     rw [msL_no c56])
    · skip
      replace c26 := dF c26
      refine Run.exit rfl ?_
      refine Run.seq ?_
      refine Run.region ?_
      refine Ops.pure rfl (Pure.move rfl) ?_
      refine Ops.pure rfl (Pure.assign rfl) ?_
      refine Ops.nil ?_
      have e : k = inn a b := by omega
      subst e
      refine Run.ext_ (Ext.take 0 rfl (Ext.nil _)) ?_
      refine Run.ret1 rfl rfl ?_
      rfl

set_option maxRecDepth 4000 in
/-- spec.l10Meet -/
theorem f_s_l10Meet (w : World) (p : Nat) (a : Int) (b : Int) (v : Value) (l : List Int) (vo : Value) (ca : Int) (cb : Int) (hp : Rd w (boxS p) 3 1 [.int .i64 a, .int .i64 b, v]) (hv : Rd w v 1 l.length (ints l)) (hk : okP a b l = true) (hof : Rd w vo 1 (segN a b) (ints (ownL a b l))) : Ret Try.prog 135 [.pointer (some ⟨p, 0, none⟩), vo, .int .i64 ca, .int .i64 cb] w (fun u L => L = [.row 2 1 u (msL a b l [ca, cb] l.length).length (ints (msL a b l [ca, cb] l.length))]) := by
  have hs := okP_size hk
  have hib := (inn_eq hs).2.1
  have hli := okP_inn hk
  refine Ret.enter Try.func135 rfl Try.ntmps135 rfl ?_
  refine Run.seq ?_
  refine Run.region ?_
  refine Ops.pure rfl (Pure.assign rfl) ?_
  refine Ops.nil ?_
  refine Run.seq ?_
  refine Run.region ?_
  refine Ops.go rfl (Loud.lit sl32 rfl rfl rfl (by simp [Value.oneCell'])) ?_
  rintro v12 _ rfl
  refine Ops.pure rfl (Pure.assign rfl) ?_
  refine Ops.nil ?_
  refine Run.seq ?_
  refine Run.seq ?_
  refine Run.region ?_
  refine Ops.pure rfl (Pure.assign rfl) ?_
  refine Ops.nil ?_
  refine Run.block ?_
  refine Run.loop2 (X := Nat) (Y := Value) (fun k vr => [(0, .pointer (some ⟨p, 0, none⟩)), (1, vo), (2, .int .i64 ca), (3, .int .i64 cb), (9, vr), (10, .int .i64 k)]) (fun k vr => [.row 2 1 vr (msL a b l [ca, cb] k).length (ints (msL a b l [ca, cb] k))]) (fun k vr => k ≤ l.length) (fun k vr => l.length - k) 0 v12 ?_ ?_ ?_ ?_
  · exact Nat.zero_le _
  · exact ⟨rfl, rfl, rfl, rfl, rfl, rfl, trivial⟩
  · exact Ext.refl _
  · intro k vr hinv0
    have hml := length_msL a b l [ca, cb] k
    refine Run.seq ?_
    refine Run.seq ?_
    refine Run.region ?_
    refine Ops.pure rfl (Pure.move rfl) ?_
    refine Ops.pure rfl (Pure.move rfl) ?_
    refine Ops.pure rfl (Pure.nilchk rfl) ?_
    refine Ops.pure rfl (Pure.fieldAddrB fld35_2 rfl) ?_
    refine Ops.pure rfl (Pure.ldP cell32 rfl (RdL.old hp) rfl) ?_
    refine Ops.pure rfl (Pure.len sl32 (RdL.old hv) rfl) ?_
    refine Ops.pure rfl (Pure.lss rfl rfl) ?_
    refine Ops.nil ?_
    refine Run.cond rfl (fun c19 => ?_) (fun c19 => ?_)
    · skip
      replace c19 := dT c19
      refine Run.skip ?_
      refine Run.seq ?_
      refine Run.block ?_
      refine Run.seq ?_
      obtain ⟨hpt, hne, -⟩ := pt_spec (k := (k : Int)) hs (by omega) (by omega)
      refine Run.region ?_
      refine Ops.pure rfl (Pure.move rfl) ?_
      refine Ops.pure rfl (Pure.move rfl) ?_
      refine Ops.pure rfl (Pure.move rfl) ?_
      refine Ops.pure rfl (Pure.move rfl) ?_
      refine Ops.q rfl (QOp.call fn185 rfl (fun w hw => f_s_l02Point w p a b v k (RdL.old hp w hw) hs (by omega))) ?_
      refine Ops.go rfl (Loud.callR fn194 rfl (fun w hw => f_s_l04Meet w p a b v l vo (ptX a k) (ptY a k) (RdL.old hp w hw) hs (RdL.old hof w hw) hpt hne)) ?_
      rintro v27 _ ⟨L27, hQ27, rfl⟩
      subst hQ27
      refine Ops.pure rfl (Pure.assign rfl) ?_
      refine Ops.nil ?_
      refine Run.seq ?_
      refine Run.region ?_
      refine Ops.pure rfl (Pure.move rfl) ?_
      refine Ops.pure rfl (Pure.move rfl) ?_
      refine Ops.q rfl (QOp.call fn195 rfl (fun w hw => f_s_l00Has w v27 (meL a b l (ptX a k) (ptY a k)) ca (RdL.own 0 rfl w hw) (show 4 ≤ 1073741824 by decide))) ?_
      refine Ops.pure rfl (Pure.move rfl) ?_
      refine Ops.guard rfl rfl rfl rfl (fun c31 => ?_) (fun c31 => ?_)
      · skip
        have c31' := dT c31
        refine Ops.pure rfl (Pure.move rfl) ?_
        refine Ops.guardY rfl rfl rfl c31 ?_
        refine Ops.pure rfl (Pure.move rfl) ?_
        refine Ops.guardY rfl rfl rfl c31 ?_
        refine Ops.q rfl (QOp.call fn195 rfl (fun w hw => f_s_l00Has w v27 (meL a b l (ptX a k) (ptY a k)) cb (RdL.own 0 rfl w hw) (show 4 ≤ 1073741824 by decide))) ?_
        refine Ops.pure rfl (Pure.pickT rfl c31 rfl) ?_
        refine Ops.nil ?_
        refine Run.cond rfl (fun c35 => ?_) (fun c35 => ?_)
        · skip
          replace c35 := dT c35
          refine Run.region ?_
          refine Ops.pure rfl (Pure.move rfl) ?_
          refine Ops.pure rfl (Pure.move rfl) ?_
          refine Ops.go rfl (Loud.lit sl32 rfl rfl rfl (by simp [Value.oneCell'])) ?_
          rintro v38 _ rfl
          refine Ops.go rfl (Loud.append 2 rfl sl32 rfl rfl (RdL.own 0 rfl) (by simp [Value.oneCell']) (by omega) (by omega)) ?_
          rintro v39 _ rfl
          refine Ops.pure rfl (Pure.assign rfl) ?_
          refine Ops.nil ?_
          refine Run.blk ?_
          refine Run.region ?_
          refine Ops.pure rfl (Pure.move rfl) ?_
          refine Ops.pure rfl (Pure.add rfl rfl (by omega) (by omega)) ?_
          refine Ops.pure rfl (Pure.assign rfl) ?_
          refine Ops.nil ?_
          refine Run.asrt ?_
          first
            | (refine ⟨k + 1, v39, ⟨by omega, by omega⟩, ⟨rfl, rfl, rfl, rfl, rfl, rfl, trivial⟩, Ext.trans (Ext.eq ?_) (Ext.take 2 rfl (Ext.nil _))⟩
               rw [msL_yes (by unfold allM; simp_all), ints, List.map_append, List.length_append]
               rfl)
            | (refine ⟨k + 1, vr, ⟨by omega, by omega⟩, ⟨rfl, rfl, rfl, rfl, rfl, rfl, trivial⟩, Ext.trans (Ext.eq ?_) (Ext.take 1 rfl (Ext.nil _))⟩
               rw [msL_no (by unfold allM; simp_all)])
        · skip
          replace c35 := dF c35
          refine Run.skip ?_
          refine Run.blk ?_
          refine Run.region ?_
          refine Ops.pure rfl (Pure.move rfl) ?_
          refine Ops.pure rfl (Pure.add rfl rfl (by omega) (by omega)) ?_
          refine Ops.pure rfl (Pure.assign rfl) ?_
          refine Ops.nil ?_
          refine Run.asrt ?_
          first
            | (refine ⟨k + 1, v39, ⟨by omega, by omega⟩, ⟨rfl, rfl, rfl, rfl, rfl, rfl, trivial⟩, Ext.trans (Ext.eq ?_) (Ext.take 2 rfl (Ext.nil _))⟩
               rw [msL_yes (by unfold allM; simp_all), ints, List.map_append, List.length_append]
               rfl)
            | (refine ⟨k + 1, vr, ⟨by omega, by omega⟩, ⟨rfl, rfl, rfl, rfl, rfl, rfl, trivial⟩, Ext.trans (Ext.eq ?_) (Ext.take 1 rfl (Ext.nil _))⟩
               rw [msL_no (by unfold allM; simp_all)])
      · skip
        replace c31 := Bool.eq_false_of_ne c31
        have c31' := dF c31
        refine Ops.guardN rfl rfl rfl rfl (by rw [c31]; decide) ?_
        refine Ops.guardN rfl rfl rfl rfl (by rw [c31]; decide) ?_
        refine Ops.pure rfl (Pure.pickF rfl c31 rfl) ?_
        refine Ops.nil ?_
        refine Run.condEF rfl rfl ?_
        refine Run.skip ?_
        refine Run.blk ?_
        refine Run.region ?_
        refine Ops.pure rfl (Pure.move rfl) ?_
        refine Ops.pure rfl (Pure.add rfl rfl (by omega) (by omega)) ?_
        refine Ops.pure rfl (Pure.assign rfl) ?_
        refine Ops.nil ?_
        refine Run.asrt ?_
        first
          | (refine ⟨k + 1, v39, ⟨by omega, by omega⟩, ⟨rfl, rfl, rfl, rfl, rfl, rfl, trivial⟩, Ext.trans (Ext.eq ?_) (Ext.take 2 rfl (Ext.nil _))⟩
             rw [msL_yes (by unfold allM; simp_all), ints, List.map_append, List.length_append]
             rfl)
          | (refine ⟨k + 1, vr, ⟨by omega, by omega⟩, ⟨rfl, rfl, rfl, rfl, rfl, rfl, trivial⟩, Ext.trans (Ext.eq ?_) (Ext.take 1 rfl (Ext.nil _))⟩
             rw [msL_no (by unfold allM; simp_all)])
    · skip
      replace c19 := dF c19
      refine Run.exit rfl ?_
      refine Run.seq ?_
      refine Run.region ?_
      refine Ops.pure rfl (Pure.move rfl) ?_
      refine Ops.pure rfl (Pure.assign rfl) ?_
      refine Ops.nil ?_
      have e : k = l.length := by omega
      subst e
      refine Run.ret1 rfl rfl ?_
      rfl

end Go.Proofs.Ytmfinopdokkjcaa
