/- Contracts of functions, printed by program from annotations. -/
import Derived.Test.YtmfinopdokkjcaaTqC
namespace Go.Proofs.Ytmfinopdokkjcaa
open Go Go.AW Go.RowKit
set_option linter.unusedVariables false
set_option linter.unusedSimpArgs false

theorem bldA2 (x y : Int) : Try.prog.built 202 [(0, .int .i64 x), (1, .int .i64 y)] = some #[.int .i64 x, .int .i64 y] := by kernel_rfl
theorem around_VW {a b x y dx dy : Int} (hp : PtOk a b x y) (he : ¬ Edge a b x y) (h1 : dx = 1 ∨ dx = -1) (h2 : dy = 1 ∨ dy = -1) : VW a b (x, y, dx, dy) := by
  rw [VW_mk]
  unfold PtOk Edge at *
  omega
/-- the segments that end at a point, as the program takes them -/
def enS (a b x y dx dy : Int) : List Int := if PtOk a b (x + dx) (y + dy) then [sg b (x, y, dx, dy)] else []
def enTo (a b x y : Int) : Nat → List Int
  | 0 => []
  | 1 => enS a b x y (-1) (-1)
  | 2 => enS a b x y (-1) (-1) ++ enS a b x y (-1) 1
  | 3 => enS a b x y (-1) (-1) ++ enS a b x y (-1) 1 ++ enS a b x y 1 (-1)
  | _ => enS a b x y (-1) (-1) ++ enS a b x y (-1) 1 ++ enS a b x y 1 (-1) ++ enS a b x y 1 1
theorem enS_len (a b x y dx dy : Int) : (enS a b x y dx dy).length ≤ 1 := by unfold enS; split <;> simp
theorem enTo_len (a b x y : Int) (k : Nat) : (enTo a b x y k).length ≤ 4 := by
  have h1 := enS_len a b x y (-1) (-1)
  have h2 := enS_len a b x y (-1) 1
  have h3 := enS_len a b x y 1 (-1)
  have h4 := enS_len a b x y 1 1
  unfold enTo
  split <;> first | omega | (simp only [List.length_append]; omega) | (simp; done)
theorem enS_yes {a b x y dx dy : Int} (h : PtOk a b (x + dx) (y + dy)) : enS a b x y dx dy = [sg b (x, y, dx, dy)] := if_pos h
theorem enS_no {a b x y dx dy : Int} (h : ¬ PtOk a b (x + dx) (y + dy)) : enS a b x y dx dy = [] := if_neg h
theorem enTo_end {a b : Int} (hs : SizeOk a b) (l : List Int) {x y : Int} (hp : PtOk a b x y) (he : Edge a b x y) : (enTo a b x y 4).length = 2 ∧ prs a b l x y = [((enTo a b x y 4).getD 0 0, (enTo a b x y 4).getD 1 0)] := by
  have hc := prs_cases hs l hp
  obtain ⟨s1, s2, s3, s4⟩ := id hs
  have he' := he
  unfold PtOk at hp
  unfold Edge at he'
  have e4 : enTo a b x y 4 = enS a b x y (-1) (-1) ++ enS a b x y (-1) 1 ++ enS a b x y 1 (-1) ++ enS a b x y 1 1 := rfl
  rw [e4]
  rcases hc with ⟨g1, _, _, g4⟩ | ⟨g1, _, _, g4⟩ | ⟨g1, _, _, g4⟩ | ⟨g1, _, _, g4⟩ | ⟨g1, _, _, g4⟩ | ⟨g1, _, _, g4⟩ | ⟨g1, _, _, g4⟩
  · rw [g4, enS_no (dx := -1) (dy := -1) (by unfold PtOk; omega), enS_no (dx := -1) (dy := 1) (by unfold PtOk; omega), enS_yes (dx := 1) (dy := -1) (by unfold PtOk; omega), enS_yes (dx := 1) (dy := 1) (by unfold PtOk; omega)]
    exact ⟨rfl, rfl⟩
  · rw [g4, enS_yes (dx := -1) (dy := -1) (by unfold PtOk; omega), enS_yes (dx := -1) (dy := 1) (by unfold PtOk; omega), enS_no (dx := 1) (dy := -1) (by unfold PtOk; omega), enS_no (dx := 1) (dy := 1) (by unfold PtOk; omega)]
    exact ⟨rfl, rfl⟩
  · rw [g4, enS_no (dx := -1) (dy := -1) (by unfold PtOk; omega), enS_yes (dx := -1) (dy := 1) (by unfold PtOk; omega), enS_no (dx := 1) (dy := -1) (by unfold PtOk; omega), enS_yes (dx := 1) (dy := 1) (by unfold PtOk; omega)]
    exact ⟨rfl, rfl⟩
  · rw [g4, enS_yes (dx := -1) (dy := -1) (by unfold PtOk; omega), enS_no (dx := -1) (dy := 1) (by unfold PtOk; omega), enS_yes (dx := 1) (dy := -1) (by unfold PtOk; omega), enS_no (dx := 1) (dy := 1) (by unfold PtOk; omega)]
    exact ⟨rfl, rfl⟩
  · exact absurd he g1
  · exact absurd he g1
  · exact absurd he g1
theorem flat_snoc (L : List (Int × Int)) (q : Int × Int) : (L ++ [q]).flatMap encQ = L.flatMap encQ ++ encQ q := by simp
theorem len_snoc (L : List (Int × Int)) (q : Int × Int) : (L ++ [q]).length = L.length + 1 := by simp
theorem prs_in {a b x y : Int} {l : List Int} (he : ¬ Edge a b x y) : kd a b l x y = l.getD (num a x y).toNat 0 ∧
    (kd a b l x y = 1 → prs a b l x y = [(sg b (x, y, -1, -1), sg b (x, y, -1, 1)), (sg b (x, y, 1, -1), sg b (x, y, 1, 1))]) ∧
    (kd a b l x y = 2 → prs a b l x y = [(sg b (x, y, -1, -1), sg b (x, y, 1, -1)), (sg b (x, y, -1, 1), sg b (x, y, 1, 1))]) ∧
    (¬ kd a b l x y = 1 → ¬ kd a b l x y = 2 → prs a b l x y = [(sg b (x, y, -1, -1), sg b (x, y, 1, 1)), (sg b (x, y, 1, -1), sg b (x, y, -1, 1))]) := by
  have h : ¬ x = 0 ∧ ¬ x = 2 * a ∧ ¬ y = 0 ∧ ¬ y = 2 * b := by unfold Edge at he; omega
  refine ⟨by unfold kd; rw [if_neg he], fun h1 => ?_, fun h1 => ?_, fun h1 h2 => ?_⟩
  · unfold prs
    rw [if_neg h.1, if_neg h.2.1, if_neg h.2.2.1, if_neg h.2.2.2, if_pos h1]
  · unfold prs
    rw [if_neg h.1, if_neg h.2.1, if_neg h.2.2.1, if_neg h.2.2.2, if_neg (by omega), if_pos h1]
  · unfold prs
    rw [if_neg h.1, if_neg h.2.1, if_neg h.2.2.1, if_neg h.2.2.2, if_neg h1, if_neg h2]

set_option maxRecDepth 4000 in
/-- (impl.Panel).pairsAt 1 -/
theorem f_i_Panel_pairsAt_1 (w : World) (a : Int) (b : Int) (v : Value) (x : Int) (y : Int) (dx : Int) (dy : Int) (p : Nat) (q : Nat) (hp : Rd w (boxS p) 3 1 [.int .i64 a, .int .i64 b, v]) (hq : Rd w (boxS q) 2 1 [.int .i64 x, .int .i64 y]) (hs : SizeOk a b) (hvw : VW a b (x, y, dx, dy)) : RetV Try.prog 221 [.int .i64 dx, .int .i64 dy, .pointer (some ⟨p, 0, none⟩), .pointer (some ⟨q, 0, none⟩)] w (.int .i64 (sg b (x, y, dx, dy))) := by
  refine Ret.enter Try.func221 rfl Try.ntmps221 rfl ?_
  refine Run.seq ?_
  refine Run.region ?_
  refine Ops.pure rfl (Pure.assign rfl) ?_
  refine Ops.nil ?_
  refine Run.seq ?_
  refine Run.region ?_
  refine Ops.pure rfl (Pure.ldPA cell35 rfl (RdL.old hp) rfl rfl) ?_
  refine Ops.pure rfl (Pure.ldPA cell72 rfl (RdL.old hq) rfl rfl) ?_
  refine Ops.pure rfl (Pure.move rfl) ?_
  refine Ops.pure rfl (Pure.move rfl) ?_
  refine Ops.pure rfl (Pure.build rfl (bld167_3 _ _ _ _ (by first | rfl | assumption) (by first | rfl | assumption))) ?_
  refine Ops.q rfl (QOp.call fn173 rfl (fun w hw => f_i_Panel_segment w a b v x y dx dy hs hvw)) ?_
  refine Ops.pure rfl (Pure.assign rfl) ?_
  refine Ops.nil ?_
  refine Run.ret1 rfl rfl ?_
  rfl

set_option maxRecDepth 4000 in
/-- (impl.Panel).pairsAt -/
theorem f_i_Panel_pairsAt (w : World) (a : Int) (b : Int) (v : Value) (l : List Int) (x : Int) (y : Int) (hv : Rd w v 1 l.length (ints l)) (hk : okP a b l = true) (hpt : PtOk a b x y) : Ret Try.prog 203 [.agg #[.int .i64 a, .int .i64 b, v], .agg #[.int .i64 x, .int .i64 y]] w (fun u L => L = [.row 202 2 u (prs a b l x y).length ((prs a b l x y).flatMap encQ)]) := by
  have hs := okP_size hk
  obtain ⟨hs1, hs2, hs3, hs4⟩ := id hs
  have hli := okP_inn hk
  refine Ret.enter Try.func203 rfl Try.ntmps203 rfl ?_
  refine Run.seq ?_
  refine Run.region ?_
  refine Ops.go rfl (Loud.box rfl rfl) ?_
  rintro _ _ ⟨b2, rfl, rfl⟩
  refine Ops.go rfl (Loud.box rfl rfl) ?_
  rintro _ _ ⟨b3, rfl, rfl⟩
  refine Ops.pure rfl (Pure.assign rfl) ?_
  refine Ops.nil ?_
  refine Run.seq ?_
  refine Run.region ?_
  refine Ops.pure rfl (Pure.makeFuncN rfl) ?_
  refine Ops.pure rfl (Pure.assign rfl) ?_
  refine Ops.nil ?_
  refine Run.seq ?_
  refine Run.seq ?_
  refine Run.region ?_
  refine Ops.pure rfl (Pure.ldBA 1 rfl cell35 rfl rfl rfl) ?_
  refine Ops.pure rfl (Pure.ldBA 0 rfl cell72 rfl rfl rfl) ?_
  refine Ops.q rfl (QOp.call fn198 rfl (fun w hw => f_i_Panel_isBorder w _ _ _ _ _ (by assumption))) ?_
  refine Ops.nil ?_
  refine Run.cond rfl (fun c16 => ?_) (fun c16 => ?_)
  · skip
    replace c16 := dT c16
    have hpt4 := hpt
    unfold PtOk at hpt4
    refine Run.seq ?_
    refine Run.region ?_
    refine Ops.go rfl (Loud.lit sl32 rfl rfl rfl (by simp [Value.oneCell'])) ?_
    rintro v17 _ rfl
    refine Ops.pure rfl (Pure.assign rfl) ?_
    refine Ops.nil ?_
    refine Run.seq ?_
    refine Run.seq ?_
    refine Run.region ?_
    refine Ops.pure rfl (Pure.build rfl (show Try.prog.built 202 [(0, .int .i64 (-1)), (1, .int .i64 (-1))] = some #[.int .i64 (-1), .int .i64 (-1)] by kernel_rfl)) ?_
    refine Ops.pure rfl (Pure.build rfl (show Try.prog.built 202 [(0, .int .i64 (-1)), (1, .int .i64 1)] = some #[.int .i64 (-1), .int .i64 1] by kernel_rfl)) ?_
    refine Ops.pure rfl (Pure.build rfl (show Try.prog.built 202 [(0, .int .i64 1), (1, .int .i64 (-1))] = some #[.int .i64 1, .int .i64 (-1)] by kernel_rfl)) ?_
    refine Ops.pure rfl (Pure.build rfl (show Try.prog.built 202 [(0, .int .i64 1), (1, .int .i64 1)] = some #[.int .i64 1, .int .i64 1] by kernel_rfl)) ?_
    refine Ops.pure rfl (Pure.build rfl (show Try.prog.built 217 [(0, .agg #[.int .i64 (-1), .int .i64 (-1)]), (1, .agg #[.int .i64 (-1), .int .i64 1]), (2, .agg #[.int .i64 1, .int .i64 (-1)]), (3, .agg #[.int .i64 1, .int .i64 1])] = some #[.int .i64 (-1), .int .i64 (-1), .int .i64 (-1), .int .i64 1, .int .i64 1, .int .i64 (-1), .int .i64 1, .int .i64 1] by kernel_rfl)) ?_
    refine Ops.pure rfl (Pure.move rfl) ?_
    refine Ops.nil ?_
    refine Run.block ?_
    refine Run.loop2 (X := Nat) (Y := Value) (fun k vs => [(2, .pointer (some ⟨b2, 0, none⟩)), (3, .pointer (some ⟨b3, 0, none⟩)), (5, .func (.func 221) #[] #[.pointer (some ⟨b2, 0, none⟩), .pointer (some ⟨b3, 0, none⟩)]), (6, vs), (22, .agg #[.int .i64 (-1), .int .i64 (-1), .int .i64 (-1), .int .i64 1, .int .i64 1, .int .i64 (-1), .int .i64 1, .int .i64 1]), (23, .int .i64 k)]) (fun k vs => [.row 2 1 vs (enTo a b x y k).length (ints (enTo a b x y k)), .box b3 72 [.int .i64 x, .int .i64 y], .box b2 35 [.int .i64 a, .int .i64 b, v]]) (fun k vs => k ≤ 4) (fun k vs => 4 - k) 0 v17 ?_ ?_ ?_ ?_
    · exact Nat.zero_le _
    · exact ⟨rfl, rfl, rfl, rfl, rfl, rfl, trivial⟩
    · exact Ext.refl _
    · intro k vs hinv0
      have hen := enTo_len a b x y k
      refine Run.seq ?_
      refine Run.region ?_
      refine Ops.pure rfl (Pure.lss rfl rfl) ?_
      refine Ops.nil ?_
      refine Run.seq ?_
      refine Run.cond rfl (fun c24 => ?_) (fun c24 => ?_)
      · skip
        replace c24 := dT c24
        refine Run.skip ?_
        refine Run.seq ?_
        refine Run.block ?_
        refine Run.seq ?_
        obtain rfl | rfl | rfl | rfl : k = 0 ∨ k = 1 ∨ k = 2 ∨ k = 3 := by omega
        · skip
          refine Run.region ?_
          refine Ops.pure rfl (Pure.idxVA (m := 2) und217 cell202 rfl rfl (by decide) (by decide) rfl) ?_
          refine Ops.go rfl (Loud.alloc zero202 rfl) ?_
          rintro _ _ ⟨b8, rfl, rfl⟩
          refine Ops.store (Stores.box 0 rfl rfl rfl size202 (allOne rfl) rfl rfl) ?_
          refine Ops.nil ?_
          refine Run.seq ?_
          refine Run.region ?_
          refine Ops.pure rfl (Pure.ldBA 3 rfl cell35 rfl rfl rfl) ?_
          refine Ops.pure rfl (Pure.fieldAddrB fld72_0 rfl) ?_
          refine Ops.pure rfl (Pure.ldB 2 rfl cell2 rfl rfl) ?_
          refine Ops.pure rfl (Pure.idxArr und202 size2 rfl rfl (by first | assumption | omega | (simp; omega)) (by first | assumption | omega | (simp; omega))) ?_
          refine Ops.pure rfl (Pure.ldB 0 rfl cell2 rfl rfl) ?_
          refine Ops.pure rfl (Pure.add rfl rfl (by omega) (by omega)) ?_
          refine Ops.pure rfl (Pure.fieldAddrB fld72_1 rfl) ?_
          refine Ops.pure rfl (Pure.ldB 2 rfl cell2 rfl rfl) ?_
          refine Ops.pure rfl (Pure.idxArr und202 size2 rfl rfl (by first | assumption | omega | (simp; omega)) (by first | assumption | omega | (simp; omega))) ?_
          refine Ops.pure rfl (Pure.ldB 0 rfl cell2 rfl rfl) ?_
          refine Ops.pure rfl (Pure.add rfl rfl (by omega) (by omega)) ?_
          refine Ops.pure rfl (Pure.build rfl (bld72_2 _ _ (by first | rfl | assumption) (by first | rfl | assumption))) ?_
          refine Ops.q rfl (QOp.call fn197 rfl (fun w hw => f_i_Panel_isPoint w _ _ _ _ _ (by assumption))) ?_
          refine Ops.nil ?_
          refine Run.cond rfl (fun c38 => ?_) (fun c38 => ?_)
          · skip
            replace c38 := dT c38
            refine Run.region ?_
            refine Ops.pure rfl (Pure.move rfl) ?_
            refine Ops.pure rfl (Pure.move rfl) ?_
            refine Ops.pure rfl (Pure.idxArr und202 size2 rfl rfl (by first | assumption | omega | (simp; omega)) (by first | assumption | omega | (simp; omega))) ?_
            refine Ops.pure rfl (Pure.ldB 0 rfl cell2 rfl rfl) ?_
            refine Ops.pure rfl (Pure.idxArr und202 size2 rfl rfl (by first | assumption | omega | (simp; omega)) (by first | assumption | omega | (simp; omega))) ?_
            refine Ops.pure rfl (Pure.ldB 0 rfl cell2 rfl rfl) ?_
            refine Ops.q rfl (QOp.callF fn221 rfl rfl rfl (fun w hw => f_i_Panel_pairsAt_1 w a b v x y _ _ b2 b3 (RdL.boxM 3 rfl rfl w hw) (RdL.boxM 2 rfl rfl w hw) hs (VW_mk.2 ⟨by decide, by decide, hpt, c38⟩))) ?_
            refine Ops.go rfl (Loud.lit sl32 rfl rfl rfl (by simp [Value.oneCell'])) ?_
            rintro v46 _ rfl
            refine Ops.go rfl (Loud.append 2 rfl sl32 rfl rfl (RdL.own 0 rfl) (by simp [Value.oneCell']) (by omega) (by omega)) ?_
            rintro v47 _ rfl
            refine Ops.pure rfl (Pure.assign rfl) ?_
            refine Ops.nil ?_
            refine Run.blk ?_
            refine Run.region ?_
            refine Ops.pure rfl (Pure.add rfl rfl (by omega) (by omega)) ?_
            refine Ops.pure rfl (Pure.move rfl) ?_
            refine Ops.nil ?_
            refine Run.asrt ?_
            first
              | (refine ⟨1, v47, ⟨by omega, by omega⟩, ⟨rfl, rfl, rfl, rfl, rfl, rfl, trivial⟩, ?_⟩
                 rw [show enTo a b x y 1 = enTo a b x y 0 ++ enS a b x y (-1) (-1) from rfl, enS_yes c38, ints_snoc, List.length_append]
                 exact Ext.take 2 rfl (Ext.take 2 rfl (Ext.take 2 rfl (Ext.nil _))))
              | (refine ⟨1, vs, ⟨by omega, by omega⟩, ⟨rfl, rfl, rfl, rfl, rfl, rfl, trivial⟩, ?_⟩
                 rw [show enTo a b x y 1 = enTo a b x y 0 ++ enS a b x y (-1) (-1) from rfl, enS_no c38, List.append_nil]
                 exact Ext.right [_] _)
              | (refine ⟨2, v47, ⟨by omega, by omega⟩, ⟨rfl, rfl, rfl, rfl, rfl, rfl, trivial⟩, ?_⟩
                 rw [show enTo a b x y 2 = enTo a b x y 1 ++ enS a b x y (-1) 1 from rfl, enS_yes c38, ints_snoc, List.length_append]
                 exact Ext.take 2 rfl (Ext.take 2 rfl (Ext.take 2 rfl (Ext.nil _))))
              | (refine ⟨2, vs, ⟨by omega, by omega⟩, ⟨rfl, rfl, rfl, rfl, rfl, rfl, trivial⟩, ?_⟩
                 rw [show enTo a b x y 2 = enTo a b x y 1 ++ enS a b x y (-1) 1 from rfl, enS_no c38, List.append_nil]
                 exact Ext.right [_] _)
              | (refine ⟨3, v47, ⟨by omega, by omega⟩, ⟨rfl, rfl, rfl, rfl, rfl, rfl, trivial⟩, ?_⟩
                 rw [show enTo a b x y 3 = enTo a b x y 2 ++ enS a b x y 1 (-1) from rfl, enS_yes c38, ints_snoc, List.length_append]
                 exact Ext.take 2 rfl (Ext.take 2 rfl (Ext.take 2 rfl (Ext.nil _))))
              | (refine ⟨3, vs, ⟨by omega, by omega⟩, ⟨rfl, rfl, rfl, rfl, rfl, rfl, trivial⟩, ?_⟩
                 rw [show enTo a b x y 3 = enTo a b x y 2 ++ enS a b x y 1 (-1) from rfl, enS_no c38, List.append_nil]
                 exact Ext.right [_] _)
              | (refine ⟨4, v47, ⟨by omega, by omega⟩, ⟨rfl, rfl, rfl, rfl, rfl, rfl, trivial⟩, ?_⟩
                 rw [show enTo a b x y 4 = enTo a b x y 3 ++ enS a b x y 1 1 from rfl, enS_yes c38, ints_snoc, List.length_append]
                 exact Ext.take 2 rfl (Ext.take 2 rfl (Ext.take 2 rfl (Ext.nil _))))
              | (refine ⟨4, vs, ⟨by omega, by omega⟩, ⟨rfl, rfl, rfl, rfl, rfl, rfl, trivial⟩, ?_⟩
                 rw [show enTo a b x y 4 = enTo a b x y 3 ++ enS a b x y 1 1 from rfl, enS_no c38, List.append_nil]
                 exact Ext.right [_] _)
          · skip
            replace c38 := dF c38
            refine Run.skip ?_
            refine Run.blk ?_
            refine Run.region ?_
            refine Ops.pure rfl (Pure.add rfl rfl (by omega) (by omega)) ?_
            refine Ops.pure rfl (Pure.move rfl) ?_
            refine Ops.nil ?_
            refine Run.asrt ?_
            first
              | (refine ⟨1, v47, ⟨by omega, by omega⟩, ⟨rfl, rfl, rfl, rfl, rfl, rfl, trivial⟩, ?_⟩
                 rw [show enTo a b x y 1 = enTo a b x y 0 ++ enS a b x y (-1) (-1) from rfl, enS_yes c38, ints_snoc, List.length_append]
                 exact Ext.take 2 rfl (Ext.take 2 rfl (Ext.take 2 rfl (Ext.nil _))))
              | (refine ⟨1, vs, ⟨by omega, by omega⟩, ⟨rfl, rfl, rfl, rfl, rfl, rfl, trivial⟩, ?_⟩
                 rw [show enTo a b x y 1 = enTo a b x y 0 ++ enS a b x y (-1) (-1) from rfl, enS_no c38, List.append_nil]
                 exact Ext.right [_] _)
              | (refine ⟨2, v47, ⟨by omega, by omega⟩, ⟨rfl, rfl, rfl, rfl, rfl, rfl, trivial⟩, ?_⟩
                 rw [show enTo a b x y 2 = enTo a b x y 1 ++ enS a b x y (-1) 1 from rfl, enS_yes c38, ints_snoc, List.length_append]
                 exact Ext.take 2 rfl (Ext.take 2 rfl (Ext.take 2 rfl (Ext.nil _))))
              | (refine ⟨2, vs, ⟨by omega, by omega⟩, ⟨rfl, rfl, rfl, rfl, rfl, rfl, trivial⟩, ?_⟩
                 rw [show enTo a b x y 2 = enTo a b x y 1 ++ enS a b x y (-1) 1 from rfl, enS_no c38, List.append_nil]
                 exact Ext.right [_] _)
              | (refine ⟨3, v47, ⟨by omega, by omega⟩, ⟨rfl, rfl, rfl, rfl, rfl, rfl, trivial⟩, ?_⟩
                 rw [show enTo a b x y 3 = enTo a b x y 2 ++ enS a b x y 1 (-1) from rfl, enS_yes c38, ints_snoc, List.length_append]
                 exact Ext.take 2 rfl (Ext.take 2 rfl (Ext.take 2 rfl (Ext.nil _))))
              | (refine ⟨3, vs, ⟨by omega, by omega⟩, ⟨rfl, rfl, rfl, rfl, rfl, rfl, trivial⟩, ?_⟩
                 rw [show enTo a b x y 3 = enTo a b x y 2 ++ enS a b x y 1 (-1) from rfl, enS_no c38, List.append_nil]
                 exact Ext.right [_] _)
              | (refine ⟨4, v47, ⟨by omega, by omega⟩, ⟨rfl, rfl, rfl, rfl, rfl, rfl, trivial⟩, ?_⟩
                 rw [show enTo a b x y 4 = enTo a b x y 3 ++ enS a b x y 1 1 from rfl, enS_yes c38, ints_snoc, List.length_append]
                 exact Ext.take 2 rfl (Ext.take 2 rfl (Ext.take 2 rfl (Ext.nil _))))
              | (refine ⟨4, vs, ⟨by omega, by omega⟩, ⟨rfl, rfl, rfl, rfl, rfl, rfl, trivial⟩, ?_⟩
                 rw [show enTo a b x y 4 = enTo a b x y 3 ++ enS a b x y 1 1 from rfl, enS_no c38, List.append_nil]
                 exact Ext.right [_] _)
        · skip
          refine Run.region ?_
          refine Ops.pure rfl (Pure.idxVA (m := 2) und217 cell202 rfl rfl (by decide) (by decide) rfl) ?_
          refine Ops.go rfl (Loud.alloc zero202 rfl) ?_
          rintro _ _ ⟨b8, rfl, rfl⟩
          refine Ops.store (Stores.box 0 rfl rfl rfl size202 (allOne rfl) rfl rfl) ?_
          refine Ops.nil ?_
          refine Run.seq ?_
          refine Run.region ?_
          refine Ops.pure rfl (Pure.ldBA 3 rfl cell35 rfl rfl rfl) ?_
          refine Ops.pure rfl (Pure.fieldAddrB fld72_0 rfl) ?_
          refine Ops.pure rfl (Pure.ldB 2 rfl cell2 rfl rfl) ?_
          refine Ops.pure rfl (Pure.idxArr und202 size2 rfl rfl (by first | assumption | omega | (simp; omega)) (by first | assumption | omega | (simp; omega))) ?_
          refine Ops.pure rfl (Pure.ldB 0 rfl cell2 rfl rfl) ?_
          refine Ops.pure rfl (Pure.add rfl rfl (by omega) (by omega)) ?_
          refine Ops.pure rfl (Pure.fieldAddrB fld72_1 rfl) ?_
          refine Ops.pure rfl (Pure.ldB 2 rfl cell2 rfl rfl) ?_
          refine Ops.pure rfl (Pure.idxArr und202 size2 rfl rfl (by first | assumption | omega | (simp; omega)) (by first | assumption | omega | (simp; omega))) ?_
          refine Ops.pure rfl (Pure.ldB 0 rfl cell2 rfl rfl) ?_
          refine Ops.pure rfl (Pure.add rfl rfl (by omega) (by omega)) ?_
          refine Ops.pure rfl (Pure.build rfl (bld72_2 _ _ (by first | rfl | assumption) (by first | rfl | assumption))) ?_
          refine Ops.q rfl (QOp.call fn197 rfl (fun w hw => f_i_Panel_isPoint w _ _ _ _ _ (by assumption))) ?_
          refine Ops.nil ?_
          refine Run.cond rfl (fun c38 => ?_) (fun c38 => ?_)
          · skip
            replace c38 := dT c38
            refine Run.region ?_
            refine Ops.pure rfl (Pure.move rfl) ?_
            refine Ops.pure rfl (Pure.move rfl) ?_
            refine Ops.pure rfl (Pure.idxArr und202 size2 rfl rfl (by first | assumption | omega | (simp; omega)) (by first | assumption | omega | (simp; omega))) ?_
            refine Ops.pure rfl (Pure.ldB 0 rfl cell2 rfl rfl) ?_
            refine Ops.pure rfl (Pure.idxArr und202 size2 rfl rfl (by first | assumption | omega | (simp; omega)) (by first | assumption | omega | (simp; omega))) ?_
            refine Ops.pure rfl (Pure.ldB 0 rfl cell2 rfl rfl) ?_
            refine Ops.q rfl (QOp.callF fn221 rfl rfl rfl (fun w hw => f_i_Panel_pairsAt_1 w a b v x y _ _ b2 b3 (RdL.boxM 3 rfl rfl w hw) (RdL.boxM 2 rfl rfl w hw) hs (VW_mk.2 ⟨by decide, by decide, hpt, c38⟩))) ?_
            refine Ops.go rfl (Loud.lit sl32 rfl rfl rfl (by simp [Value.oneCell'])) ?_
            rintro v46 _ rfl
            refine Ops.go rfl (Loud.append 2 rfl sl32 rfl rfl (RdL.own 0 rfl) (by simp [Value.oneCell']) (by omega) (by omega)) ?_
            rintro v47 _ rfl
            refine Ops.pure rfl (Pure.assign rfl) ?_
            refine Ops.nil ?_
            refine Run.blk ?_
            refine Run.region ?_
            refine Ops.pure rfl (Pure.add rfl rfl (by omega) (by omega)) ?_
            refine Ops.pure rfl (Pure.move rfl) ?_
            refine Ops.nil ?_
            refine Run.asrt ?_
            first
              | (refine ⟨1, v47, ⟨by omega, by omega⟩, ⟨rfl, rfl, rfl, rfl, rfl, rfl, trivial⟩, ?_⟩
                 rw [show enTo a b x y 1 = enTo a b x y 0 ++ enS a b x y (-1) (-1) from rfl, enS_yes c38, ints_snoc, List.length_append]
                 exact Ext.take 2 rfl (Ext.take 2 rfl (Ext.take 2 rfl (Ext.nil _))))
              | (refine ⟨1, vs, ⟨by omega, by omega⟩, ⟨rfl, rfl, rfl, rfl, rfl, rfl, trivial⟩, ?_⟩
                 rw [show enTo a b x y 1 = enTo a b x y 0 ++ enS a b x y (-1) (-1) from rfl, enS_no c38, List.append_nil]
                 exact Ext.right [_] _)
              | (refine ⟨2, v47, ⟨by omega, by omega⟩, ⟨rfl, rfl, rfl, rfl, rfl, rfl, trivial⟩, ?_⟩
                 rw [show enTo a b x y 2 = enTo a b x y 1 ++ enS a b x y (-1) 1 from rfl, enS_yes c38, ints_snoc, List.length_append]
                 exact Ext.take 2 rfl (Ext.take 2 rfl (Ext.take 2 rfl (Ext.nil _))))
              | (refine ⟨2, vs, ⟨by omega, by omega⟩, ⟨rfl, rfl, rfl, rfl, rfl, rfl, trivial⟩, ?_⟩
                 rw [show enTo a b x y 2 = enTo a b x y 1 ++ enS a b x y (-1) 1 from rfl, enS_no c38, List.append_nil]
                 exact Ext.right [_] _)
              | (refine ⟨3, v47, ⟨by omega, by omega⟩, ⟨rfl, rfl, rfl, rfl, rfl, rfl, trivial⟩, ?_⟩
                 rw [show enTo a b x y 3 = enTo a b x y 2 ++ enS a b x y 1 (-1) from rfl, enS_yes c38, ints_snoc, List.length_append]
                 exact Ext.take 2 rfl (Ext.take 2 rfl (Ext.take 2 rfl (Ext.nil _))))
              | (refine ⟨3, vs, ⟨by omega, by omega⟩, ⟨rfl, rfl, rfl, rfl, rfl, rfl, trivial⟩, ?_⟩
                 rw [show enTo a b x y 3 = enTo a b x y 2 ++ enS a b x y 1 (-1) from rfl, enS_no c38, List.append_nil]
                 exact Ext.right [_] _)
              | (refine ⟨4, v47, ⟨by omega, by omega⟩, ⟨rfl, rfl, rfl, rfl, rfl, rfl, trivial⟩, ?_⟩
                 rw [show enTo a b x y 4 = enTo a b x y 3 ++ enS a b x y 1 1 from rfl, enS_yes c38, ints_snoc, List.length_append]
                 exact Ext.take 2 rfl (Ext.take 2 rfl (Ext.take 2 rfl (Ext.nil _))))
              | (refine ⟨4, vs, ⟨by omega, by omega⟩, ⟨rfl, rfl, rfl, rfl, rfl, rfl, trivial⟩, ?_⟩
                 rw [show enTo a b x y 4 = enTo a b x y 3 ++ enS a b x y 1 1 from rfl, enS_no c38, List.append_nil]
                 exact Ext.right [_] _)
          · skip
            replace c38 := dF c38
            refine Run.skip ?_
            refine Run.blk ?_
            refine Run.region ?_
            refine Ops.pure rfl (Pure.add rfl rfl (by omega) (by omega)) ?_
            refine Ops.pure rfl (Pure.move rfl) ?_
            refine Ops.nil ?_
            refine Run.asrt ?_
            first
              | (refine ⟨1, v47, ⟨by omega, by omega⟩, ⟨rfl, rfl, rfl, rfl, rfl, rfl, trivial⟩, ?_⟩
                 rw [show enTo a b x y 1 = enTo a b x y 0 ++ enS a b x y (-1) (-1) from rfl, enS_yes c38, ints_snoc, List.length_append]
                 exact Ext.take 2 rfl (Ext.take 2 rfl (Ext.take 2 rfl (Ext.nil _))))
              | (refine ⟨1, vs, ⟨by omega, by omega⟩, ⟨rfl, rfl, rfl, rfl, rfl, rfl, trivial⟩, ?_⟩
                 rw [show enTo a b x y 1 = enTo a b x y 0 ++ enS a b x y (-1) (-1) from rfl, enS_no c38, List.append_nil]
                 exact Ext.right [_] _)
              | (refine ⟨2, v47, ⟨by omega, by omega⟩, ⟨rfl, rfl, rfl, rfl, rfl, rfl, trivial⟩, ?_⟩
                 rw [show enTo a b x y 2 = enTo a b x y 1 ++ enS a b x y (-1) 1 from rfl, enS_yes c38, ints_snoc, List.length_append]
                 exact Ext.take 2 rfl (Ext.take 2 rfl (Ext.take 2 rfl (Ext.nil _))))
              | (refine ⟨2, vs, ⟨by omega, by omega⟩, ⟨rfl, rfl, rfl, rfl, rfl, rfl, trivial⟩, ?_⟩
                 rw [show enTo a b x y 2 = enTo a b x y 1 ++ enS a b x y (-1) 1 from rfl, enS_no c38, List.append_nil]
                 exact Ext.right [_] _)
              | (refine ⟨3, v47, ⟨by omega, by omega⟩, ⟨rfl, rfl, rfl, rfl, rfl, rfl, trivial⟩, ?_⟩
                 rw [show enTo a b x y 3 = enTo a b x y 2 ++ enS a b x y 1 (-1) from rfl, enS_yes c38, ints_snoc, List.length_append]
                 exact Ext.take 2 rfl (Ext.take 2 rfl (Ext.take 2 rfl (Ext.nil _))))
              | (refine ⟨3, vs, ⟨by omega, by omega⟩, ⟨rfl, rfl, rfl, rfl, rfl, rfl, trivial⟩, ?_⟩
                 rw [show enTo a b x y 3 = enTo a b x y 2 ++ enS a b x y 1 (-1) from rfl, enS_no c38, List.append_nil]
                 exact Ext.right [_] _)
              | (refine ⟨4, v47, ⟨by omega, by omega⟩, ⟨rfl, rfl, rfl, rfl, rfl, rfl, trivial⟩, ?_⟩
                 rw [show enTo a b x y 4 = enTo a b x y 3 ++ enS a b x y 1 1 from rfl, enS_yes c38, ints_snoc, List.length_append]
                 exact Ext.take 2 rfl (Ext.take 2 rfl (Ext.take 2 rfl (Ext.nil _))))
              | (refine ⟨4, vs, ⟨by omega, by omega⟩, ⟨rfl, rfl, rfl, rfl, rfl, rfl, trivial⟩, ?_⟩
                 rw [show enTo a b x y 4 = enTo a b x y 3 ++ enS a b x y 1 1 from rfl, enS_no c38, List.append_nil]
                 exact Ext.right [_] _)
        · skip
          refine Run.region ?_
          refine Ops.pure rfl (Pure.idxVA (m := 2) und217 cell202 rfl rfl (by decide) (by decide) rfl) ?_
          refine Ops.go rfl (Loud.alloc zero202 rfl) ?_
          rintro _ _ ⟨b8, rfl, rfl⟩
          refine Ops.store (Stores.box 0 rfl rfl rfl size202 (allOne rfl) rfl rfl) ?_
          refine Ops.nil ?_
          refine Run.seq ?_
          refine Run.region ?_
          refine Ops.pure rfl (Pure.ldBA 3 rfl cell35 rfl rfl rfl) ?_
          refine Ops.pure rfl (Pure.fieldAddrB fld72_0 rfl) ?_
          refine Ops.pure rfl (Pure.ldB 2 rfl cell2 rfl rfl) ?_
          refine Ops.pure rfl (Pure.idxArr und202 size2 rfl rfl (by first | assumption | omega | (simp; omega)) (by first | assumption | omega | (simp; omega))) ?_
          refine Ops.pure rfl (Pure.ldB 0 rfl cell2 rfl rfl) ?_
          refine Ops.pure rfl (Pure.add rfl rfl (by omega) (by omega)) ?_
          refine Ops.pure rfl (Pure.fieldAddrB fld72_1 rfl) ?_
          refine Ops.pure rfl (Pure.ldB 2 rfl cell2 rfl rfl) ?_
          refine Ops.pure rfl (Pure.idxArr und202 size2 rfl rfl (by first | assumption | omega | (simp; omega)) (by first | assumption | omega | (simp; omega))) ?_
          refine Ops.pure rfl (Pure.ldB 0 rfl cell2 rfl rfl) ?_
          refine Ops.pure rfl (Pure.add rfl rfl (by omega) (by omega)) ?_
          refine Ops.pure rfl (Pure.build rfl (bld72_2 _ _ (by first | rfl | assumption) (by first | rfl | assumption))) ?_
          refine Ops.q rfl (QOp.call fn197 rfl (fun w hw => f_i_Panel_isPoint w _ _ _ _ _ (by assumption))) ?_
          refine Ops.nil ?_
          refine Run.cond rfl (fun c38 => ?_) (fun c38 => ?_)
          · skip
            replace c38 := dT c38
            refine Run.region ?_
            refine Ops.pure rfl (Pure.move rfl) ?_
            refine Ops.pure rfl (Pure.move rfl) ?_
            refine Ops.pure rfl (Pure.idxArr und202 size2 rfl rfl (by first | assumption | omega | (simp; omega)) (by first | assumption | omega | (simp; omega))) ?_
            refine Ops.pure rfl (Pure.ldB 0 rfl cell2 rfl rfl) ?_
            refine Ops.pure rfl (Pure.idxArr und202 size2 rfl rfl (by first | assumption | omega | (simp; omega)) (by first | assumption | omega | (simp; omega))) ?_
            refine Ops.pure rfl (Pure.ldB 0 rfl cell2 rfl rfl) ?_
            refine Ops.q rfl (QOp.callF fn221 rfl rfl rfl (fun w hw => f_i_Panel_pairsAt_1 w a b v x y _ _ b2 b3 (RdL.boxM 3 rfl rfl w hw) (RdL.boxM 2 rfl rfl w hw) hs (VW_mk.2 ⟨by decide, by decide, hpt, c38⟩))) ?_
            refine Ops.go rfl (Loud.lit sl32 rfl rfl rfl (by simp [Value.oneCell'])) ?_
            rintro v46 _ rfl
            refine Ops.go rfl (Loud.append 2 rfl sl32 rfl rfl (RdL.own 0 rfl) (by simp [Value.oneCell']) (by omega) (by omega)) ?_
            rintro v47 _ rfl
            refine Ops.pure rfl (Pure.assign rfl) ?_
            refine Ops.nil ?_
            refine Run.blk ?_
            refine Run.region ?_
            refine Ops.pure rfl (Pure.add rfl rfl (by omega) (by omega)) ?_
            refine Ops.pure rfl (Pure.move rfl) ?_
            refine Ops.nil ?_
            refine Run.asrt ?_
            first
              | (refine ⟨1, v47, ⟨by omega, by omega⟩, ⟨rfl, rfl, rfl, rfl, rfl, rfl, trivial⟩, ?_⟩
                 rw [show enTo a b x y 1 = enTo a b x y 0 ++ enS a b x y (-1) (-1) from rfl, enS_yes c38, ints_snoc, List.length_append]
                 exact Ext.take 2 rfl (Ext.take 2 rfl (Ext.take 2 rfl (Ext.nil _))))
              | (refine ⟨1, vs, ⟨by omega, by omega⟩, ⟨rfl, rfl, rfl, rfl, rfl, rfl, trivial⟩, ?_⟩
                 rw [show enTo a b x y 1 = enTo a b x y 0 ++ enS a b x y (-1) (-1) from rfl, enS_no c38, List.append_nil]
                 exact Ext.right [_] _)
              | (refine ⟨2, v47, ⟨by omega, by omega⟩, ⟨rfl, rfl, rfl, rfl, rfl, rfl, trivial⟩, ?_⟩
                 rw [show enTo a b x y 2 = enTo a b x y 1 ++ enS a b x y (-1) 1 from rfl, enS_yes c38, ints_snoc, List.length_append]
                 exact Ext.take 2 rfl (Ext.take 2 rfl (Ext.take 2 rfl (Ext.nil _))))
              | (refine ⟨2, vs, ⟨by omega, by omega⟩, ⟨rfl, rfl, rfl, rfl, rfl, rfl, trivial⟩, ?_⟩
                 rw [show enTo a b x y 2 = enTo a b x y 1 ++ enS a b x y (-1) 1 from rfl, enS_no c38, List.append_nil]
                 exact Ext.right [_] _)
              | (refine ⟨3, v47, ⟨by omega, by omega⟩, ⟨rfl, rfl, rfl, rfl, rfl, rfl, trivial⟩, ?_⟩
                 rw [show enTo a b x y 3 = enTo a b x y 2 ++ enS a b x y 1 (-1) from rfl, enS_yes c38, ints_snoc, List.length_append]
                 exact Ext.take 2 rfl (Ext.take 2 rfl (Ext.take 2 rfl (Ext.nil _))))
              | (refine ⟨3, vs, ⟨by omega, by omega⟩, ⟨rfl, rfl, rfl, rfl, rfl, rfl, trivial⟩, ?_⟩
                 rw [show enTo a b x y 3 = enTo a b x y 2 ++ enS a b x y 1 (-1) from rfl, enS_no c38, List.append_nil]
                 exact Ext.right [_] _)
              | (refine ⟨4, v47, ⟨by omega, by omega⟩, ⟨rfl, rfl, rfl, rfl, rfl, rfl, trivial⟩, ?_⟩
                 rw [show enTo a b x y 4 = enTo a b x y 3 ++ enS a b x y 1 1 from rfl, enS_yes c38, ints_snoc, List.length_append]
                 exact Ext.take 2 rfl (Ext.take 2 rfl (Ext.take 2 rfl (Ext.nil _))))
              | (refine ⟨4, vs, ⟨by omega, by omega⟩, ⟨rfl, rfl, rfl, rfl, rfl, rfl, trivial⟩, ?_⟩
                 rw [show enTo a b x y 4 = enTo a b x y 3 ++ enS a b x y 1 1 from rfl, enS_no c38, List.append_nil]
                 exact Ext.right [_] _)
          · skip
            replace c38 := dF c38
            refine Run.skip ?_
            refine Run.blk ?_
            refine Run.region ?_
            refine Ops.pure rfl (Pure.add rfl rfl (by omega) (by omega)) ?_
            refine Ops.pure rfl (Pure.move rfl) ?_
            refine Ops.nil ?_
            refine Run.asrt ?_
            first
              | (refine ⟨1, v47, ⟨by omega, by omega⟩, ⟨rfl, rfl, rfl, rfl, rfl, rfl, trivial⟩, ?_⟩
                 rw [show enTo a b x y 1 = enTo a b x y 0 ++ enS a b x y (-1) (-1) from rfl, enS_yes c38, ints_snoc, List.length_append]
                 exact Ext.take 2 rfl (Ext.take 2 rfl (Ext.take 2 rfl (Ext.nil _))))
              | (refine ⟨1, vs, ⟨by omega, by omega⟩, ⟨rfl, rfl, rfl, rfl, rfl, rfl, trivial⟩, ?_⟩
                 rw [show enTo a b x y 1 = enTo a b x y 0 ++ enS a b x y (-1) (-1) from rfl, enS_no c38, List.append_nil]
                 exact Ext.right [_] _)
              | (refine ⟨2, v47, ⟨by omega, by omega⟩, ⟨rfl, rfl, rfl, rfl, rfl, rfl, trivial⟩, ?_⟩
                 rw [show enTo a b x y 2 = enTo a b x y 1 ++ enS a b x y (-1) 1 from rfl, enS_yes c38, ints_snoc, List.length_append]
                 exact Ext.take 2 rfl (Ext.take 2 rfl (Ext.take 2 rfl (Ext.nil _))))
              | (refine ⟨2, vs, ⟨by omega, by omega⟩, ⟨rfl, rfl, rfl, rfl, rfl, rfl, trivial⟩, ?_⟩
                 rw [show enTo a b x y 2 = enTo a b x y 1 ++ enS a b x y (-1) 1 from rfl, enS_no c38, List.append_nil]
                 exact Ext.right [_] _)
              | (refine ⟨3, v47, ⟨by omega, by omega⟩, ⟨rfl, rfl, rfl, rfl, rfl, rfl, trivial⟩, ?_⟩
                 rw [show enTo a b x y 3 = enTo a b x y 2 ++ enS a b x y 1 (-1) from rfl, enS_yes c38, ints_snoc, List.length_append]
                 exact Ext.take 2 rfl (Ext.take 2 rfl (Ext.take 2 rfl (Ext.nil _))))
              | (refine ⟨3, vs, ⟨by omega, by omega⟩, ⟨rfl, rfl, rfl, rfl, rfl, rfl, trivial⟩, ?_⟩
                 rw [show enTo a b x y 3 = enTo a b x y 2 ++ enS a b x y 1 (-1) from rfl, enS_no c38, List.append_nil]
                 exact Ext.right [_] _)
              | (refine ⟨4, v47, ⟨by omega, by omega⟩, ⟨rfl, rfl, rfl, rfl, rfl, rfl, trivial⟩, ?_⟩
                 rw [show enTo a b x y 4 = enTo a b x y 3 ++ enS a b x y 1 1 from rfl, enS_yes c38, ints_snoc, List.length_append]
                 exact Ext.take 2 rfl (Ext.take 2 rfl (Ext.take 2 rfl (Ext.nil _))))
              | (refine ⟨4, vs, ⟨by omega, by omega⟩, ⟨rfl, rfl, rfl, rfl, rfl, rfl, trivial⟩, ?_⟩
                 rw [show enTo a b x y 4 = enTo a b x y 3 ++ enS a b x y 1 1 from rfl, enS_no c38, List.append_nil]
                 exact Ext.right [_] _)
        · skip
          refine Run.region ?_
          refine Ops.pure rfl (Pure.idxVA (m := 2) und217 cell202 rfl rfl (by decide) (by decide) rfl) ?_
          refine Ops.go rfl (Loud.alloc zero202 rfl) ?_
          rintro _ _ ⟨b8, rfl, rfl⟩
          refine Ops.store (Stores.box 0 rfl rfl rfl size202 (allOne rfl) rfl rfl) ?_
          refine Ops.nil ?_
          refine Run.seq ?_
          refine Run.region ?_
          refine Ops.pure rfl (Pure.ldBA 3 rfl cell35 rfl rfl rfl) ?_
          refine Ops.pure rfl (Pure.fieldAddrB fld72_0 rfl) ?_
          refine Ops.pure rfl (Pure.ldB 2 rfl cell2 rfl rfl) ?_
          refine Ops.pure rfl (Pure.idxArr und202 size2 rfl rfl (by first | assumption | omega | (simp; omega)) (by first | assumption | omega | (simp; omega))) ?_
          refine Ops.pure rfl (Pure.ldB 0 rfl cell2 rfl rfl) ?_
          refine Ops.pure rfl (Pure.add rfl rfl (by omega) (by omega)) ?_
          refine Ops.pure rfl (Pure.fieldAddrB fld72_1 rfl) ?_
          refine Ops.pure rfl (Pure.ldB 2 rfl cell2 rfl rfl) ?_
          refine Ops.pure rfl (Pure.idxArr und202 size2 rfl rfl (by first | assumption | omega | (simp; omega)) (by first | assumption | omega | (simp; omega))) ?_
          refine Ops.pure rfl (Pure.ldB 0 rfl cell2 rfl rfl) ?_
          refine Ops.pure rfl (Pure.add rfl rfl (by omega) (by omega)) ?_
          refine Ops.pure rfl (Pure.build rfl (bld72_2 _ _ (by first | rfl | assumption) (by first | rfl | assumption))) ?_
          refine Ops.q rfl (QOp.call fn197 rfl (fun w hw => f_i_Panel_isPoint w _ _ _ _ _ (by assumption))) ?_
          refine Ops.nil ?_
          refine Run.cond rfl (fun c38 => ?_) (fun c38 => ?_)
          · skip
            replace c38 := dT c38
            refine Run.region ?_
            refine Ops.pure rfl (Pure.move rfl) ?_
            refine Ops.pure rfl (Pure.move rfl) ?_
            refine Ops.pure rfl (Pure.idxArr und202 size2 rfl rfl (by first | assumption | omega | (simp; omega)) (by first | assumption | omega | (simp; omega))) ?_
            refine Ops.pure rfl (Pure.ldB 0 rfl cell2 rfl rfl) ?_
            refine Ops.pure rfl (Pure.idxArr und202 size2 rfl rfl (by first | assumption | omega | (simp; omega)) (by first | assumption | omega | (simp; omega))) ?_
            refine Ops.pure rfl (Pure.ldB 0 rfl cell2 rfl rfl) ?_
            refine Ops.q rfl (QOp.callF fn221 rfl rfl rfl (fun w hw => f_i_Panel_pairsAt_1 w a b v x y _ _ b2 b3 (RdL.boxM 3 rfl rfl w hw) (RdL.boxM 2 rfl rfl w hw) hs (VW_mk.2 ⟨by decide, by decide, hpt, c38⟩))) ?_
            refine Ops.go rfl (Loud.lit sl32 rfl rfl rfl (by simp [Value.oneCell'])) ?_
            rintro v46 _ rfl
            refine Ops.go rfl (Loud.append 2 rfl sl32 rfl rfl (RdL.own 0 rfl) (by simp [Value.oneCell']) (by omega) (by omega)) ?_
            rintro v47 _ rfl
            refine Ops.pure rfl (Pure.assign rfl) ?_
            refine Ops.nil ?_
            refine Run.blk ?_
            refine Run.region ?_
            refine Ops.pure rfl (Pure.add rfl rfl (by omega) (by omega)) ?_
            refine Ops.pure rfl (Pure.move rfl) ?_
            refine Ops.nil ?_
            refine Run.asrt ?_
            first
              | (refine ⟨1, v47, ⟨by omega, by omega⟩, ⟨rfl, rfl, rfl, rfl, rfl, rfl, trivial⟩, ?_⟩
                 rw [show enTo a b x y 1 = enTo a b x y 0 ++ enS a b x y (-1) (-1) from rfl, enS_yes c38, ints_snoc, List.length_append]
                 exact Ext.take 2 rfl (Ext.take 2 rfl (Ext.take 2 rfl (Ext.nil _))))
              | (refine ⟨1, vs, ⟨by omega, by omega⟩, ⟨rfl, rfl, rfl, rfl, rfl, rfl, trivial⟩, ?_⟩
                 rw [show enTo a b x y 1 = enTo a b x y 0 ++ enS a b x y (-1) (-1) from rfl, enS_no c38, List.append_nil]
                 exact Ext.right [_] _)
              | (refine ⟨2, v47, ⟨by omega, by omega⟩, ⟨rfl, rfl, rfl, rfl, rfl, rfl, trivial⟩, ?_⟩
                 rw [show enTo a b x y 2 = enTo a b x y 1 ++ enS a b x y (-1) 1 from rfl, enS_yes c38, ints_snoc, List.length_append]
                 exact Ext.take 2 rfl (Ext.take 2 rfl (Ext.take 2 rfl (Ext.nil _))))
              | (refine ⟨2, vs, ⟨by omega, by omega⟩, ⟨rfl, rfl, rfl, rfl, rfl, rfl, trivial⟩, ?_⟩
                 rw [show enTo a b x y 2 = enTo a b x y 1 ++ enS a b x y (-1) 1 from rfl, enS_no c38, List.append_nil]
                 exact Ext.right [_] _)
              | (refine ⟨3, v47, ⟨by omega, by omega⟩, ⟨rfl, rfl, rfl, rfl, rfl, rfl, trivial⟩, ?_⟩
                 rw [show enTo a b x y 3 = enTo a b x y 2 ++ enS a b x y 1 (-1) from rfl, enS_yes c38, ints_snoc, List.length_append]
                 exact Ext.take 2 rfl (Ext.take 2 rfl (Ext.take 2 rfl (Ext.nil _))))
              | (refine ⟨3, vs, ⟨by omega, by omega⟩, ⟨rfl, rfl, rfl, rfl, rfl, rfl, trivial⟩, ?_⟩
                 rw [show enTo a b x y 3 = enTo a b x y 2 ++ enS a b x y 1 (-1) from rfl, enS_no c38, List.append_nil]
                 exact Ext.right [_] _)
              | (refine ⟨4, v47, ⟨by omega, by omega⟩, ⟨rfl, rfl, rfl, rfl, rfl, rfl, trivial⟩, ?_⟩
                 rw [show enTo a b x y 4 = enTo a b x y 3 ++ enS a b x y 1 1 from rfl, enS_yes c38, ints_snoc, List.length_append]
                 exact Ext.take 2 rfl (Ext.take 2 rfl (Ext.take 2 rfl (Ext.nil _))))
              | (refine ⟨4, vs, ⟨by omega, by omega⟩, ⟨rfl, rfl, rfl, rfl, rfl, rfl, trivial⟩, ?_⟩
                 rw [show enTo a b x y 4 = enTo a b x y 3 ++ enS a b x y 1 1 from rfl, enS_no c38, List.append_nil]
                 exact Ext.right [_] _)
          · skip
            replace c38 := dF c38
            refine Run.skip ?_
            refine Run.blk ?_
            refine Run.region ?_
            refine Ops.pure rfl (Pure.add rfl rfl (by omega) (by omega)) ?_
            refine Ops.pure rfl (Pure.move rfl) ?_
            refine Ops.nil ?_
            refine Run.asrt ?_
            first
              | (refine ⟨1, v47, ⟨by omega, by omega⟩, ⟨rfl, rfl, rfl, rfl, rfl, rfl, trivial⟩, ?_⟩
                 rw [show enTo a b x y 1 = enTo a b x y 0 ++ enS a b x y (-1) (-1) from rfl, enS_yes c38, ints_snoc, List.length_append]
                 exact Ext.take 2 rfl (Ext.take 2 rfl (Ext.take 2 rfl (Ext.nil _))))
              | (refine ⟨1, vs, ⟨by omega, by omega⟩, ⟨rfl, rfl, rfl, rfl, rfl, rfl, trivial⟩, ?_⟩
                 rw [show enTo a b x y 1 = enTo a b x y 0 ++ enS a b x y (-1) (-1) from rfl, enS_no c38, List.append_nil]
                 exact Ext.right [_] _)
              | (refine ⟨2, v47, ⟨by omega, by omega⟩, ⟨rfl, rfl, rfl, rfl, rfl, rfl, trivial⟩, ?_⟩
                 rw [show enTo a b x y 2 = enTo a b x y 1 ++ enS a b x y (-1) 1 from rfl, enS_yes c38, ints_snoc, List.length_append]
                 exact Ext.take 2 rfl (Ext.take 2 rfl (Ext.take 2 rfl (Ext.nil _))))
              | (refine ⟨2, vs, ⟨by omega, by omega⟩, ⟨rfl, rfl, rfl, rfl, rfl, rfl, trivial⟩, ?_⟩
                 rw [show enTo a b x y 2 = enTo a b x y 1 ++ enS a b x y (-1) 1 from rfl, enS_no c38, List.append_nil]
                 exact Ext.right [_] _)
              | (refine ⟨3, v47, ⟨by omega, by omega⟩, ⟨rfl, rfl, rfl, rfl, rfl, rfl, trivial⟩, ?_⟩
                 rw [show enTo a b x y 3 = enTo a b x y 2 ++ enS a b x y 1 (-1) from rfl, enS_yes c38, ints_snoc, List.length_append]
                 exact Ext.take 2 rfl (Ext.take 2 rfl (Ext.take 2 rfl (Ext.nil _))))
              | (refine ⟨3, vs, ⟨by omega, by omega⟩, ⟨rfl, rfl, rfl, rfl, rfl, rfl, trivial⟩, ?_⟩
                 rw [show enTo a b x y 3 = enTo a b x y 2 ++ enS a b x y 1 (-1) from rfl, enS_no c38, List.append_nil]
                 exact Ext.right [_] _)
              | (refine ⟨4, v47, ⟨by omega, by omega⟩, ⟨rfl, rfl, rfl, rfl, rfl, rfl, trivial⟩, ?_⟩
                 rw [show enTo a b x y 4 = enTo a b x y 3 ++ enS a b x y 1 1 from rfl, enS_yes c38, ints_snoc, List.length_append]
                 exact Ext.take 2 rfl (Ext.take 2 rfl (Ext.take 2 rfl (Ext.nil _))))
              | (refine ⟨4, vs, ⟨by omega, by omega⟩, ⟨rfl, rfl, rfl, rfl, rfl, rfl, trivial⟩, ?_⟩
                 rw [show enTo a b x y 4 = enTo a b x y 3 ++ enS a b x y 1 1 from rfl, enS_no c38, List.append_nil]
                 exact Ext.right [_] _)
      · skip
        replace c24 := dF c24
        refine Run.exit rfl ?_
        refine Run.seq ?_
        have e : k = 4 := by omega
        subst e
        obtain ⟨hel, hep⟩ := enTo_end hs l hpt c16
        have hel2 : (ints (enTo a b x y 4)).length = 2 := by rw [ints, List.length_map]; exact hel
        refine Any.start follows ?_
        refine Any.take 0 rfl (by kernel_rfl) rfl (QOp.pure (Pure.move rfl)) ?_
        refine Any.take 1 rfl (by kernel_rfl) rfl (QOp.pure (Pure.idx1N sl32 (RdL.own 0 rfl) rfl rfl (by first | assumption | omega | (simp; omega)))) ?_
        refine Any.take 2 rfl (by kernel_rfl) rfl (QOp.pure (Pure.ld cell2 rfl (RdL.own 0 rfl) (ints_get (l := enTo a b x y 4) (k := 0) (by omega)))) ?_
        refine Any.take 3 rfl (by kernel_rfl) rfl (QOp.pure (Pure.move rfl)) ?_
        refine Any.take 4 rfl (by kernel_rfl) rfl (QOp.pure (Pure.idx1N sl32 (RdL.own 0 rfl) rfl rfl (by first | assumption | omega | (simp; omega)))) ?_
        refine Any.take 5 rfl (by kernel_rfl) rfl (QOp.pure (Pure.ld cell2 rfl (RdL.own 0 rfl) (ints_get (l := enTo a b x y 4) (k := 1) (by omega)))) ?_
        refine Any.take 6 rfl (by kernel_rfl) rfl (QOp.pure (Pure.build rfl (bldA2 _ _))) ?_
        refine Any.one 7 (by kernel_rfl) ?_
        refine OneL.loud rfl rfl (Loud.litA sl200 rfl rfl rfl) ?_
        rintro v56 _ rfl
        refine ⟨.inl (by kernel_rfl), ?_⟩
        refine Any.take 8 rfl (by kernel_rfl) rfl (QOp.pure (Pure.assign rfl)) ?_
        refine Any.done (by kernel_rfl) ?_
        refine Run.ext_ (Ext.take 0 rfl (Ext.nil _)) ?_
        refine Run.ret1 rfl rfl ?_
        rw [hep]
        rfl
  · skip
    replace c16 := dF c16
    refine Run.skip ?_
    refine Run.seq ?_
    obtain ⟨hkd, hp1, hp2, hp0⟩ := prs_in (l := l) c16
    have hnb := num_bd hs hpt c16
    refine Run.region ?_
    refine Ops.pure rfl (Pure.move rfl) ?_
    refine Ops.q rfl (QOp.callF fn221 rfl rfl rfl (fun w hw => f_i_Panel_pairsAt_1 w a b v x y (-1) (-1) b2 b3 (RdL.boxM 1 rfl rfl w hw) (RdL.boxM 0 rfl rfl w hw) hs (around_VW hpt c16 (by decide) (by decide)))) ?_
    refine Ops.pure rfl (Pure.move rfl) ?_
    refine Ops.q rfl (QOp.callF fn221 rfl rfl rfl (fun w hw => f_i_Panel_pairsAt_1 w a b v x y (-1) 1 b2 b3 (RdL.boxM 1 rfl rfl w hw) (RdL.boxM 0 rfl rfl w hw) hs (around_VW hpt c16 (by decide) (by decide)))) ?_
    refine Ops.pure rfl (Pure.move rfl) ?_
    refine Ops.q rfl (QOp.callF fn221 rfl rfl rfl (fun w hw => f_i_Panel_pairsAt_1 w a b v x y 1 (-1) b2 b3 (RdL.boxM 1 rfl rfl w hw) (RdL.boxM 0 rfl rfl w hw) hs (around_VW hpt c16 (by decide) (by decide)))) ?_
    refine Ops.pure rfl (Pure.move rfl) ?_
    refine Ops.q rfl (QOp.callF fn221 rfl rfl rfl (fun w hw => f_i_Panel_pairsAt_1 w a b v x y 1 1 b2 b3 (RdL.boxM 1 rfl rfl w hw) (RdL.boxM 0 rfl rfl w hw) hs (around_VW hpt c16 (by decide) (by decide)))) ?_
    refine Ops.pure rfl (Pure.assign rfl) ?_
    refine Ops.pure rfl (Pure.assign rfl) ?_
    refine Ops.pure rfl (Pure.assign rfl) ?_
    refine Ops.pure rfl (Pure.assign rfl) ?_
    refine Ops.nil ?_
    refine Run.seq ?_
    refine Run.seq ?_
    refine Any.start follows ?_
    refine Any.take 0 rfl (by kernel_rfl) rfl (QOp.pure (Pure.fieldAddrB fld35_2 rfl)) ?_
    refine Any.take 1 rfl (by kernel_rfl) rfl (QOp.pure (Pure.ldB 1 rfl cell32 rfl rfl)) ?_
    refine Any.take 2 rfl (by kernel_rfl) rfl (QOp.pure (Pure.ldBA 1 rfl cell35 rfl rfl rfl)) ?_
    refine Any.take 3 rfl (by kernel_rfl) rfl (QOp.pure (Pure.ldBA 0 rfl cell72 rfl rfl rfl)) ?_
    refine Any.take 4 rfl (by kernel_rfl) rfl (QOp.call fn141 rfl (fun w hw => f_i_Panel_number w a b v x y hs hpt c16)) ?_
    refine Any.take 5 rfl (by kernel_rfl) rfl (QOp.pure (Pure.idx1 sl32 (RdL.old hv) rfl rfl (by first | assumption | omega | (simp; omega)) (by first | assumption | omega | (simp; omega)))) ?_
    refine Any.take 6 rfl (by kernel_rfl) rfl (QOp.pure (Pure.ld cell2 rfl (RdL.old hv) (by first | exact ints_get (by omega) | exact bools_get (by omega) | exact strs_get (by omega) | exact vals_get (by first | omega | (simp; omega))))) ?_
    refine Any.done (by kernel_rfl) ?_
    refine Run.block ?_
    refine Run.seq ?_
    refine Run.region ?_
    refine Ops.pure rfl (Pure.eql rfl rfl) ?_
    refine Ops.pure rfl (Pure.assign rfl) ?_
    refine Ops.nil ?_
    refine Run.cond rfl (fun c72 => ?_) (fun c72 => ?_)
    · skip
      replace c72 := dT c72
      refine Run.seq ?_
      refine Run.region ?_
      refine Ops.pure rfl (Pure.move rfl) ?_
      refine Ops.pure rfl (Pure.move rfl) ?_
      refine Ops.pure rfl (Pure.build rfl (bldA2 _ _)) ?_
      refine Ops.pure rfl (Pure.move rfl) ?_
      refine Ops.pure rfl (Pure.move rfl) ?_
      refine Ops.pure rfl (Pure.build rfl (bldA2 _ _)) ?_
      refine Ops.go rfl (Loud.litA2 sl200 rfl rfl rfl rfl rfl) ?_
      rintro v80 _ rfl
      refine Ops.pure rfl (Pure.assign rfl) ?_
      refine Ops.nil ?_
      refine Run.ext_ (Ext.take 0 rfl (Ext.nil _)) ?_
      refine Run.ret1 rfl rfl ?_
      rw [hp1 (by rw [hkd]; exact c72)]
      rfl
    · skip
      replace c72 := dF c72
      refine Run.seq ?_
      refine Run.region ?_
      refine Ops.pure rfl (Pure.eql rfl rfl) ?_
      refine Ops.pure rfl (Pure.assign rfl) ?_
      refine Ops.nil ?_
      refine Run.cond rfl (fun c81 => ?_) (fun c81 => ?_)
      · skip
        replace c81 := dT c81
        refine Run.seq ?_
        refine Run.region ?_
        refine Ops.pure rfl (Pure.move rfl) ?_
        refine Ops.pure rfl (Pure.move rfl) ?_
        refine Ops.pure rfl (Pure.build rfl (bldA2 _ _)) ?_
        refine Ops.pure rfl (Pure.move rfl) ?_
        refine Ops.pure rfl (Pure.move rfl) ?_
        refine Ops.pure rfl (Pure.build rfl (bldA2 _ _)) ?_
        refine Ops.go rfl (Loud.litA2 sl200 rfl rfl rfl rfl rfl) ?_
        rintro v89 _ rfl
        refine Ops.pure rfl (Pure.assign rfl) ?_
        refine Ops.nil ?_
        refine Run.ext_ (Ext.take 0 rfl (Ext.nil _)) ?_
        refine Run.ret1 rfl rfl ?_
        rw [hp2 (by rw [hkd]; exact c81)]
        rfl
      · skip
        replace c81 := dF c81
        refine Run.skip ?_
        refine Run.blk ?_
        refine Run.seq ?_
        refine Run.region ?_
        refine Ops.pure rfl (Pure.move rfl) ?_
        refine Ops.pure rfl (Pure.move rfl) ?_
        refine Ops.pure rfl (Pure.build rfl (bldA2 _ _)) ?_
        refine Ops.pure rfl (Pure.move rfl) ?_
        refine Ops.pure rfl (Pure.move rfl) ?_
        refine Ops.pure rfl (Pure.build rfl (bldA2 _ _)) ?_
        refine Ops.go rfl (Loud.litA2 sl200 rfl rfl rfl rfl rfl) ?_
        rintro v96 _ rfl
        refine Ops.pure rfl (Pure.assign rfl) ?_
        refine Ops.nil ?_
        refine Run.ext_ (Ext.take 0 rfl (Ext.nil _)) ?_
        refine Run.ret1 rfl rfl ?_
        rw [hp0 (by rw [hkd]; exact c72) (by rw [hkd]; exact c81)]
        rfl

set_option maxRecDepth 4000 in
/-- (impl.Panel).allPoints -/
theorem f_i_Panel_allPoints (w : World) (a : Int) (b : Int) (v : Value) (hs : SizeOk a b) : Ret Try.prog 202 [.agg #[.int .i64 a, .int .i64 b, v]] w (fun u L => L = [.row 72 2 u (ptL a b).length ((ptL a b).flatMap encQ)]) := by
  obtain ⟨hs1, hs2, hs3, hs4⟩ := id hs
  refine Ret.enter Try.func202 rfl Try.ntmps202 rfl ?_
  refine Run.seq ?_
  refine Run.region ?_
  refine Ops.go rfl (Loud.box rfl rfl) ?_
  rintro _ _ ⟨b1, rfl, rfl⟩
  refine Ops.pure rfl (Pure.assign rfl) ?_
  refine Ops.nil ?_
  refine Run.seq ?_
  refine Run.region ?_
  refine Ops.go rfl (Loud.lit0 sl134) ?_
  rintro v6 _ rfl
  refine Ops.pure rfl (Pure.assign rfl) ?_
  refine Ops.nil ?_
  refine Run.seq ?_
  refine Run.seq ?_
  refine Run.region ?_
  refine Ops.pure rfl (Pure.fieldAddrB fld35_1 rfl) ?_
  refine Ops.pure rfl (Pure.ldB 1 rfl cell2 rfl rfl) ?_
  refine Ops.pure rfl (Pure.mul rfl rfl (by omega) (by omega)) ?_
  refine Ops.pure rfl (Pure.add rfl rfl (by omega) (by omega)) ?_
  refine Ops.pure rfl (Pure.move rfl) ?_
  refine Ops.nil ?_
  refine Run.block ?_
  refine Run.loop2 (X := Nat) (Y := Value) (fun j vo => [(1, .pointer (some ⟨b1, 0, none⟩)), (3, vo), (10, .int .i64 (2 * b + 1)), (11, .int .i64 j)]) (fun j vo => [.row 72 2 vo (ptA (2 * a + 1).toNat j).length ((ptA (2 * a + 1).toNat j).flatMap encQ), .box b1 35 [.int .i64 a, .int .i64 b, v]]) (fun j vo => j ≤ (2 * b + 1).toNat) (fun j vo => (2 * b + 1).toNat - j) 0 v6 ?_ ?_ ?_ ?_
  · exact Nat.zero_le _
  · exact ⟨rfl, rfl, rfl, rfl, trivial⟩
  · exact Ext.refl _
  · intro j vo hinv0
    have hpj := length_ptA (2 * a + 1).toNat j
    have hjm : j * (2 * a + 1).toNat ≤ 17 * 17 := Nat.mul_le_mul (by omega) (by omega)
    refine Run.seq ?_
    refine Run.region ?_
    refine Ops.pure rfl (Pure.lss rfl rfl) ?_
    refine Ops.nil ?_
    refine Run.seq ?_
    refine Run.cond rfl (fun c12 => ?_) (fun c12 => ?_)
    · skip
      replace c12 := dT c12
      refine Run.skip ?_
      refine Run.seq ?_
      refine Run.block ?_
      refine Run.seq ?_
      refine Run.region ?_
      refine Ops.pure rfl (Pure.move rfl) ?_
      refine Ops.pure rfl (Pure.assign rfl) ?_
      refine Ops.nil ?_
      refine Run.seq ?_
      refine Run.region ?_
      refine Ops.pure rfl (Pure.fieldAddrB fld35_0 rfl) ?_
      refine Ops.pure rfl (Pure.ldB 1 rfl cell2 rfl rfl) ?_
      refine Ops.pure rfl (Pure.mul rfl rfl (by omega) (by omega)) ?_
      refine Ops.pure rfl (Pure.add rfl rfl (by omega) (by omega)) ?_
      refine Ops.pure rfl (Pure.move rfl) ?_
      refine Ops.nil ?_
      refine Run.block ?_
      refine Run.loop2 (X := Nat) (Y := Value) (fun k vo => [(1, .pointer (some ⟨b1, 0, none⟩)), (3, vo), (4, .int .i64 j), (10, .int .i64 (2 * b + 1)), (11, .int .i64 j), (17, .int .i64 (2 * a + 1)), (18, .int .i64 k)]) (fun k vo => [.row 72 2 vo (ptA (2 * a + 1).toNat j ++ rowPt j k).length ((ptA (2 * a + 1).toNat j ++ rowPt j k).flatMap encQ), .box b1 35 [.int .i64 a, .int .i64 b, v]]) (fun k vo => k ≤ (2 * a + 1).toNat) (fun k vo => (2 * a + 1).toNat - k) 0 vo ?_ ?_ ?_ ?_
      · exact Nat.zero_le _
      · exact ⟨rfl, rfl, rfl, rfl, rfl, rfl, rfl, trivial⟩
      · exact Ext.eq (by rw [show rowPt j 0 = [] from rfl, List.append_nil])
      · intro k vo hinv1
        have hrk := length_rowPt j k
        have hla : (ptA (2 * a + 1).toNat j ++ rowPt j k).length = (ptA (2 * a + 1).toNat j).length + (rowPt j k).length := List.length_append
        refine Run.seq ?_
        refine Run.region ?_
        refine Ops.pure rfl (Pure.lss rfl rfl) ?_
        refine Ops.nil ?_
        refine Run.seq ?_
        refine Run.cond rfl (fun c19 => ?_) (fun c19 => ?_)
        · skip
          replace c19 := dT c19
          refine Run.skip ?_
          refine Run.seq ?_
          refine Run.block ?_
          refine Run.seq ?_
          refine Run.region ?_
          refine Ops.pure rfl (Pure.move rfl) ?_
          refine Ops.pure rfl (Pure.assign rfl) ?_
          refine Ops.nil ?_
          refine Run.seq ?_
          refine Run.region ?_
          refine Ops.pure rfl (Pure.move rfl) ?_
          refine Ops.pure rfl (Pure.move rfl) ?_
          refine Ops.pure rfl (Pure.add rfl rfl (by omega) (by omega)) ?_
          refine Ops.pure rfl (Pure.remN (n := 2) rfl rfl (by omega)) ?_
          refine Ops.pure rfl (Pure.eql rfl rfl) ?_
          refine Ops.nil ?_
          refine Run.cond rfl (fun c25 => ?_) (fun c25 => ?_)
          · skip
            replace c25 := dT c25
            refine Run.region ?_
            refine Ops.pure rfl (Pure.move rfl) ?_
            refine Ops.pure rfl (Pure.move rfl) ?_
            refine Ops.pure rfl (Pure.move rfl) ?_
            refine Ops.pure rfl (Pure.build rfl (bld72_2 _ _ (by first | rfl | assumption) (by first | rfl | assumption))) ?_
            refine Ops.go rfl (Loud.litA sl134 rfl rfl rfl) ?_
            rintro v30 _ rfl
            refine Ops.go rfl (Loud.append 1 rfl sl134 rfl rfl (RdL.own 0 rfl) (by simp [Value.oneCell']) (by omega) (by omega)) ?_
            rintro v31 _ rfl
            refine Ops.pure rfl (Pure.assign rfl) ?_
            refine Ops.nil ?_
            refine Run.blk ?_
            refine Run.region ?_
            refine Ops.pure rfl (Pure.add rfl rfl (by omega) (by omega)) ?_
            refine Ops.pure rfl (Pure.move rfl) ?_
            refine Ops.nil ?_
            refine Run.asrt ?_
            first
              | (refine ⟨k + 1, v31, ⟨by omega, by omega⟩, ⟨rfl, rfl, rfl, rfl, rfl, rfl, rfl, trivial⟩, ?_⟩
                 rw [rowPt_yes (by omega), ← List.append_assoc, flat_snoc, len_snoc]
                 exact Ext.take 1 rfl (Ext.take 1 rfl (Ext.nil _)))
              | (refine ⟨k + 1, vo, ⟨by omega, by omega⟩, ⟨rfl, rfl, rfl, rfl, rfl, rfl, rfl, trivial⟩, ?_⟩
                 rw [rowPt_no (by omega)]
                 exact Ext.refl _)
          · skip
            replace c25 := dF c25
            refine Run.skip ?_
            refine Run.blk ?_
            refine Run.region ?_
            refine Ops.pure rfl (Pure.add rfl rfl (by omega) (by omega)) ?_
            refine Ops.pure rfl (Pure.move rfl) ?_
            refine Ops.nil ?_
            refine Run.asrt ?_
            first
              | (refine ⟨k + 1, v31, ⟨by omega, by omega⟩, ⟨rfl, rfl, rfl, rfl, rfl, rfl, rfl, trivial⟩, ?_⟩
                 rw [rowPt_yes (by omega), ← List.append_assoc, flat_snoc, len_snoc]
                 exact Ext.take 1 rfl (Ext.take 1 rfl (Ext.nil _)))
              | (refine ⟨k + 1, vo, ⟨by omega, by omega⟩, ⟨rfl, rfl, rfl, rfl, rfl, rfl, rfl, trivial⟩, ?_⟩
                 rw [rowPt_no (by omega)]
                 exact Ext.refl _)
        · skip
          replace c19 := dF c19
          refine Run.exit rfl ?_
          refine Run.blk ?_
          refine Run.region ?_
          refine Ops.pure rfl (Pure.add rfl rfl (by omega) (by omega)) ?_
          refine Ops.pure rfl (Pure.move rfl) ?_
          refine Ops.nil ?_
          refine Run.asrt ?_
          refine ⟨j + 1, vo, ⟨by omega, by omega⟩, ⟨rfl, rfl, rfl, rfl, trivial⟩, ?_⟩
          rw [ptA_succ, show (2 * a + 1).toNat = k by omega]
          exact Ext.refl _
    · skip
      replace c12 := dF c12
      refine Run.exit rfl ?_
      refine Run.seq ?_
      refine Run.region ?_
      refine Ops.pure rfl (Pure.move rfl) ?_
      refine Ops.pure rfl (Pure.assign rfl) ?_
      refine Ops.nil ?_
      have e : j = (2 * b + 1).toNat := by omega
      subst e
      refine Run.ext_ (Ext.take 0 rfl (Ext.nil _)) ?_
      refine Run.ret1 rfl rfl ?_
      rfl

theorem inner_snoc2 {us : List Value} {ls : List (List Int)} {u : Value} {c : List Int} (h : us.length = ls.length) : inner (us ++ [u]) (ls ++ [c]) = inner us ls ++ [.row 2 1 u c.length (ints c)] := by
  unfold inner
  rw [List.zipWith_append h]
  rfl
theorem inner_get {us : List Value} {ls : List (List Int)} (h : us.length = ls.length) {i : Nat} (hi : i < ls.length) : (inner us ls)[i]? = some (.row 2 1 (us.getD i undef) (ls.getD i []).length (ints (ls.getD i []))) := by
  simp [inner, List.getElem?_zipWith, List.getD, List.getElem?_eq_getElem hi, List.getElem?_eq_getElem (show i < us.length by omega)]
theorem inner_map : ∀ (us : List Value) (ls : List (List Int)), inner us ls = (us.zip ls).map fun p => .row 2 1 p.1 p.2.length (ints p.2)
  | [], _ => rfl
  | _ :: _, [] => rfl
  | u :: us, c :: ls => by
    have ih := inner_map us ls
    unfold inner at *
    rw [List.zipWith_cons_cons, ih]
    rfl
theorem inner_perm {us us' : List Value} {ls ls' : List (List Int)} (h : (us'.zip ls').Perm (us.zip ls)) : (inner us' ls').Perm (inner us ls) := by
  rw [inner_map, inner_map]
  exact h.map _
theorem perm_snd {us us' : List Value} {ls ls' : List (List Int)} (h : (us'.zip ls').Perm (us.zip ls)) (h1 : us'.length = ls'.length) (h2 : us.length = ls.length) : ls'.Perm ls := by
  have h3 := h.map Prod.snd
  rw [List.map_snd_zip (by omega), List.map_snd_zip (by omega)] at h3
  exact h3
theorem prA_len (a b : Int) (l : List Int) : ∀ k, (prA a b l k).length ≤ 2 * k
  | 0 => by simp [prA]
  | k + 1 => by
    have ih := prA_len a b l k
    rcases Nat.lt_or_ge k (ptL a b).length with h | h
    · rw [prA_succ h, List.length_append, List.length_map]
      have := (prs_len a b l ((ptL a b).getD k (0, 0)).1 ((ptL a b).getD k (0, 0)).2).2
      omega
    · have e : prA a b l (k + 1) = prA a b l k := by
        unfold prA
        rw [List.take_of_length_le (by omega), List.take_of_length_le (by omega)]
      rw [e]
      omega
theorem ptL_len {a b : Int} (hs : SizeOk a b) : 1 ≤ (ptL a b).length ∧ (ptL a b).length ≤ 289 := by
  obtain ⟨s1, s2, s3, s4⟩ := id hs
  constructor
  · have h : ((0 : Int), (1 : Int)) ∈ ptL a b := (ptL_mem hs).2 (by unfold PtOk; omega)
    exact List.length_pos_of_mem h
  · have h1 := length_ptA (2 * a + 1).toNat (2 * b + 1).toNat
    have h2 : (2 * b + 1).toNat * (2 * a + 1).toNat ≤ 17 * 17 := Nat.mul_le_mul (by omega) (by omega)
    unfold ptL
    omega
theorem prL_len {a b : Int} (hs : SizeOk a b) (l : List Int) : ∃ n, (prL a b l).length = n + 1 ∧ n ≤ 1000 := by
  have h1 := ptL_len hs
  have h2 := prA_len a b l (ptL a b).length
  obtain ⟨q, hq⟩ := List.exists_mem_of_length_pos (show 0 < (ptL a b).length by omega)
  have h3 := (prs_len a b l q.1 q.2).1
  obtain ⟨p, hp⟩ := List.exists_mem_of_length_pos (show 0 < (prs a b l q.1 q.2).length by omega)
  have h4 : 0 < (prL a b l).length := List.length_pos_of_mem (prL_mem.2 ⟨q, p, hq, hp, rfl⟩)
  unfold prL at *
  exact ⟨(prA a b l (ptL a b).length).length - 1, by omega, by omega⟩
theorem prL_two {a b : Int} {l : List Int} {c : List Int} (h : c ∈ prL a b l) : c.length = 2 := by
  obtain ⟨q, p, _, _, rfl⟩ := prL_mem.1 h
  rfl
theorem prL_lt {a b : Int} {l : List Int} (hs : SizeOk a b) {c : List Int} (h : c ∈ prL a b l) : (toP c).1 < segN a b ∧ (toP c).2 < segN a b ∧ c.getD 0 0 = (toP c).1 ∧ c.getD 1 0 = (toP c).2 := by
  obtain ⟨q, p, hq, hp, rfl⟩ := prL_mem.1 h
  obtain ⟨w, w1, _, _, w4, w5⟩ := prs_come hs l ((ptL_mem hs).1 hq) hp
  have g1 := sg_bd w1
  have g2 := sg_bd (VW_stp (l := l) hs.1 hs.2.2.1 w1)
  have g3 := segN_pos hs.1 hs.2.2.1
  have e1 : (toP (prO p)).1 = (min p.1 p.2).toNat := rfl
  have e2 : (toP (prO p)).2 = (max p.1 p.2).toNat := rfl
  have e3 : (prO p).getD 0 0 = min p.1 p.2 := rfl
  have e4 : (prO p).getD 1 0 = max p.1 p.2 := rfl
  rw [e1, e2, e3, e4]
  omega
theorem jnA_UF {N : Nat} {L : List (Nat × Nat)} (h : ∀ p, p ∈ L → p.1 < N ∧ p.2 < N) : UF N (jnA L (ups N, [])).1 (jnA L (ups N, [])).2 :=
  (jnA_spec (fun _ => 0) L (ups N) [] (UF.zero N) (fun p hp => ⟨(h p hp).1, (h p hp).2, rfl⟩) (fun _ _ => rfl)).1
/-- the state once the first k pairs are joined -/
def jnK (N : Nat) (ls : List (List Int)) (k : Nat) : List Int × List Int := jnA ((ls.take k).map toP) (ups N, [])
theorem jnK_succ {N : Nat} {ls : List (List Int)} {k : Nat} (h : k < ls.length) : jnK N ls (k + 1) = (jn1 (jnK N ls k).1 (toP (ls.getD k [])).1 (toP (ls.getD k [])).2, jn2 (jnK N ls k).1 (jnK N ls k).2 (toP (ls.getD k [])).1 (toP (ls.getD k [])).2) := by
  unfold jnK
  rw [List.take_add_one, getD_some h [], Option.toList_some, List.map_append]
  exact jnA_snoc _ _ _
theorem take_map_snoc {L : List (Int × Int)} {j : Nat} (h : j < L.length) (A : List (List Int)) : A ++ (L.take (j + 1)).map prO = (A ++ (L.take j).map prO) ++ [prO (L.getD j (0, 0))] := by
  rw [List.take_add_one, getD_some h (0, 0), Option.toList_some, List.map_append, ← List.append_assoc]
  rfl

set_option maxRecDepth 4000 in
/-- (impl.Panel).pairs -/
theorem f_i_Panel_pairs (w : World) (a : Int) (b : Int) (v : Value) (l : List Int) (hv : Rd w v 1 l.length (ints l)) (hk : okP a b l = true) : Ret Try.prog 155 [.agg #[.int .i64 a, .int .i64 b, v]] w (fun u L => ∃ us ls, us.length = ls.length ∧ (∀ c, c ∈ ls ↔ c ∈ prL a b l) ∧ ls.length ≤ 1001 ∧ L = ssE u us ls) := by
  have hs := okP_size hk
  obtain ⟨hs1, hs2, hs3, hs4⟩ := id hs
  have hsl := segN_le hs
  have hptl := ptL_len hs
  refine Ret.enter Try.func155 rfl Try.ntmps155 rfl ?_
  refine Run.seq ?_
  refine Run.region ?_
  refine Ops.go rfl (Loud.box rfl rfl) ?_
  rintro _ _ ⟨b1, rfl, rfl⟩
  refine Ops.pure rfl (Pure.assign rfl) ?_
  refine Ops.nil ?_
  refine Run.seq ?_
  refine Run.region ?_
  refine Ops.go rfl (Loud.lit sl24 rfl rfl rfl (by simp [Value.oneCell'])) ?_
  rintro v8 _ rfl
  refine Ops.pure rfl (Pure.assign rfl) ?_
  refine Ops.nil ?_
  refine Run.seq ?_
  refine Run.seq ?_
  refine Run.region ?_
  refine Ops.pure rfl (Pure.ldBA 1 rfl cell35 rfl rfl rfl) ?_
  refine Ops.go rfl (Loud.callR fn202 rfl (fun w hw => f_i_Panel_allPoints w a b v hs)) ?_
  rintro v10 _ ⟨L10, hQ10, rfl⟩
  subst hQ10
  refine Ops.pure rfl (Pure.len sl134 (RdL.own 0 rfl) rfl) ?_
  refine Ops.pure rfl (Pure.move rfl) ?_
  refine Ops.nil ?_
  refine Run.block ?_
  refine Run.loop3 (X := Nat) (Y := Value) (Z := List Value) (fun k vo us => [(1, .pointer (some ⟨b1, 0, none⟩)), (3, vo), (10, v10), (11, .int .i64 (ptL a b).length), (12, .int .i64 k)]) (fun k vo us => .row 32 1 vo (prA a b l k).length us :: .row 72 2 v10 (ptL a b).length ((ptL a b).flatMap encQ) :: .box b1 35 [.int .i64 a, .int .i64 b, v] :: inner us (prA a b l k)) (fun k vo us => k ≤ (ptL a b).length ∧ us.length = (prA a b l k).length) (fun k vo us => (ptL a b).length - k) 0 v8 [] ?_ ?_ ?_ ?_
  · exact ⟨Nat.zero_le _, rfl⟩
  · exact ⟨rfl, rfl, rfl, rfl, rfl, trivial⟩
  · exact Ext.take 1 rfl (Ext.take 0 rfl (Ext.refl _))
  · intro k vo us hinv0
    obtain ⟨hk1, hul⟩ := hinv0
    have hpl := prA_len a b l k
    refine Run.seq ?_
    refine Run.region ?_
    refine Ops.pure rfl (Pure.lss rfl rfl) ?_
    refine Ops.nil ?_
    refine Run.seq ?_
    refine Run.cond rfl (fun c13 => ?_) (fun c13 => ?_)
    · skip
      replace c13 := dT c13
      refine Run.skip ?_
      refine Run.seq ?_
      refine Run.block ?_
      refine Run.seq ?_
      refine Run.region ?_
      refine Ops.pure rfl (Pure.idxN sl134 (RdL.own 1 rfl) rfl rfl (by first | assumption | omega | (simp; omega))) ?_
      refine Ops.pure rfl (Pure.ldA cell72 rfl (RdL.own 1 rfl) (seg_get encQ_len (by omega) (0, 0)) rfl (by decide)) ?_
      refine Ops.go rfl (Loud.alloc zero72 rfl) ?_
      rintro _ _ ⟨b5, rfl, rfl⟩
      refine Ops.store (Stores.box 0 rfl rfl rfl size72 (allOne rfl) rfl rfl) ?_
      refine Ops.nil ?_
      refine Run.seq ?_
      have hq := (ptL_mem hs).1 (show (ptL a b).getD k (0, 0) ∈ ptL a b from by rw [List.getD_eq_getElem?_getD, List.getElem?_eq_getElem (show k < (ptL a b).length by omega)]; exact List.getElem_mem _)
      refine Run.ext_ (L' := .box b5 72 [.int .i64 ((ptL a b).getD k (0, 0)).1, .int .i64 ((ptL a b).getD k (0, 0)).2] :: .row 32 1 vo (prA a b l k).length us :: .row 72 2 v10 (ptL a b).length ((ptL a b).flatMap encQ) :: .box b1 35 [.int .i64 a, .int .i64 b, v] :: inner us (prA a b l k)) (Ext.eq rfl) ?_
      refine Run.region ?_
      refine Ops.pure rfl (Pure.ldBA 3 rfl cell35 rfl rfl rfl) ?_
      refine Ops.pure rfl (Pure.ldBA 0 rfl cell72 rfl rfl rfl) ?_
      refine Ops.go rfl (Loud.callR fn203 rfl (fun w hw => f_i_Panel_pairsAt w a b v l ((ptL a b).getD k (0, 0)).1 ((ptL a b).getD k (0, 0)).2 (RdL.old hv w hw) hk hq)) ?_
      rintro v18 _ ⟨L18, hQ18, rfl⟩
      subst hQ18
      refine Ops.pure rfl (Pure.len sl200 (RdL.own 0 rfl) rfl) ?_
      refine Ops.pure rfl (Pure.move rfl) ?_
      refine Ops.nil ?_
      refine Run.block ?_
      refine Run.loop3 (X := Nat) (Y := Value) (Z := List Value) (fun j vo us => [(1, .pointer (some ⟨b1, 0, none⟩)), (3, vo), (10, v10), (11, .int .i64 (ptL a b).length), (12, .int .i64 k), (18, v18), (19, .int .i64 (prs a b l ((ptL a b).getD k (0, 0)).1 ((ptL a b).getD k (0, 0)).2).length), (20, .int .i64 j)]) (fun j vo us => .row 32 1 vo ((prA a b l k ++ ((prs a b l ((ptL a b).getD k (0, 0)).1 ((ptL a b).getD k (0, 0)).2).take j).map prO)).length us :: .row 202 2 v18 (prs a b l ((ptL a b).getD k (0, 0)).1 ((ptL a b).getD k (0, 0)).2).length ((prs a b l ((ptL a b).getD k (0, 0)).1 ((ptL a b).getD k (0, 0)).2).flatMap encQ) :: .row 72 2 v10 (ptL a b).length ((ptL a b).flatMap encQ) :: .box b1 35 [.int .i64 a, .int .i64 b, v] :: inner us (prA a b l k ++ ((prs a b l ((ptL a b).getD k (0, 0)).1 ((ptL a b).getD k (0, 0)).2).take j).map prO)) (fun j vo us => j ≤ (prs a b l ((ptL a b).getD k (0, 0)).1 ((ptL a b).getD k (0, 0)).2).length ∧ us.length = (prA a b l k ++ ((prs a b l ((ptL a b).getD k (0, 0)).1 ((ptL a b).getD k (0, 0)).2).take j).map prO).length) (fun j vo us => (prs a b l ((ptL a b).getD k (0, 0)).1 ((ptL a b).getD k (0, 0)).2).length - j) 0 vo us ?_ ?_ ?_ ?_
      · exact ⟨Nat.zero_le _, by rw [List.take_zero, List.map_nil, List.append_nil]; exact hul⟩
      · exact ⟨rfl, rfl, rfl, rfl, rfl, rfl, rfl, rfl, trivial⟩
      · rw [List.take_zero, List.map_nil, List.append_nil]
        exact Ext.take 2 rfl (Ext.take 0 rfl (Ext.take 1 rfl (Ext.take 1 rfl (Ext.right [_] _))))
      · intro j vo us hinv1
        obtain ⟨hj1, hul2⟩ := hinv1
        have hla : (prA a b l k ++ ((prs a b l ((ptL a b).getD k (0, 0)).1 ((ptL a b).getD k (0, 0)).2).take j).map prO).length ≤ (prA a b l k).length + 2 := by
          rw [List.length_append, List.length_map, List.length_take]
          have := (prs_len a b l ((ptL a b).getD k (0, 0)).1 ((ptL a b).getD k (0, 0)).2).2
          omega
        have hpr2 := (prs_len a b l ((ptL a b).getD k (0, 0)).1 ((ptL a b).getD k (0, 0)).2).2
        refine Run.seq ?_
        refine Run.region ?_
        refine Ops.pure rfl (Pure.lss rfl rfl) ?_
        refine Ops.nil ?_
        refine Run.seq ?_
        refine Run.cond rfl (fun c21 => ?_) (fun c21 => ?_)
        · skip
          replace c21 := dT c21
          refine Run.skip ?_
          refine Run.seq ?_
          refine Run.block ?_
          refine Run.seq ?_
          refine Run.region ?_
          refine Ops.pure rfl (Pure.idxN sl200 (RdL.own 1 rfl) rfl rfl (by first | assumption | omega | (simp; omega))) ?_
          refine Ops.pure rfl (Pure.ldA cell202 rfl (RdL.own 1 rfl) (seg_get encQ_len (by omega) (0, 0)) rfl (by decide)) ?_
          refine Ops.go rfl (Loud.alloc zero202 rfl) ?_
          rintro _ _ ⟨b7, rfl, rfl⟩
          refine Ops.store (Stores.box 0 rfl rfl rfl size202 (allOne rfl) rfl rfl) ?_
          refine Ops.nil ?_
          refine Run.ext_ (L' := .box b7 202 [.int .i64 ((prs a b l ((ptL a b).getD k (0, 0)).1 ((ptL a b).getD k (0, 0)).2).getD j (0, 0)).1, .int .i64 ((prs a b l ((ptL a b).getD k (0, 0)).1 ((ptL a b).getD k (0, 0)).2).getD j (0, 0)).2] :: .row 32 1 vo ((prA a b l k ++ ((prs a b l ((ptL a b).getD k (0, 0)).1 ((ptL a b).getD k (0, 0)).2).take j).map prO)).length us :: .row 202 2 v18 (prs a b l ((ptL a b).getD k (0, 0)).1 ((ptL a b).getD k (0, 0)).2).length ((prs a b l ((ptL a b).getD k (0, 0)).1 ((ptL a b).getD k (0, 0)).2).flatMap encQ) :: .row 72 2 v10 (ptL a b).length ((ptL a b).flatMap encQ) :: .box b1 35 [.int .i64 a, .int .i64 b, v] :: inner us (prA a b l k ++ ((prs a b l ((ptL a b).getD k (0, 0)).1 ((ptL a b).getD k (0, 0)).2).take j).map prO)) (Ext.eq rfl) ?_
          refine Run.region ?_
          refine Ops.pure rfl (Pure.move rfl) ?_
          refine Ops.pure rfl (Pure.idxArr und202 size2 rfl rfl (by first | assumption | omega | (simp; omega)) (by first | assumption | omega | (simp; omega))) ?_
          refine Ops.pure rfl (Pure.ldB 0 rfl cell2 rfl rfl) ?_
          refine Ops.pure rfl (Pure.idxArr und202 size2 rfl rfl (by first | assumption | omega | (simp; omega)) (by first | assumption | omega | (simp; omega))) ?_
          refine Ops.pure rfl (Pure.ldB 0 rfl cell2 rfl rfl) ?_
          refine Ops.pure rfl (Pure.minI rfl rfl) ?_
          refine Ops.pure rfl (Pure.idxArr und202 size2 rfl rfl (by first | assumption | omega | (simp; omega)) (by first | assumption | omega | (simp; omega))) ?_
          refine Ops.pure rfl (Pure.ldB 0 rfl cell2 rfl rfl) ?_
          refine Ops.pure rfl (Pure.idxArr und202 size2 rfl rfl (by first | assumption | omega | (simp; omega)) (by first | assumption | omega | (simp; omega))) ?_
          refine Ops.pure rfl (Pure.ldB 0 rfl cell2 rfl rfl) ?_
          refine Ops.pure rfl (Pure.maxI rfl rfl) ?_
          refine Ops.go rfl (Loud.lit sl32 rfl rfl rfl (by simp [Value.oneCell'])) ?_
          rintro v35 _ rfl
          refine Ops.have_ (fun w hw => row_one 0 hw rfl) (fun h35 => ?_)
          refine Ops.go rfl (Loud.lit sl24 rfl rfl rfl (by simp [h35])) ?_
          rintro v36 _ rfl
          refine Ops.go rfl (Loud.append 3 rfl sl24 rfl rfl (RdL.own 0 rfl) (by simp [h35]) (by omega) (by omega)) ?_
          rintro v37 _ rfl
          refine Ops.pure rfl (Pure.assign rfl) ?_
          refine Ops.nil ?_
          refine Run.blk ?_
          refine Run.region ?_
          refine Ops.pure rfl (Pure.add rfl rfl (by omega) (by omega)) ?_
          refine Ops.pure rfl (Pure.move rfl) ?_
          refine Ops.nil ?_
          refine Run.asrt ?_
          refine ⟨j + 1, v37, us ++ [v35], ⟨⟨by omega, ?_⟩, by omega⟩, ⟨rfl, rfl, rfl, rfl, rfl, rfl, rfl, rfl, trivial⟩, ?_⟩
          · rw [take_map_snoc (by omega), List.length_append, List.length_append (bs := [prO _]), hul2]
            rfl
          · rw [take_map_snoc (by omega), inner_snoc2 hul2, List.length_append (bs := [prO _])]
            exact Ext.take 3 rfl (Ext.take 3 rfl (Ext.take 3 rfl (Ext.take 3 rfl (Ext.snoc2 _ _ _ _))))
        · skip
          replace c21 := dF c21
          refine Run.exit rfl ?_
          refine Run.blk ?_
          have hj : ((prs a b l ((ptL a b).getD k (0, 0)).1 ((ptL a b).getD k (0, 0)).2).take j).map prO = (prs a b l ((ptL a b).getD k (0, 0)).1 ((ptL a b).getD k (0, 0)).2).map prO := by rw [show j = (prs a b l ((ptL a b).getD k (0, 0)).1 ((ptL a b).getD k (0, 0)).2).length by omega, List.take_length]
          refine Run.region ?_
          refine Ops.pure rfl (Pure.add rfl rfl (by omega) (by omega)) ?_
          refine Ops.pure rfl (Pure.move rfl) ?_
          refine Ops.nil ?_
          refine Run.asrt ?_
          refine ⟨k + 1, vo, us, ⟨⟨by omega, by rw [prA_succ (by omega)]; rw [hj] at hul2; exact hul2⟩, by omega⟩, ⟨rfl, rfl, rfl, rfl, rfl, trivial⟩, ?_⟩
          rw [prA_succ (by omega), hj]
          exact Ext.take 0 rfl (Ext.take 1 rfl (Ext.take 1 rfl (Ext.right [_] _)))
    · skip
      replace c13 := dF c13
      refine Run.exit rfl ?_
      refine Run.seq ?_
      have e : k = (ptL a b).length := by omega
      subst e
      obtain ⟨n, hn, hn2⟩ := prL_len hs l
      have hul3 : us.length = (prL a b l).length := hul
      refine Run.ext_ (L' := .row 32 1 vo (n + 1) us :: .row 72 2 v10 (ptL a b).length ((ptL a b).flatMap encQ) :: .box b1 35 [.int .i64 a, .int .i64 b, v] :: inner us (prL a b l)) (Ext.eq (by rw [← hn]; rfl)) ?_
      refine Run.region ?_
      refine Ops.pure rfl (Pure.move rfl) ?_
      refine Ops.go rfl (Loud.callO fn204 rfl (fun w hw => RetO_sort 0 (ls := prL a b l) hw rfl hn (fun j hj => by
        have hm : (prL a b l).getD j [] ∈ prL a b l := by rw [List.getD_eq_getElem?_getD, List.getElem?_eq_getElem (show j < (prL a b l).length by omega)]; exact List.getElem_mem _
        refine ⟨prL_two hm, 3 + j, by omega, ?_⟩
        rw [show 3 + j = j + 1 + 1 + 1 by omega, List.getElem?_cons_succ, List.getElem?_cons_succ, List.getElem?_cons_succ, inner_get hul3 (by omega), prL_two hm]) (by omega))) ?_
      rintro v41 L41 hQ41
      obtain ⟨rfl, us2, ls2, hu2, hl2, hper, rfl⟩ := hQ41
      refine Ops.nil ?_
      refine Run.seq ?_
      refine Run.region ?_
      refine Ops.pure rfl (Pure.move rfl) ?_
      refine Ops.pure rfl (Pure.assign rfl) ?_
      refine Ops.nil ?_
      refine Run.ext_ (L' := ssE vo us2 ls2) ⟨[.row 72 2 v10 (ptL a b).length ((ptL a b).flatMap encQ), .box b1 35 [.int .i64 a, .int .i64 b, v]], ?_⟩ ?_
      · unfold ssE
        rw [hl2]
        refine List.Perm.cons _ ?_
        refine List.perm_append_comm.trans ?_
        exact ((inner_perm hper).cons _).cons _
      refine Run.ret1 rfl rfl ?_
      exact ⟨us2, ls2, by rw [hu2, hl2], fun c => (perm_snd hper (by rw [hu2, hl2]) hul3).mem_iff, by omega, rfl⟩

set_option maxRecDepth 4000 in
/-- impl.JoinPanel -/
theorem f_i_JoinPanel (w : World) (a : Int) (b : Int) (v : Value) (l : List Int) (hv : Rd w v 1 l.length (ints l)) (hk : okP a b l = true) : Ret Try.prog 79 [.agg #[.int .i64 a, .int .i64 b, v]] w (fun u L => ∃ vp vl pr lg, u = .tuple #[.agg #[vp, vl], .int .i64 0] ∧ UF (segN a b) pr lg ∧ lg.length + cnt a b l = segN a b ∧ vp.oneCell' = true ∧ vl.oneCell' = true ∧ L = [.row 2 1 vp (segN a b) (ints pr), .row 2 1 vl lg.length (ints lg)]) := by
  have hs := okP_size hk
  obtain ⟨hs1, hs2, hs3, hs4⟩ := id hs
  have hsl := segN_le hs
  have hli := okP_inn hk
  have hib := (inn_eq hs).2.1
  refine Ret.enter Try.func79 rfl Try.ntmps79 rfl ?_
  refine Run.seq ?_
  refine Run.region ?_
  refine Ops.go rfl (Loud.box rfl rfl) ?_
  rintro _ _ ⟨b1, rfl, rfl⟩
  refine Ops.go rfl (Loud.alloc zero82 rfl) ?_
  rintro _ _ ⟨b2, rfl, rfl⟩
  refine Ops.pure rfl (Pure.assign rfl) ?_
  refine Ops.nil ?_
  refine Run.seq ?_
  refine Run.seq ?_
  refine Run.region ?_
  refine Ops.pure rfl (Pure.ldBA 1 rfl cell35 rfl rfl rfl) ?_
  refine Ops.q rfl (QOp.call fn96 rfl (fun w hw => f_i_ValidPanel w _ _ _ _ (by exact RdL.old (by assumption) w hw) (by omega) (by omega) (by omega) (by omega) (by omega))) ?_
  refine Ops.pure rfl (Pure.not rfl) ?_
  refine Ops.nil ?_
  refine Run.condEF rfl ((by simp [hk])) ?_
  refine Run.skip ?_
  refine Run.seq ?_
  refine Run.region ?_
  refine Ops.pure rfl (Pure.ldBA 1 rfl cell35 rfl rfl rfl) ?_
  refine Ops.q rfl (QOp.call fn154 rfl (fun w hw => f_i_Panel_segments w _ _ _ (by assumption))) ?_
  rw [← hsl.2.1]
  refine Ops.go rfl (Loud.callR fn153 rfl (fun w hw => f_i_NewJoined w (segN a b) (by omega) (by omega))) ?_
  rintro v15 _ ⟨L15, hQ15, rfl⟩
  obtain ⟨x15, rfl, rfl⟩ := hQ15
  refine Ops.pure rfl (Pure.move rfl) ?_
  refine Ops.pure rfl (Pure.extract rfl rfl) ?_
  refine Ops.pure rfl (Pure.extract rfl rfl) ?_
  refine Ops.go rfl (Loud.alloc zero82 rfl) ?_
  rintro _ _ ⟨b4, rfl, rfl⟩
  refine Ops.have_ (fun w hw => row_one 1 hw rfl) (fun h15 => ?_)
  refine Ops.store (Stores.box 0 rfl rfl rfl size82 (one2 h15 rfl) rfl rfl) ?_
  refine Ops.pure rfl (Pure.assign rfl) ?_
  refine Ops.nil ?_
  refine Run.seq ?_
  refine Run.seq ?_
  refine Run.addNil 2 1 ?_
  refine Run.region ?_
  refine Ops.pure rfl (Pure.ldBA 4 rfl cell35 rfl rfl rfl) ?_
  refine Ops.go rfl (Loud.callR fn155 rfl (fun w hw => f_i_Panel_pairs w a b v l (RdL.old hv w hw) hk)) ?_
  rintro v19 _ ⟨L19, hQ19, rfl⟩
  obtain ⟨us19, ls19, hul19, hmem19, hln19, rfl⟩ := hQ19
  refine Ops.pure rfl (Pure.len sl24 (RdL.own 0 rfl) rfl) ?_
  refine Ops.pure rfl (Pure.move rfl) ?_
  refine Ops.nil ?_
  refine Run.block ?_
  refine Run.loop2 (X := Nat) (Y := Value) (fun k vl => [(2, .pointer (some ⟨b2, 0, none⟩)), (4, .pointer (some ⟨b4, 0, none⟩)), (19, v19), (20, .int .i64 ls19.length), (21, .int .i64 k)]) (fun k vl => [.box b4 82 [x15, vl], .row 2 1 x15 (segN a b) (ints (jnK (segN a b) ls19 k).1), .row 2 1 vl (jnK (segN a b) ls19 k).2.length (ints (jnK (segN a b) ls19 k).2)] ++ (.box b2 82 [.slice none 0 0, .slice none 0 0] :: .box b1 35 [.int .i64 a, .int .i64 b, v] :: ssE v19 us19 ls19)) (fun k vl => k ≤ ls19.length) (fun k vl => ls19.length - k) 0 (.slice none 0 0) ?_ ?_ ?_ ?_
  · exact Nat.zero_le _
  · exact ⟨rfl, rfl, rfl, rfl, rfl, trivial⟩
  · refine Ext.trans (B := [.row 2 1 (.slice none 0 0) 0 [], .box b4 82 [x15, .slice none 0 0], .row 2 1 x15 (segN a b) (ints (ups (segN a b))), .box b2 82 [.slice none 0 0, .slice none 0 0], .box b1 35 [.int .i64 a, .int .i64 b, v]] ++ ssE v19 us19 ls19) ?_ ⟨[], by rw [List.append_nil]; exact List.perm_append_comm⟩
    exact Ext.take 1 rfl (Ext.take 1 rfl (Ext.take 0 rfl (Ext.refl _)))
  · intro k vl hinv0
    have hUF : UF (segN a b) (jnK (segN a b) ls19 k).1 (jnK (segN a b) ls19 k).2 := jnA_UF (fun p hp => by
      obtain ⟨c, hc, rfl⟩ := List.mem_map.1 hp
      have h := prL_lt hs ((hmem19 c).1 (List.mem_of_mem_take hc))
      exact ⟨h.1, h.2.1⟩)
    refine Run.seq ?_
    refine Run.region ?_
    refine Ops.pure rfl (Pure.lss rfl rfl) ?_
    refine Ops.nil ?_
    refine Run.seq ?_
    refine Run.cond rfl (fun c22 => ?_) (fun c22 => ?_)
    · skip
      replace c22 := dT c22
      refine Run.skip ?_
      refine Run.seq ?_
      refine Run.block ?_
      refine Run.seq ?_
      have hkl : k < ls19.length := by omega
      have hcm : (ls19.getD k []) ∈ prL a b l := (hmem19 _).1 (by rw [List.getD_eq_getElem?_getD, List.getElem?_eq_getElem hkl]; exact List.getElem_mem _)
      have hlt := prL_lt hs hcm
      have h2l := prL_two hcm
      have hpr : ∀ L, Ext (inner us19 ls19) L → RdL w L (us19.getD k undef) 1 (ls19.getD k []).length (ints (ls19.getD k [])) := fun L he => (RdL.mem (inner_mem hul19 hkl)).ext he
      refine Run.region ?_
      refine Ops.pure rfl (Pure.idx1N sl24 (RdL.own 5 rfl) rfl rfl (by first | assumption | omega | (simp; omega))) ?_
      refine Ops.pure rfl (Pure.ld cell32 rfl (RdL.own 5 rfl) (by first | exact ints_get (by omega) | exact bools_get (by omega) | exact strs_get (by omega) | exact vals_get (by first | omega | (simp; omega)))) ?_
      refine Ops.pure rfl (Pure.assign rfl) ?_
      refine Ops.nil ?_
      refine Any.startE (E := [156]) follows ?_
      refine Any.take 0 rfl (by kernel_rfl) rfl (QOp.pure (Pure.move rfl)) ?_
      refine Any.take 1 rfl (by kernel_rfl) rfl (QOp.pure (Pure.idx1 sl32 (hpr _ (Ext.right [_, _, _, _, _, _] _)) rfl rfl (by first | assumption | omega | (simp; omega)) (by first | assumption | omega | (simp; omega)))) ?_
      refine Any.take 2 rfl (by kernel_rfl) rfl (QOp.pure (Pure.ld cell2 rfl (hpr _ (Ext.right [_, _, _, _, _, _] _)) (by first | exact ints_get (by omega) | exact bools_get (by omega) | exact strs_get (by omega) | exact vals_get (by first | omega | (simp; omega))))) ?_
      refine Any.take 3 rfl (by kernel_rfl) rfl (QOp.pure (Pure.move rfl)) ?_
      refine Any.take 4 rfl (by kernel_rfl) rfl (QOp.pure (Pure.idx1 sl32 (hpr _ (Ext.right [_, _, _, _, _, _] _)) rfl rfl (by first | assumption | omega | (simp; omega)) (by first | assumption | omega | (simp; omega)))) ?_
      refine Any.take 5 rfl (by kernel_rfl) rfl (QOp.pure (Pure.ld cell2 rfl (hpr _ (Ext.right [_, _, _, _, _, _] _)) (by first | exact ints_get (by omega) | exact bools_get (by omega) | exact strs_get (by omega) | exact vals_get (by first | omega | (simp; omega))))) ?_
      refine Any.one 6 (by kernel_rfl) ?_
      rw [show (ls19.getD k []).getD (Int.toNat 0) 0 = ((toP (ls19.getD k [])).1 : Int) from hlt.2.2.1, show (ls19.getD k []).getD (Int.toNat 1) 0 = ((toP (ls19.getD k [])).2 : Int) from hlt.2.2.2]
      refine OneL.loud rfl rfl (Loud.callO fn156 rfl (fun w hw => f_i_Joined_join _ w b4 x15 vl (segN a b) (jnK (segN a b) ls19 k).1 (jnK (segN a b) ls19 k).2 (.box b2 82 [.slice none 0 0, .slice none 0 0] :: .box b1 35 [.int .i64 a, .int .i64 b, v] :: ssE v19 us19 ls19) (toP (ls19.getD k [])).1 (toP (ls19.getD k [])).2 hw hUF (by omega) hlt.1 hlt.2.1)) ?_
      rintro v31 L31 hQ31
      obtain ⟨rfl, x31, rfl⟩ := hQ31
      refine ⟨.inl (by kernel_rfl), ?_⟩
      refine Any.done (by kernel_rfl) ?_
      refine Run.blk ?_
      refine Run.region ?_
      refine Ops.pure rfl (Pure.add rfl rfl (by omega) (by omega)) ?_
      refine Ops.pure rfl (Pure.move rfl) ?_
      refine Ops.nil ?_
      refine Run.asrt ?_
      refine ⟨k + 1, x31, ⟨by omega, by omega⟩, ⟨rfl, rfl, rfl, rfl, rfl, trivial⟩, ?_⟩
      rw [jnK_succ (by omega)]
      exact Ext.refl _
    · skip
      replace c22 := dF c22
      refine Run.exit rfl ?_
      refine Run.seq ?_
      refine Run.have_ (fun w hw => row_one 1 hw rfl) (fun hvp1 => ?_)
      refine Run.have_ (fun w hw => row_one 2 hw rfl) (fun hvl1 => ?_)
      refine Run.region ?_
      refine Ops.pure rfl (Pure.ldBA 0 rfl cell82 rfl rfl rfl) ?_
      refine Ops.store (Stores.box 3 rfl rfl rfl size82 (one2 hvp1 hvl1) rfl rfl) ?_
      refine Ops.pure rfl (Pure.assign rfl) ?_
      refine Ops.nil ?_
      refine Run.retC1x 3 rfl rfl rfl rfl cell82 rfl (Ext.take 1 rfl (Ext.take 1 rfl (Ext.nil _))) ?_
      have e : k = ls19.length := by omega
      subst e
      have hpj := pairs_join hs hmem19
      have ej : jnK (segN a b) ls19 ls19.length = jnA (ls19.map toP) (ups (segN a b), []) := by unfold jnK; rw [List.take_length]
      rw [← ej] at hpj
      exact ⟨x15, vl, _, _, rfl, hpj.1, hpj.2, hvp1, hvl1, rfl⟩

end Go.Proofs.Ytmfinopdokkjcaa
