/- Contracts of functions, printed by program from annotations. -/
import Derived.Test.YtmfinopdokkjcaaCvM
import Derived.Test.YtmfinopdokkjcaaDrw2
namespace Go.Proofs.Ytmfinopdokkjcaa
open Go Go.AW Go.RowKit
set_option linter.unusedVariables false
set_option linter.unusedSimpArgs false

theorem _root_.Go.AW.Run.loop6 {P : Program} {N : Nat} {w0 : World} {R : Exit → Act → World → Prop} {k : List It} {s : Fr} {L : List Ent} {X Y Z V U T : Type} {c : Code} (fr : X → Y → Z → V → U → T → Fr) (hp : X → Y → Z → V → U → T → List Ent) (inv : X → Y → Z → V → U → T → Prop) (μ : X → Y → Z → V → U → T → Nat) (x0 : X) (y0 : Y) (z0 : Z) (v0 : V) (u0 : U) (t0 : T) (h0 : inv x0 y0 z0 v0 u0 t0) (hs : Sub (fr x0 y0 z0 v0 u0 t0) s) (hL : Ext (hp x0 y0 z0 v0 u0 t0) L)
    (round : ∀ x y z v u t, inv x y z v u t → Run P N w0 R (.code c :: .asrt (fun s' L' => ∃ x' y' z' v' u' t', (inv x' y' z' v' u' t' ∧ μ x' y' z' v' u' t' < μ x y z v u t) ∧ Sub (fr x' y' z' v' u' t') s' ∧ Ext (hp x' y' z' v' u' t') L') :: k) (fr x y z v u t) (hp x y z v u t)) :
    Run P N w0 R (.code (.loop c) :: k) s L := by
  refine Run.loop4 (X := X) (Y := Y) (Z := Z) (V := V × U × T) (fun x y z p => fr x y z p.1 p.2.1 p.2.2) (fun x y z p => hp x y z p.1 p.2.1 p.2.2) (fun x y z p => inv x y z p.1 p.2.1 p.2.2) (fun x y z p => μ x y z p.1 p.2.1 p.2.2) x0 y0 z0 (v0, u0, t0) h0 hs hL ?_
  rintro x y z ⟨v, u, t⟩ hi a w ha hw
  refine wp_mono (round x y z v u t hi a w ha hw) fun e a' w' hq => ?_
  cases e with
  | normal => obtain ⟨s', L', ha', hw', x', y', z', v', u', t', h⟩ := hq; exact ⟨s', L', ha', hw', x', y', z', (v', u', t'), h⟩
  | exit id => exact hq
  | goto l => exact hq
  | ret => exact hq
  | panic ch => exact hq
  | outgrown => exact hq
theorem Ext.snocF (r : Ent) (I G : List Ent) : Ext ((I ++ [r]) ++ G) (r :: (I ++ G)) := ⟨[], by
  rw [List.append_nil, List.append_assoc]
  exact List.perm_middle⟩
theorem ss_newE {v u : Value} {us : List Value} {ls : List (List Int)} {c : Nat} {x : Int} {F : List Ent} (h : us.length = ls.length) (hc : c < ls.length) :
    Ext (ssE v (us.set c u) (ls.set c (ls.getD c [] ++ [x])) ++ F) (.row 2 1 u ((ls.getD c []).length + 1) (ints (ls.getD c []) ++ [.int .i64 x]) :: .row 32 1 v ls.length (us.set c u) :: (inner (us.take c) (ls.take c) ++ inner (us.drop (c + 1)) (ls.drop (c + 1)) ++ F)) := by
  refine ⟨[], ?_⟩
  have h1 := ss_focus (v := v) (vs := us.set c u) (ls := ls.set c (ls.getD c [] ++ [x])) (k := c) (F := F) (by simpa using h) (by simpa using hc)
  have e1 : (ls.set c (ls.getD c [] ++ [x])).getD c [] = ls.getD c [] ++ [x] := by simp [List.getD, hc]
  have e2 : (us.set c u).getD c undef = u := by simp [List.getD, show c < us.length by omega]
  rw [e1, e2] at h1
  rw [List.append_nil]
  refine h1.trans (List.Perm.of_eq ?_)
  unfold ssRest
  rw [List.length_append, List.length_singleton, ints, List.map_append]
  simp [List.take_set_of_le, List.drop_set_of_lt, ints]

set_option maxRecDepth 4000 in
set_option maxHeartbeats 800000 in
/-- spec.l14Draw -/
theorem f_s_l14Draw (w0 : World) (w : World) (b : Nat) (vc : Value) (co : List Int) (q : Nat) (sd : Int) (F : List Ent) (hw : Sat w0 w (srcE b vc q sd :: F)) (hc : Rd w0 vc 1 co.length (AW.bytes co)) (hb : ∀ x ∈ co, 0 ≤ x ∧ x ≤ 255) (hcl : co.length ≤ 1000000000) (hq : q ≤ 999980000) : RetO Try.prog 86 [.pointer (some ⟨b, 0, none⟩)] w0 w (fun u L => ∃ (us : List Value) (cs : List (List Int)), us.length = cs.length ∧ validB cs = true ∧ L = ssE u us cs) := by
  refine RetO.enter Try.func86 rfl Try.ntmps86 rfl hw ?_
  refine Run.seq ?_
  refine Run.region ?_
  refine Ops.pure rfl (Pure.assign rfl) ?_
  refine Ops.nil ?_
  refine Run.seq ?_
  refine Run.seq ?_
  refine Run.region ?_
  refine Ops.pure rfl (Pure.move rfl) ?_
  refine Ops.go rfl (Loud.callO fn116 rfl (fun w hw => f_s_l00Src_one _ w b vc co q sd F 2 hw hc hb hcl (by omega) (by omega))) ?_
  rintro v15 L15 hQ15
  obtain ⟨x15, q15, sd15, hq15, rfl, rfl⟩ := hQ15
  refine Ops.nil ?_
  refine Run.cond rfl (fun c15 => ?_) (fun c15 => ?_)
  · skip
    skip
    refine Run.seq ?_
    refine Run.region ?_
    refine Ops.pure rfl (Pure.move rfl) ?_
    refine Ops.go rfl (Loud.callO fn95 rfl (fun w hw => f_s_l02Draw _ w _ vc co _ _ _ 4 (Sat.front 0 rfl hw) hc hb hcl (by omega) (by omega) (by omega))) ?_
    rintro v17 L17 hQ17
    obtain ⟨a17, c17, l17, x17, q17, sd17, ha17, hA17, hc17, hC17, hk17, h17, hq17, rfl, rfl⟩ := hQ17
    refine Ops.go rfl (Loud.alloc zero35 rfl) ?_
    rintro _ _ ⟨b3, rfl, rfl⟩
    refine Ops.store (Stores.box 0 rfl rfl rfl size35 (one3 h17) rfl rfl) ?_
    refine Ops.nil ?_
    refine Run.seq ?_
    refine Run.region ?_
    refine Ops.go rfl (Loud.callR fn165 rfl (fun w hw => f_s_l14Of w b3 a17 c17 x17 l17 (RdL.boxM 0 rfl rfl w hw) (RdL.own 1 rfl w hw) hk17 (by have h1 := okP_inn hk17; have h2 := inn_eq (okP_size hk17); omega) (cnt_40 (okP_size hk17) (by omega) (by omega)))) ?_
    rintro v18 _ ⟨L18, hQ18, rfl⟩
    obtain ⟨us18, hul18, rfl⟩ := hQ18
    refine Ops.pure rfl (Pure.assign rfl) ?_
    refine Ops.nil ?_
    refine Run.ext_ (Ext.left _ _) ?_
    refine Run.ret1 rfl rfl ?_
    exact ⟨us18, _, by rw [length_codL]; exact hul18, (cod_valid hk17 (cnt_40 (okP_size hk17) (by omega) (by omega))).1, rfl⟩
  · skip
    skip
    refine Run.skip ?_
    refine Run.seq ?_
    refine Run.region ?_
    refine Ops.pure rfl (Pure.move rfl) ?_
    refine Ops.go rfl (Loud.callO fn118 rfl (fun w hw => f_s_l00Src_pick _ w b vc co _ _ _ 6 (Sat.front 0 rfl hw) hc hb hcl (by omega) (by omega))) ?_
    rintro v20 L20 hQ20
    obtain ⟨x20, q20, sd20, hx20, hy20, hq20, rfl, rfl⟩ := hQ20
    obtain ⟨n, rfl⟩ := Int.eq_ofNat_of_zero_le hx20
    refine Ops.pure rfl (Pure.assign rfl) ?_
    refine Ops.nil ?_
    refine Run.seq ?_
    refine Run.region ?_
    refine Ops.go rfl (Loud.lit sl32 rfl rfl rfl (by simp [Value.oneCell'])) ?_
    rintro v21 _ rfl
    refine Ops.pure rfl (Pure.assign rfl) ?_
    refine Ops.nil ?_
    refine Run.seq ?_
    refine Run.seq ?_
    refine Run.region ?_
    refine Ops.pure rfl (Pure.assign rfl) ?_
    refine Ops.nil ?_
    refine Run.block ?_
    refine Run.loop2 (X := Nat) (Y := Value) (fun k va => [(0, .pointer (some ⟨b, 0, none⟩)), (4, .int .i64 (n : Int)), (5, va), (6, .int .i64 ((k : Int) + 1))]) (fun k va => .row 2 1 va (2 * k) (ints (alls k)) :: srcE b vc q20 sd20 :: F) (fun k va => k ≤ n) (fun k va => n - k) 0 v21 ?_ ?_ ?_ ?_
    · exact Nat.zero_le _
    · exact ⟨rfl, rfl, rfl, rfl, trivial⟩
    · exact Ext.refl _
    · intro k va hinv0
      refine Run.seq ?_
      refine Run.seq ?_
      refine Run.region ?_
      refine Ops.pure rfl (Pure.move rfl) ?_
      refine Ops.pure rfl (Pure.move rfl) ?_
      refine Ops.pure rfl (Pure.leq rfl rfl) ?_
      refine Ops.nil ?_
      refine Run.cond rfl (fun c24 => ?_) (fun c24 => ?_)
      · skip
        replace c24 := dT c24
        refine Run.skip ?_
        refine Run.seq ?_
        refine Run.block ?_
        refine Run.region ?_
        refine Ops.pure rfl (Pure.move rfl) ?_
        refine Ops.pure rfl (Pure.move rfl) ?_
        refine Ops.pure rfl (Pure.move rfl) ?_
        refine Ops.pure rfl (Pure.neg rfl (by omega) (by omega)) ?_
        refine Ops.go rfl (Loud.lit sl32 rfl rfl rfl (by simp [Value.oneCell'])) ?_
        rintro v31 _ rfl
        refine Ops.go rfl (Loud.append 1 rfl sl32 rfl rfl (RdL.own 0 rfl) (by simp [Value.oneCell']) (by omega) (by omega)) ?_
        rintro v32 _ rfl
        refine Ops.pure rfl (Pure.assign rfl) ?_
        refine Ops.nil ?_
        refine Run.blk ?_
        refine Run.region ?_
        refine Ops.pure rfl (Pure.move rfl) ?_
        refine Ops.pure rfl (Pure.add rfl rfl (by omega) (by omega)) ?_
        refine Ops.pure rfl (Pure.assign rfl) ?_
        refine Ops.nil ?_
        refine Run.asrt ?_
        refine ⟨k + 1, v32, ⟨by omega, by omega⟩, ⟨rfl, rfl, rfl, rfl, trivial⟩, Ext.trans (Ext.eq ?_) (Ext.right [_] _)⟩
        rw [alls, ints, List.map_append]
        rfl
      · skip
        replace c24 := dF c24
        refine Run.exit rfl ?_
        refine Run.seq ?_
        refine Run.seq ?_
        have e : n = k := by omega
        subst e
        refine Run.region ?_
        refine Ops.pure rfl (Pure.move rfl) ?_
        refine Ops.pure rfl (Pure.len sl32 (RdL.own 0 rfl) rfl) ?_
        refine Ops.pure rfl (Pure.sub rfl rfl (by omega) (by omega)) ?_
        refine Ops.pure rfl (Pure.assign rfl) ?_
        refine Ops.nil ?_
        refine Run.block ?_
        refine Run.loop4 (X := Int) (Y := List Int) (Z := Nat) (V := Int) (fun z m q2 sd2 => [(0, .pointer (some ⟨b, 0, none⟩)), (5, va), (7, .int .i64 z)]) (fun z m q2 sd2 => .row 2 1 va (2 * n) (ints m) :: srcE b vc q2 sd2 :: F) (fun z m q2 sd2 => m.Perm (alls n) ∧ -1 ≤ z ∧ z ≤ 2 * (n : Int) - 1 ∧ (q2 : Int) + 2 * z ≤ q + 40) (fun z m q2 sd2 => z.toNat) (((2 * n : Nat) : Int) - 1) (alls n) q20 sd20 ?_ ?_ ?_ ?_
        · exact ⟨List.Perm.refl _, by omega, by omega, by omega⟩
        · exact ⟨rfl, rfl, rfl, trivial⟩
        · exact Ext.refl _
        · intro z m q2 sd2 hinv1
          have hml : m.length = 2 * n := by rw [hinv1.1.length_eq, length_alls]
          have hml2 : (ints m).length = 2 * n := by rw [ints, List.length_map]; exact hml
          obtain ⟨hmp, hz0, hz1, hz2⟩ := id hinv1
          refine Run.seq ?_
          refine Run.seq ?_
          refine Run.region ?_
          refine Ops.pure rfl (Pure.move rfl) ?_
          refine Ops.pure rfl (Pure.gtr rfl rfl) ?_
          refine Ops.nil ?_
          refine Run.cond rfl (fun c37 => ?_) (fun c37 => ?_)
          · skip
            replace c37 := dT c37
            refine Run.skip ?_
            refine Run.seq ?_
            refine Run.block ?_
            refine Run.seq ?_
            refine Run.region ?_
            refine Ops.pure rfl (Pure.move rfl) ?_
            refine Ops.pure rfl (Pure.move rfl) ?_
            refine Ops.pure rfl (Pure.add rfl rfl (by omega) (by omega)) ?_
            refine Ops.go rfl (Loud.callO fn118 rfl (fun w hw => f_s_l00Src_pick _ w b vc co _ _ _ (z + 1) (Sat.front 1 rfl hw) hc hb hcl (by omega) (by omega))) ?_
            rintro v43 L43 hQ43
            obtain ⟨x43, q43, sd43, hx43, hy43, hq43, rfl, rfl⟩ := hQ43
            refine Ops.pure rfl (Pure.assign rfl) ?_
            refine Ops.nil ?_
            refine Run.seq ?_
            refine Run.region ?_
            refine Ops.pure rfl (Pure.move rfl) ?_
            refine Ops.pure rfl (Pure.move rfl) ?_
            refine Ops.pure rfl (Pure.idx1 sl32 (RdL.own 1 rfl) rfl rfl (by first | assumption | omega | (simp; omega)) (by first | assumption | omega | (simp; omega))) ?_
            refine Ops.pure rfl (Pure.ld cell2 rfl (RdL.own 1 rfl) (by first | exact ints_get (by omega) | exact bools_get (by omega) | exact strs_get (by omega) | exact vals_get (by first | omega | (simp; omega)))) ?_
            refine Ops.pure rfl (Pure.assign rfl) ?_
            refine Ops.nil ?_
            refine Run.seq ?_
            refine Run.region ?_
            refine Ops.pure rfl (Pure.move rfl) ?_
            refine Ops.pure rfl (Pure.move rfl) ?_
            refine Ops.pure rfl (Pure.move rfl) ?_
            refine Ops.pure rfl (Pure.move rfl) ?_
            refine Ops.pure rfl (Pure.idx1 sl32 (RdL.own 1 rfl) rfl rfl (by first | assumption | omega | (simp; omega)) (by first | assumption | omega | (simp; omega))) ?_
            refine Ops.pure rfl (Pure.ld cell2 rfl (RdL.own 1 rfl) (by first | exact ints_get (by omega) | exact bools_get (by omega) | exact strs_get (by omega) | exact vals_get (by first | omega | (simp; omega)))) ?_
            refine Ops.pure rfl (Pure.idx1 sl32 (RdL.own 1 rfl) rfl rfl (by first | assumption | omega | (simp; omega)) (by first | assumption | omega | (simp; omega))) ?_
            refine Ops.store (Stores.row1 1 rfl size2 rfl rfl rfl (by first | assumption | omega | (simp; omega))) ?_
            refine Ops.nil ?_
            refine Run.region ?_
            refine Ops.pure rfl (Pure.move rfl) ?_
            refine Ops.pure rfl (Pure.move rfl) ?_
            refine Ops.pure rfl (Pure.move rfl) ?_
            refine Ops.pure rfl (Pure.idx1 sl32 (RdL.own 1 rfl) rfl rfl (by first | assumption | omega | (simp; omega)) (by first | assumption | omega | (simp; omega))) ?_
            refine Ops.store (Stores.row1 1 rfl size2 rfl rfl rfl (by first | assumption | omega | (simp; omega))) ?_
            refine Ops.nil ?_
            refine Run.blk ?_
            refine Run.region ?_
            refine Ops.pure rfl (Pure.move rfl) ?_
            refine Ops.pure rfl (Pure.sub rfl rfl (by omega) (by omega)) ?_
            refine Ops.pure rfl (Pure.assign rfl) ?_
            refine Ops.nil ?_
            refine Run.asrt ?_
            refine ⟨z - 1, (m.set x43.toNat (m.getD z.toNat 0)).set z.toNat (m.getD x43.toNat 0), q43, sd43, ⟨⟨(swap_perm (by omega) (by omega)).trans hmp, by omega, by omega, by omega⟩, by omega⟩, ⟨rfl, rfl, rfl, trivial⟩, ?_⟩
            rw [ints, List.map_set, List.map_set]
            exact Ext.take 1 rfl (Ext.take 0 rfl (Ext.refl _))
          · skip
            replace c37 := dF c37
            refine Run.exit rfl ?_
            refine Run.seq ?_
            refine Run.region ?_
            refine Ops.go rfl (Loud.lit sl24 rfl rfl rfl (by simp [Value.oneCell'])) ?_
            rintro v59 _ rfl
            refine Ops.pure rfl (Pure.assign rfl) ?_
            refine Ops.nil ?_
            refine Run.seq ?_
            refine Run.seq ?_
            refine Run.region ?_
            refine Ops.pure rfl (Pure.move rfl) ?_
            refine Ops.go rfl (Loud.callO fn118 rfl (fun w hw => f_s_l00Src_pick _ w b vc co _ _ _ 4 (Sat.front 2 rfl hw) hc hb hcl (by omega) (by omega))) ?_
            rintro v61 L61 hQ61
            obtain ⟨x61, q61, sd61, hx61, hy61, hq61, rfl, rfl⟩ := hQ61
            refine Ops.pure rfl (Pure.assign rfl) ?_
            refine Ops.nil ?_
            refine Run.block ?_
            refine Run.loop4 (X := Int) (Y := Nat) (Z := List Value) (V := Value) (fun y j us vo => [(0, .pointer (some ⟨b, 0, none⟩)), (5, va), (10, vo), (11, .int .i64 y)]) (fun y j us vo => .row 2 1 va (2 * n) (ints m) :: srcE b vc q61 sd61 :: .row 32 1 vo j us :: (inner us (List.replicate j []) ++ F)) (fun y j us vo => us.length = j ∧ 0 ≤ y ∧ (j : Int) + y ≤ 4) (fun y j us vo => y.toNat) x61 0 [] v59 ?_ ?_ ?_ ?_
            · exact ⟨rfl, by omega, by omega⟩
            · exact ⟨rfl, rfl, rfl, rfl, trivial⟩
            · exact Ext.take 2 rfl (Ext.take 0 rfl (Ext.refl _))
            · intro y j us vo hinv2
              obtain ⟨hus, hy0, hy1⟩ := id hinv2
              refine Run.seq ?_
              refine Run.seq ?_
              refine Run.region ?_
              refine Ops.pure rfl (Pure.move rfl) ?_
              refine Ops.pure rfl (Pure.gtr rfl rfl) ?_
              refine Ops.nil ?_
              refine Run.cond rfl (fun c63 => ?_) (fun c63 => ?_)
              · skip
                replace c63 := dT c63
                refine Run.skip ?_
                refine Run.seq ?_
                refine Run.block ?_
                refine Run.region ?_
                refine Ops.pure rfl (Pure.move rfl) ?_
                refine Ops.go rfl (Loud.lit sl32 rfl rfl rfl (by simp [Value.oneCell'])) ?_
                rintro v67 _ rfl
                refine Ops.have_ (fun w hw => row_one 0 hw rfl) (fun h67 => ?_)
                refine Ops.go rfl (Loud.lit sl24 rfl rfl rfl (by simp [h67])) ?_
                rintro v68 _ rfl
                refine Ops.go rfl (Loud.append 4 rfl sl24 rfl rfl (RdL.own 0 rfl) (by simp [h67]) (by omega) (by omega)) ?_
                rintro v69 _ rfl
                refine Ops.pure rfl (Pure.assign rfl) ?_
                refine Ops.nil ?_
                refine Run.blk ?_
                refine Run.region ?_
                refine Ops.pure rfl (Pure.move rfl) ?_
                refine Ops.pure rfl (Pure.sub rfl rfl (by omega) (by omega)) ?_
                refine Ops.pure rfl (Pure.assign rfl) ?_
                refine Ops.nil ?_
                refine Run.asrt ?_
                refine ⟨y - 1, j + 1, us ++ [v67], v69, ⟨⟨by simp [hus], by omega, by omega⟩, by omega⟩, ⟨rfl, rfl, rfl, rfl, trivial⟩, ?_⟩
                rw [List.replicate_succ', inner_app (by rw [List.length_replicate]; exact hus)]
                exact Ext.take 2 rfl (Ext.take 2 rfl (Ext.take 2 rfl ((Ext.snocF _ _ _).trans (Ext.right [_] _))))
              · skip
                replace c63 := dF c63
                refine Run.exit rfl ?_
                refine Run.seq ?_
                refine Run.seq ?_
                refine Run.region ?_
                refine Ops.pure rfl (Pure.move rfl) ?_
                refine Ops.pure rfl (Pure.len sl24 (RdL.own 2 rfl) rfl) ?_
                refine Ops.pure rfl (Pure.eql rfl rfl) ?_
                refine Ops.pure rfl (Pure.move rfl) ?_
                refine Ops.guard rfl rfl rfl rfl (fun c73 => ?_) (fun c73 => ?_)
                · skip
                  have c73' := dT c73
                  refine Ops.pure rfl (Pure.move rfl) ?_
                  refine Ops.guardY rfl rfl rfl c73 ?_
                  refine Ops.pure rfl (Pure.len sl32 (RdL.own 0 rfl) rfl) ?_
                  refine Ops.guardY rfl rfl rfl c73 ?_
                  refine Ops.pure rfl (Pure.gtr rfl rfl) ?_
                  refine Ops.pure rfl (Pure.pickT rfl c73 rfl) ?_
                  refine Ops.nil ?_
                  refine Run.cond rfl (fun c77 => ?_) (fun c77 => ?_)
                  · skip
                    replace c77 := dT c77
                    refine Run.region ?_
                    refine Ops.pure rfl (Pure.move rfl) ?_
                    refine Ops.go rfl (Loud.lit sl32 rfl rfl rfl (by simp [Value.oneCell'])) ?_
                    rintro v79 _ rfl
                    refine Ops.have_ (fun w hw => row_one 0 hw rfl) (fun h79 => ?_)
                    refine Ops.go rfl (Loud.lit sl24 rfl rfl rfl (by simp [h79])) ?_
                    rintro v80 _ rfl
                    refine Ops.go rfl (Loud.append 4 rfl sl24 rfl rfl (RdL.own 0 rfl) (by simp [h79]) (by omega) (by omega)) ?_
                    rintro v81 _ rfl
                    refine Ops.pure rfl (Pure.assign rfl) ?_
                    refine Ops.nil ?_
                    refine Run.seq ?_
                    refine Run.seq ?_
                    refine Run.region ?_
                    refine Ops.pure rfl (Pure.assign rfl) ?_
                    refine Ops.nil ?_
                    refine Run.block ?_
                    refine Run.loop6 (X := Nat) (Y := List (List Int)) (Z := List Value) (V := Value) (U := Nat) (T := Int) (fun i cs us2 vo2 q6 sd6 => [(0, .pointer (some ⟨b, 0, none⟩)), (5, va), (10, vo2), (12, .int .i64 i)]) (fun i cs us2 vo2 q6 sd6 => .row 2 1 va (2 * n) (ints m) :: srcE b vc q6 sd6 :: (ssE vo2 us2 cs ++ F)) (fun i cs us2 vo2 q6 sd6 => us2.length = cs.length ∧ cs.flatten.Perm (m.take i) ∧ cs.length ≤ 40 ∧ (i < 2 * n → 0 < cs.length) ∧ i ≤ 2 * n ∧ q6 ≤ q + 60 + 2 * i) (fun i cs us2 vo2 q6 sd6 => 2 * n - i) 0 (List.replicate (j + 1) []) (us ++ [v79]) v81 q61 sd61 ?_ ?_ ?_ ?_
                    · exact ⟨by simp [hus], by simp, by rw [List.length_replicate]; omega, by rw [List.length_replicate]; first | omega | (simp_all; omega), Nat.zero_le _, by omega⟩
                    · exact ⟨rfl, rfl, rfl, rfl, trivial⟩
                    · first
                        | exact Ext.eq (by unfold ssE; rw [List.length_replicate]; rfl)
                        | (unfold ssE
                           rw [List.length_replicate]
                           rw [List.replicate_succ', inner_app (by rw [List.length_replicate]; exact hus)]
                           exact Ext.take 2 rfl (Ext.take 2 rfl (Ext.take 2 rfl ((Ext.snocF _ _ _).trans (Ext.right [_] _)))))
                    · intro i cs us2 vo2 q6 sd6 hinv3
                      obtain ⟨hul, hcp, hc40, hc0, hi0, hq6⟩ := id hinv3
                      have hct : tot cs = (m.take i).length := by rw [← length_flatten, hcp.length_eq]
                      rw [List.length_take] at hct
                      refine Run.seq ?_
                      refine Run.seq ?_
                      refine Run.region ?_
                      refine Ops.pure rfl (Pure.move rfl) ?_
                      refine Ops.pure rfl (Pure.move rfl) ?_
                      refine Ops.pure rfl (Pure.len sl32 (RdL.own 0 rfl) rfl) ?_
                      refine Ops.pure rfl (Pure.lss rfl rfl) ?_
                      refine Ops.nil ?_
                      refine Run.cond rfl (fun c85 => ?_) (fun c85 => ?_)
                      · skip
                        replace c85 := dT c85
                        refine Run.skip ?_
                        refine Run.seq ?_
                        refine Run.block ?_
                        refine Run.seq ?_
                        refine Run.region ?_
                        refine Ops.pure rfl (Pure.move rfl) ?_
                        refine Ops.pure rfl (Pure.move rfl) ?_
                        refine Ops.pure rfl (Pure.len sl24 (RdL.own 2 rfl) rfl) ?_
                        refine Ops.go rfl (Loud.callO fn118 rfl (fun w hw => f_s_l00Src_pick _ w b vc co _ _ _ (cs.length : Int) (Sat.front 1 rfl hw) hc hb hcl (by omega) (by omega))) ?_
                        rintro v91 L91 hQ91
                        obtain ⟨x91, q91, sd91, hx91, hy91, hq91, rfl, rfl⟩ := hQ91
                        obtain ⟨p, rfl⟩ := Int.eq_ofNat_of_zero_le hx91
                        have hp : p < cs.length := by omega
                        have hcp2 := len_le_tot (ls := cs) (k := p) hp
                        refine Ops.pure rfl (Pure.assign rfl) ?_
                        refine Ops.nil ?_
                        refine Run.ext_ (L' := srcE b vc q91 sd91 :: .row 2 1 va (2 * n) (ints m) :: .row 2 1 (us2.getD p undef) (cs.getD p []).length (ints (cs.getD p [])) :: ssRest vo2 us2 cs p F) (Ext.take 0 rfl (Ext.take 0 rfl ⟨[], by rw [List.append_nil]; exact (ss_focus hul hp).symm⟩)) ?_
                        refine Any.start follows ?_
                        refine Any.take 0 rfl (by kernel_rfl) rfl (QOp.pure (Pure.move rfl)) ?_
                        refine Any.take 1 rfl (by kernel_rfl) rfl (QOp.pure (Pure.move rfl)) ?_
                        refine Any.take 2 rfl (by kernel_rfl) rfl (QOp.pure (Pure.move rfl)) ?_
                        refine Any.take 3 rfl (by kernel_rfl) rfl (QOp.pure (Pure.move rfl)) ?_
                        refine Any.take 4 rfl (by kernel_rfl) rfl (QOp.pure (Pure.idx1N sl24 (RdL.own 3 rfl) rfl rfl (by first | assumption | omega | (simp; omega)))) ?_
                        refine Any.take 5 rfl (by kernel_rfl) rfl (QOp.pure (Pure.ld cell32 rfl (RdL.own 3 rfl) (by first | exact ints_get (by omega) | exact bools_get (by omega) | exact strs_get (by omega) | exact vals_get (by first | omega | (simp; omega))))) ?_
                        refine Any.take 6 rfl (by kernel_rfl) rfl (QOp.pure (Pure.move rfl)) ?_
                        refine Any.take 7 rfl (by kernel_rfl) rfl (QOp.pure (Pure.move rfl)) ?_
                        refine Any.take 8 rfl (by kernel_rfl) rfl (QOp.pure (Pure.idx1N sl32 (RdL.own 1 rfl) rfl rfl (by first | assumption | omega | (simp; omega)))) ?_
                        refine Any.take 9 rfl (by kernel_rfl) rfl (QOp.pure (Pure.ld cell2 rfl (RdL.own 1 rfl) (by first | exact ints_get (by omega) | exact bools_get (by omega) | exact strs_get (by omega) | exact vals_get (by first | omega | (simp; omega))))) ?_
                        refine Any.one 10 (by kernel_rfl) ?_
                        refine OneL.loud rfl rfl (Loud.lit sl32 rfl rfl rfl (by simp [Value.oneCell'])) ?_
                        rintro v102 _ rfl
                        refine ⟨.inr (by first | exact Ext.right _ _ | exact Ext.right [_] _ | exact Ext.refl _), ?_⟩
                        refine Any.one 11 (by kernel_rfl) ?_
                        refine OneL.loud rfl rfl (Loud.append 3 rfl sl32 rfl rfl (RdL.own 0 rfl) (by simp [Value.oneCell']) (by omega) (by omega)) ?_
                        rintro v103 _ rfl
                        refine ⟨.inl (by kernel_rfl), ?_⟩
                        refine Any.take 12 rfl (by kernel_rfl) rfl (QOp.pure (Pure.idx1N sl24 (RdL.own 4 rfl) rfl rfl (by first | assumption | omega | (simp; omega)))) ?_
                        refine Any.one 13 (by kernel_rfl) ?_
                        refine OneL.store rfl (Stores.have_ (fun w hw => row_one 3 hw rfl) (fun h103 => Stores.row1 4 rfl size32 rfl rfl h103 (by omega))) (by kernel_rfl) ?_
                        refine Any.done (by kernel_rfl) ?_
                        refine Run.blk ?_
                        refine Run.region ?_
                        refine Ops.pure rfl (Pure.move rfl) ?_
                        refine Ops.pure rfl (Pure.add rfl rfl (by omega) (by omega)) ?_
                        refine Ops.pure rfl (Pure.assign rfl) ?_
                        refine Ops.nil ?_
                        refine Run.asrt ?_
                        refine ⟨i + 1, cs.set p (cs.getD p [] ++ [m.getD i 0]), us2.set p v103, vo2, q91, sd91, ⟨⟨by simp [hul], (set_snoc_perm hp).trans (by rw [take_snoc 0 (by omega)]; exact List.Perm.append_right _ hcp), by rw [List.length_set]; exact hc40, by rw [List.length_set]; intro _; omega, by omega, by omega⟩, by omega⟩, ⟨rfl, rfl, rfl, rfl, trivial⟩, ?_⟩
                        exact Ext.take 2 rfl (Ext.take 1 rfl ((ss_newE hul hp).trans (Ext.right [_] _)))
                      · skip
                        replace c85 := dF c85
                        refine Run.exit rfl ?_
                        refine Run.seq ?_
                        refine Run.region ?_
                        refine Ops.pure rfl (Pure.move rfl) ?_
                        refine Ops.pure rfl (Pure.assign rfl) ?_
                        refine Ops.nil ?_
                        refine Run.ext_ (L' := ssE vo2 us2 cs) (Ext.trans (Ext.left (ssE vo2 us2 cs) F) (Ext.right [.row 2 1 va (2 * n) (ints m), srcE b vc q6 sd6] (ssE vo2 us2 cs ++ F))) ?_
                        refine Run.ret1 rfl rfl ?_
                        have e : i = 2 * n := by omega
                        subst e
                        rw [List.take_of_length_le (by omega)] at hcp
                        exact ⟨us2, cs, hul, (validB_alls (z := n) hc40 (by omega) (hcp.trans hmp)).1, rfl⟩
                  · skip
                    replace c77 := dF c77
                    refine Run.skip ?_
                    refine Run.seq ?_
                    refine Run.seq ?_
                    refine Run.region ?_
                    refine Ops.pure rfl (Pure.assign rfl) ?_
                    refine Ops.nil ?_
                    refine Run.block ?_
                    refine Run.loop6 (X := Nat) (Y := List (List Int)) (Z := List Value) (V := Value) (U := Nat) (T := Int) (fun i cs us2 vo2 q6 sd6 => [(0, .pointer (some ⟨b, 0, none⟩)), (5, va), (10, vo2), (12, .int .i64 i)]) (fun i cs us2 vo2 q6 sd6 => .row 2 1 va (2 * n) (ints m) :: srcE b vc q6 sd6 :: (ssE vo2 us2 cs ++ F)) (fun i cs us2 vo2 q6 sd6 => us2.length = cs.length ∧ cs.flatten.Perm (m.take i) ∧ cs.length ≤ 40 ∧ (i < 2 * n → 0 < cs.length) ∧ i ≤ 2 * n ∧ q6 ≤ q + 60 + 2 * i) (fun i cs us2 vo2 q6 sd6 => 2 * n - i) 0 (List.replicate j []) us vo q61 sd61 ?_ ?_ ?_ ?_
                    · exact ⟨by simp [hus], by simp, by rw [List.length_replicate]; omega, by rw [List.length_replicate]; first | omega | (simp_all; omega), Nat.zero_le _, by omega⟩
                    · exact ⟨rfl, rfl, rfl, rfl, trivial⟩
                    · first
                        | exact Ext.eq (by unfold ssE; rw [List.length_replicate]; rfl)
                        | (unfold ssE
                           rw [List.length_replicate]
                           rw [List.replicate_succ', inner_app (by rw [List.length_replicate]; exact hus)]
                           exact Ext.take 2 rfl (Ext.take 2 rfl (Ext.take 2 rfl ((Ext.snocF _ _ _).trans (Ext.right [_] _)))))
                    · intro i cs us2 vo2 q6 sd6 hinv3
                      obtain ⟨hul, hcp, hc40, hc0, hi0, hq6⟩ := id hinv3
                      have hct : tot cs = (m.take i).length := by rw [← length_flatten, hcp.length_eq]
                      rw [List.length_take] at hct
                      refine Run.seq ?_
                      refine Run.seq ?_
                      refine Run.region ?_
                      refine Ops.pure rfl (Pure.move rfl) ?_
                      refine Ops.pure rfl (Pure.move rfl) ?_
                      refine Ops.pure rfl (Pure.len sl32 (RdL.own 0 rfl) rfl) ?_
                      refine Ops.pure rfl (Pure.lss rfl rfl) ?_
                      refine Ops.nil ?_
                      refine Run.cond rfl (fun c85 => ?_) (fun c85 => ?_)
                      · skip
                        replace c85 := dT c85
                        refine Run.skip ?_
                        refine Run.seq ?_
                        refine Run.block ?_
                        refine Run.seq ?_
                        refine Run.region ?_
                        refine Ops.pure rfl (Pure.move rfl) ?_
                        refine Ops.pure rfl (Pure.move rfl) ?_
                        refine Ops.pure rfl (Pure.len sl24 (RdL.own 2 rfl) rfl) ?_
                        refine Ops.go rfl (Loud.callO fn118 rfl (fun w hw => f_s_l00Src_pick _ w b vc co _ _ _ (cs.length : Int) (Sat.front 1 rfl hw) hc hb hcl (by omega) (by omega))) ?_
                        rintro v91 L91 hQ91
                        obtain ⟨x91, q91, sd91, hx91, hy91, hq91, rfl, rfl⟩ := hQ91
                        obtain ⟨p, rfl⟩ := Int.eq_ofNat_of_zero_le hx91
                        have hp : p < cs.length := by omega
                        have hcp2 := len_le_tot (ls := cs) (k := p) hp
                        refine Ops.pure rfl (Pure.assign rfl) ?_
                        refine Ops.nil ?_
                        refine Run.ext_ (L' := srcE b vc q91 sd91 :: .row 2 1 va (2 * n) (ints m) :: .row 2 1 (us2.getD p undef) (cs.getD p []).length (ints (cs.getD p [])) :: ssRest vo2 us2 cs p F) (Ext.take 0 rfl (Ext.take 0 rfl ⟨[], by rw [List.append_nil]; exact (ss_focus hul hp).symm⟩)) ?_
                        refine Any.start follows ?_
                        refine Any.take 0 rfl (by kernel_rfl) rfl (QOp.pure (Pure.move rfl)) ?_
                        refine Any.take 1 rfl (by kernel_rfl) rfl (QOp.pure (Pure.move rfl)) ?_
                        refine Any.take 2 rfl (by kernel_rfl) rfl (QOp.pure (Pure.move rfl)) ?_
                        refine Any.take 3 rfl (by kernel_rfl) rfl (QOp.pure (Pure.move rfl)) ?_
                        refine Any.take 4 rfl (by kernel_rfl) rfl (QOp.pure (Pure.idx1N sl24 (RdL.own 3 rfl) rfl rfl (by first | assumption | omega | (simp; omega)))) ?_
                        refine Any.take 5 rfl (by kernel_rfl) rfl (QOp.pure (Pure.ld cell32 rfl (RdL.own 3 rfl) (by first | exact ints_get (by omega) | exact bools_get (by omega) | exact strs_get (by omega) | exact vals_get (by first | omega | (simp; omega))))) ?_
                        refine Any.take 6 rfl (by kernel_rfl) rfl (QOp.pure (Pure.move rfl)) ?_
                        refine Any.take 7 rfl (by kernel_rfl) rfl (QOp.pure (Pure.move rfl)) ?_
                        refine Any.take 8 rfl (by kernel_rfl) rfl (QOp.pure (Pure.idx1N sl32 (RdL.own 1 rfl) rfl rfl (by first | assumption | omega | (simp; omega)))) ?_
                        refine Any.take 9 rfl (by kernel_rfl) rfl (QOp.pure (Pure.ld cell2 rfl (RdL.own 1 rfl) (by first | exact ints_get (by omega) | exact bools_get (by omega) | exact strs_get (by omega) | exact vals_get (by first | omega | (simp; omega))))) ?_
                        refine Any.one 10 (by kernel_rfl) ?_
                        refine OneL.loud rfl rfl (Loud.lit sl32 rfl rfl rfl (by simp [Value.oneCell'])) ?_
                        rintro v102 _ rfl
                        refine ⟨.inr (by first | exact Ext.right _ _ | exact Ext.right [_] _ | exact Ext.refl _), ?_⟩
                        refine Any.one 11 (by kernel_rfl) ?_
                        refine OneL.loud rfl rfl (Loud.append 3 rfl sl32 rfl rfl (RdL.own 0 rfl) (by simp [Value.oneCell']) (by omega) (by omega)) ?_
                        rintro v103 _ rfl
                        refine ⟨.inl (by kernel_rfl), ?_⟩
                        refine Any.take 12 rfl (by kernel_rfl) rfl (QOp.pure (Pure.idx1N sl24 (RdL.own 4 rfl) rfl rfl (by first | assumption | omega | (simp; omega)))) ?_
                        refine Any.one 13 (by kernel_rfl) ?_
                        refine OneL.store rfl (Stores.have_ (fun w hw => row_one 3 hw rfl) (fun h103 => Stores.row1 4 rfl size32 rfl rfl h103 (by omega))) (by kernel_rfl) ?_
                        refine Any.done (by kernel_rfl) ?_
                        refine Run.blk ?_
                        refine Run.region ?_
                        refine Ops.pure rfl (Pure.move rfl) ?_
                        refine Ops.pure rfl (Pure.add rfl rfl (by omega) (by omega)) ?_
                        refine Ops.pure rfl (Pure.assign rfl) ?_
                        refine Ops.nil ?_
                        refine Run.asrt ?_
                        refine ⟨i + 1, cs.set p (cs.getD p [] ++ [m.getD i 0]), us2.set p v103, vo2, q91, sd91, ⟨⟨by simp [hul], (set_snoc_perm hp).trans (by rw [take_snoc 0 (by omega)]; exact List.Perm.append_right _ hcp), by rw [List.length_set]; exact hc40, by rw [List.length_set]; intro _; omega, by omega, by omega⟩, by omega⟩, ⟨rfl, rfl, rfl, rfl, trivial⟩, ?_⟩
                        exact Ext.take 2 rfl (Ext.take 1 rfl ((ss_newE hul hp).trans (Ext.right [_] _)))
                      · skip
                        replace c85 := dF c85
                        refine Run.exit rfl ?_
                        refine Run.seq ?_
                        refine Run.region ?_
                        refine Ops.pure rfl (Pure.move rfl) ?_
                        refine Ops.pure rfl (Pure.assign rfl) ?_
                        refine Ops.nil ?_
                        refine Run.ext_ (L' := ssE vo2 us2 cs) (Ext.trans (Ext.left (ssE vo2 us2 cs) F) (Ext.right [.row 2 1 va (2 * n) (ints m), srcE b vc q6 sd6] (ssE vo2 us2 cs ++ F))) ?_
                        refine Run.ret1 rfl rfl ?_
                        have e : i = 2 * n := by omega
                        subst e
                        rw [List.take_of_length_le (by omega)] at hcp
                        exact ⟨us2, cs, hul, (validB_alls (z := n) hc40 (by omega) (hcp.trans hmp)).1, rfl⟩
                · skip
                  replace c73 := Bool.eq_false_of_ne c73
                  have c73' := dF c73
                  refine Ops.guardN rfl rfl rfl rfl (by rw [c73]; decide) ?_
                  refine Ops.guardN rfl rfl rfl rfl (by rw [c73]; decide) ?_
                  refine Ops.pure rfl (Pure.pickF rfl c73 rfl) ?_
                  refine Ops.nil ?_
                  refine Run.condEF rfl rfl ?_
                  refine Run.skip ?_
                  refine Run.seq ?_
                  refine Run.seq ?_
                  refine Run.region ?_
                  refine Ops.pure rfl (Pure.assign rfl) ?_
                  refine Ops.nil ?_
                  refine Run.block ?_
                  refine Run.loop6 (X := Nat) (Y := List (List Int)) (Z := List Value) (V := Value) (U := Nat) (T := Int) (fun i cs us2 vo2 q6 sd6 => [(0, .pointer (some ⟨b, 0, none⟩)), (5, va), (10, vo2), (12, .int .i64 i)]) (fun i cs us2 vo2 q6 sd6 => .row 2 1 va (2 * n) (ints m) :: srcE b vc q6 sd6 :: (ssE vo2 us2 cs ++ F)) (fun i cs us2 vo2 q6 sd6 => us2.length = cs.length ∧ cs.flatten.Perm (m.take i) ∧ cs.length ≤ 40 ∧ (i < 2 * n → 0 < cs.length) ∧ i ≤ 2 * n ∧ q6 ≤ q + 60 + 2 * i) (fun i cs us2 vo2 q6 sd6 => 2 * n - i) 0 (List.replicate j []) us vo q61 sd61 ?_ ?_ ?_ ?_
                  · exact ⟨by simp [hus], by simp, by rw [List.length_replicate]; omega, by rw [List.length_replicate]; first | omega | (simp_all; omega), Nat.zero_le _, by omega⟩
                  · exact ⟨rfl, rfl, rfl, rfl, trivial⟩
                  · first
                      | exact Ext.eq (by unfold ssE; rw [List.length_replicate]; rfl)
                      | (unfold ssE
                         rw [List.length_replicate]
                         rw [List.replicate_succ', inner_app (by rw [List.length_replicate]; exact hus)]
                         exact Ext.take 2 rfl (Ext.take 2 rfl (Ext.take 2 rfl ((Ext.snocF _ _ _).trans (Ext.right [_] _)))))
                  · intro i cs us2 vo2 q6 sd6 hinv3
                    obtain ⟨hul, hcp, hc40, hc0, hi0, hq6⟩ := id hinv3
                    have hct : tot cs = (m.take i).length := by rw [← length_flatten, hcp.length_eq]
                    rw [List.length_take] at hct
                    refine Run.seq ?_
                    refine Run.seq ?_
                    refine Run.region ?_
                    refine Ops.pure rfl (Pure.move rfl) ?_
                    refine Ops.pure rfl (Pure.move rfl) ?_
                    refine Ops.pure rfl (Pure.len sl32 (RdL.own 0 rfl) rfl) ?_
                    refine Ops.pure rfl (Pure.lss rfl rfl) ?_
                    refine Ops.nil ?_
                    refine Run.cond rfl (fun c85 => ?_) (fun c85 => ?_)
                    · skip
                      replace c85 := dT c85
                      refine Run.skip ?_
                      refine Run.seq ?_
                      refine Run.block ?_
                      refine Run.seq ?_
                      refine Run.region ?_
                      refine Ops.pure rfl (Pure.move rfl) ?_
                      refine Ops.pure rfl (Pure.move rfl) ?_
                      refine Ops.pure rfl (Pure.len sl24 (RdL.own 2 rfl) rfl) ?_
                      refine Ops.go rfl (Loud.callO fn118 rfl (fun w hw => f_s_l00Src_pick _ w b vc co _ _ _ (cs.length : Int) (Sat.front 1 rfl hw) hc hb hcl (by omega) (by omega))) ?_
                      rintro v91 L91 hQ91
                      obtain ⟨x91, q91, sd91, hx91, hy91, hq91, rfl, rfl⟩ := hQ91
                      obtain ⟨p, rfl⟩ := Int.eq_ofNat_of_zero_le hx91
                      have hp : p < cs.length := by omega
                      have hcp2 := len_le_tot (ls := cs) (k := p) hp
                      refine Ops.pure rfl (Pure.assign rfl) ?_
                      refine Ops.nil ?_
                      refine Run.ext_ (L' := srcE b vc q91 sd91 :: .row 2 1 va (2 * n) (ints m) :: .row 2 1 (us2.getD p undef) (cs.getD p []).length (ints (cs.getD p [])) :: ssRest vo2 us2 cs p F) (Ext.take 0 rfl (Ext.take 0 rfl ⟨[], by rw [List.append_nil]; exact (ss_focus hul hp).symm⟩)) ?_
                      refine Any.start follows ?_
                      refine Any.take 0 rfl (by kernel_rfl) rfl (QOp.pure (Pure.move rfl)) ?_
                      refine Any.take 1 rfl (by kernel_rfl) rfl (QOp.pure (Pure.move rfl)) ?_
                      refine Any.take 2 rfl (by kernel_rfl) rfl (QOp.pure (Pure.move rfl)) ?_
                      refine Any.take 3 rfl (by kernel_rfl) rfl (QOp.pure (Pure.move rfl)) ?_
                      refine Any.take 4 rfl (by kernel_rfl) rfl (QOp.pure (Pure.idx1N sl24 (RdL.own 3 rfl) rfl rfl (by first | assumption | omega | (simp; omega)))) ?_
                      refine Any.take 5 rfl (by kernel_rfl) rfl (QOp.pure (Pure.ld cell32 rfl (RdL.own 3 rfl) (by first | exact ints_get (by omega) | exact bools_get (by omega) | exact strs_get (by omega) | exact vals_get (by first | omega | (simp; omega))))) ?_
                      refine Any.take 6 rfl (by kernel_rfl) rfl (QOp.pure (Pure.move rfl)) ?_
                      refine Any.take 7 rfl (by kernel_rfl) rfl (QOp.pure (Pure.move rfl)) ?_
                      refine Any.take 8 rfl (by kernel_rfl) rfl (QOp.pure (Pure.idx1N sl32 (RdL.own 1 rfl) rfl rfl (by first | assumption | omega | (simp; omega)))) ?_
                      refine Any.take 9 rfl (by kernel_rfl) rfl (QOp.pure (Pure.ld cell2 rfl (RdL.own 1 rfl) (by first | exact ints_get (by omega) | exact bools_get (by omega) | exact strs_get (by omega) | exact vals_get (by first | omega | (simp; omega))))) ?_
                      refine Any.one 10 (by kernel_rfl) ?_
                      refine OneL.loud rfl rfl (Loud.lit sl32 rfl rfl rfl (by simp [Value.oneCell'])) ?_
                      rintro v102 _ rfl
                      refine ⟨.inr (by first | exact Ext.right _ _ | exact Ext.right [_] _ | exact Ext.refl _), ?_⟩
                      refine Any.one 11 (by kernel_rfl) ?_
                      refine OneL.loud rfl rfl (Loud.append 3 rfl sl32 rfl rfl (RdL.own 0 rfl) (by simp [Value.oneCell']) (by omega) (by omega)) ?_
                      rintro v103 _ rfl
                      refine ⟨.inl (by kernel_rfl), ?_⟩
                      refine Any.take 12 rfl (by kernel_rfl) rfl (QOp.pure (Pure.idx1N sl24 (RdL.own 4 rfl) rfl rfl (by first | assumption | omega | (simp; omega)))) ?_
                      refine Any.one 13 (by kernel_rfl) ?_
                      refine OneL.store rfl (Stores.have_ (fun w hw => row_one 3 hw rfl) (fun h103 => Stores.row1 4 rfl size32 rfl rfl h103 (by omega))) (by kernel_rfl) ?_
                      refine Any.done (by kernel_rfl) ?_
                      refine Run.blk ?_
                      refine Run.region ?_
                      refine Ops.pure rfl (Pure.move rfl) ?_
                      refine Ops.pure rfl (Pure.add rfl rfl (by omega) (by omega)) ?_
                      refine Ops.pure rfl (Pure.assign rfl) ?_
                      refine Ops.nil ?_
                      refine Run.asrt ?_
                      refine ⟨i + 1, cs.set p (cs.getD p [] ++ [m.getD i 0]), us2.set p v103, vo2, q91, sd91, ⟨⟨by simp [hul], (set_snoc_perm hp).trans (by rw [take_snoc 0 (by omega)]; exact List.Perm.append_right _ hcp), by rw [List.length_set]; exact hc40, by rw [List.length_set]; intro _; omega, by omega, by omega⟩, by omega⟩, ⟨rfl, rfl, rfl, rfl, trivial⟩, ?_⟩
                      exact Ext.take 2 rfl (Ext.take 1 rfl ((ss_newE hul hp).trans (Ext.right [_] _)))
                    · skip
                      replace c85 := dF c85
                      refine Run.exit rfl ?_
                      refine Run.seq ?_
                      refine Run.region ?_
                      refine Ops.pure rfl (Pure.move rfl) ?_
                      refine Ops.pure rfl (Pure.assign rfl) ?_
                      refine Ops.nil ?_
                      refine Run.ext_ (L' := ssE vo2 us2 cs) (Ext.trans (Ext.left (ssE vo2 us2 cs) F) (Ext.right [.row 2 1 va (2 * n) (ints m), srcE b vc q6 sd6] (ssE vo2 us2 cs ++ F))) ?_
                      refine Run.ret1 rfl rfl ?_
                      have e : i = 2 * n := by omega
                      subst e
                      rw [List.take_of_length_le (by omega)] at hcp
                      exact ⟨us2, cs, hul, (validB_alls (z := n) hc40 (by omega) (hcp.trans hmp)).1, rfl⟩

set_option maxRecDepth 4000 in
/-- spec.A2Code -/
theorem f_s_A2Code (w : World) (vc : Value) (co : List Int) (hc : Rd w vc 1 co.length (AW.bytes co)) (hb : ∀ x ∈ co, 0 ≤ x ∧ x ≤ 255) (hcl : co.length ≤ 1000000000) : Ret Try.prog 12 [vc] w (fun u L => ∃ (us : List Value) (cs : List (List Int)), us.length = cs.length ∧ validB cs = true ∧ L = ssE u us cs) := by
  have hv1 := hc.one
  refine Ret.enter Try.func12 rfl Try.ntmps12 rfl ?_
  refine Run.seq ?_
  refine Run.region ?_
  refine Ops.pure rfl (Pure.assign rfl) ?_
  refine Ops.nil ?_
  refine Run.seq ?_
  refine Run.region ?_
  refine Ops.pure rfl (Pure.move rfl) ?_
  refine Ops.go rfl (Loud.callR fn87 rfl (fun w hw => f_s_l00From w vc co hv1)) ?_
  rintro v4 _ ⟨L4, hQ4, rfl⟩
  obtain ⟨s4, rfl, rfl⟩ := hQ4
  refine Ops.go rfl (Loud.callO fn86 rfl (fun w hw => f_s_l14Draw _ w _ vc co 0 0 _ (Sat.front 0 rfl hw) hc hb hcl (by omega))) ?_
  rintro v5 L5 hQ5
  obtain ⟨us5, cs5, hul5, hcv5, rfl⟩ := hQ5
  refine Ops.pure rfl (Pure.assign rfl) ?_
  refine Ops.nil ?_
  refine Run.ret1 rfl rfl ?_
  exact ⟨us5, cs5, hul5, hcv5, rfl⟩

end Go.Proofs.Ytmfinopdokkjcaa
